import PyProof.Rows.All
import Wide.All
import OpenK.AllK
import Wide.FinOn
import PySem.Challenge.RW_digteller_k51_whole_digs
import HandS.ForMost
import HandS.ForExc
import HandS.Flow
import HandS.Style
import HandS.TupAny
import HandS.Wide
import HandS.Deep
import HandS.Conv
import HandS.IsInst
import HandS.Dict
import HandS.Text
import HandS.More
import HandS.Iter
import HandS.TryOnly
import HandS.ExcOwn
import HandS.SortInts
import KE.KEqDeep
import HandS.TryMany
set_option Elab.async false
set_option linter.all false
set_option maxRecDepth 100000
/-! Dn, part A: values as trees, a store of mutable objects, the relation to the abstract heap, the readings. -/
namespace Dn
open PySem PySem.Spec PyProof.Rows L2

/-! ### values and objects -/
inductive Va where
  | non | bl (b : Bool) | int (i : Int) | str (x : Str)
  | tup (xs : List Va) | lst (xs : List Va) | ext (xs : List Va) | dicK (kvs : List (Key × Va)) | dicT (kvs : List (List Key × Va)) | ref (i : Nat)
inductive Ob where
  | lst (xs : List Va) | dicK (kvs : List (Key × Va)) | dicT (kvs : List (List Key × Va)) | ins (C : Addr) (fs : List (Str × Va)) | dead
abbrev Sto := List Ob
abbrev En := List (Option Va)

mutual
inductive Rl (K : PySem.W.Frag) (F : Hp) (as : List Addr) : Va → V → Prop
  | non : Rl K F as .non .non
  | bl (b : Bool) : Rl K F as (.bl b) (.bl b)
  | int (i : Int) : Rl K F as (.int i) (.int i)
  | str (x : Str) : Rl K F as (.str x) (.str x)
  | tup {a : Addr} {xs : List Va} {vs : List V} : F a = some (.tup vs) → Rls K F as xs vs → Rl K F as (.tup xs) (.ref a)
  | lst {a : Addr} {xs : List Va} {vs : List V} : F a = some (.lst vs) → Rls K F as xs vs → Rl K F as (.lst xs) (.ref a)
  | ext {a : Addr} {xs : List Va} {vs : List V} : (SqL K F a vs ∨ SqT K F a vs) → Rls K F as xs vs → Rl K F as (.ext xs) (.ref a)
  | dicK {a : Addr} {kvs : List (Key × Va)} {ks : List (Key × V)} : F a = some (.dK ks) → RlK K F as kvs ks → Rl K F as (.dicK kvs) (.ref a)
  | dicT {a : Addr} {kvs : List (List Key × Va)} {ks : List (List Key × V)} : F a = some (.dT ks) → RlT K F as kvs ks → Rl K F as (.dicT kvs) (.ref a)
  | ref {i : Nat} {a : Addr} : as[i]? = some a → Rl K F as (.ref i) (.ref a)
inductive Rls (K : PySem.W.Frag) (F : Hp) (as : List Addr) : List Va → List V → Prop
  | nil : Rls K F as [] []
  | cons {x : Va} {v : V} {xs : List Va} {vs : List V} : Rl K F as x v → Rls K F as xs vs → Rls K F as (x :: xs) (v :: vs)
inductive RlK (K : PySem.W.Frag) (F : Hp) (as : List Addr) : List (Key × Va) → List (Key × V) → Prop
  | nil : RlK K F as [] []
  | cons {k : Key} {x : Va} {v : V} {xs : List (Key × Va)} {vs : List (Key × V)} : Rl K F as x v → RlK K F as xs vs → RlK K F as ((k, x) :: xs) ((k, v) :: vs)
inductive RlT (K : PySem.W.Frag) (F : Hp) (as : List Addr) : List (List Key × Va) → List (List Key × V) → Prop
  | nil : RlT K F as [] []
  | cons {k : List Key} {x : Va} {v : V} {xs : List (List Key × Va)} {vs : List (List Key × V)} : Rl K F as x v → RlT K F as xs vs → RlT K F as ((k, x) :: xs) ((k, v) :: vs)
end

/-- the frozen part and the list of addresses grow -/
structure Le (F : Hp) (as : List Addr) (F' : Hp) (as' : List Addr) : Prop where
  f : ∀ a o, F a = some o → F' a = some o
  a : ∀ (i : Nat) (p : Addr), as[i]? = some p → as'[i]? = some p
theorem Le.refl {F : Hp} {as : List Addr} : Le F as F as := ⟨fun _ _ h => h, fun _ _ h => h⟩
theorem Le.trans {F F1 F2 : Hp} {as as1 as2 : List Addr} (x : Le F as F1 as1) (y : Le F1 as1 F2 as2) : Le F as F2 as2 := ⟨fun a o h => y.f a o (x.f a o h), fun i p h => y.a i p (x.a i p h)⟩
theorem Le.new {F : Hp} {as : List Addr} {p : Addr} {o : HO} (h : F p = none) : Le F as (upd F p o) as := ⟨fun a u e => by
  rw [upd_ne (ne_of_none e h)]
  exact e, fun _ _ h => h⟩
theorem Le.push {F : Hp} {as : List Addr} {p : Addr} : Le F as F (as ++ [p]) := ⟨fun _ _ h => h, fun i a e => by
  rw [List.getElem?_append_left (List.getElem?_eq_some_iff.mp e).1]
  exact e⟩
theorem rd_mono {F F' : Hp} {a : Addr} {u : HO} (e : ∀ a o, F a = some o → F' a = some o) (h : Rd F a u) : Rd F' a u := by
  rcases h with h | ⟨o, h⟩
  · exact Or.inl (e a _ h)
  · exact Or.inr ⟨o, e a _ h⟩
theorem sqL_mono {K : PySem.W.Frag} {F F' : Hp} {a : Addr} {xs : List V} (e : ∀ a o, F a = some o → F' a = some o) (h : SqL K F a xs) : SqL K F' a xs := by
  rcases h with h | h
  · exact Or.inl (rd_mono e h)
  · exact Or.inr h
theorem sqT_mono {K : PySem.W.Frag} {F F' : Hp} {a : Addr} {xs : List V} (e : ∀ a o, F a = some o → F' a = some o) (h : SqT K F a xs) : SqT K F' a xs := by
  rcases h with h | h
  · exact Or.inl (rd_mono e h)
  · exact Or.inr h
section
variable {K : PySem.W.Frag} {F F' G : Hp} {as as' : List Addr}
mutual
theorem Rl.mono (e : Le F as F' as') : ∀ {x : Va} {v : V}, Rl K F as x v → Rl K F' as' x v
  | _, _, .non => .non
  | _, _, .bl b => .bl b
  | _, _, .int i => .int i
  | _, _, .str x => .str x
  | _, _, .tup h r => .tup (e.f _ _ h) (Rls.mono e r)
  | _, _, .lst h r => .lst (e.f _ _ h) (Rls.mono e r)
  | _, _, .ext h r => .ext (h.imp (sqL_mono e.f) (sqT_mono e.f)) (Rls.mono e r)
  | _, _, .dicK h r => .dicK (e.f _ _ h) (RlK.mono e r)
  | _, _, .dicT h r => .dicT (e.f _ _ h) (RlT.mono e r)
  | _, _, .ref h => .ref (e.a _ _ h)
theorem Rls.mono (e : Le F as F' as') : ∀ {xs : List Va} {vs : List V}, Rls K F as xs vs → Rls K F' as' xs vs
  | _, _, .nil => .nil
  | _, _, .cons h r => .cons (Rl.mono e h) (Rls.mono e r)
theorem RlK.mono (e : Le F as F' as') : ∀ {xs : List (Key × Va)} {vs : List (Key × V)}, RlK K F as xs vs → RlK K F' as' xs vs
  | _, _, .nil => .nil
  | _, _, .cons h r => .cons (Rl.mono e h) (RlK.mono e r)
theorem RlT.mono (e : Le F as F' as') : ∀ {xs : List (List Key × Va)} {vs : List (List Key × V)}, RlT K F as xs vs → RlT K F' as' xs vs
  | _, _, .nil => .nil
  | _, _, .cons h r => .cons (Rl.mono e h) (RlT.mono e r)
end
end
section
variable {K : PySem.W.Frag} {F F' H G : Hp} {as : List Addr} {xs ys : List Va} {vs ws : List V}
theorem Rls.len : ∀ {xs : List Va} {vs : List V}, Rls K F as xs vs → xs.length = vs.length
  | _, _, .nil => rfl
  | _, _, .cons _ r => congrArg (· + 1) (Rls.len r)
theorem Rls.app : ∀ {xs ys : List Va} {vs ws : List V}, Rls K F as xs vs → Rls K F as ys ws → Rls K F as (xs ++ ys) (vs ++ ws)
  | _, _, _, _, .nil, s => s
  | _, _, _, _, .cons h r, s => .cons h (Rls.app r s)
theorem Rls.get : ∀ {xs : List Va} {vs : List V} {i : Nat} {x : Va}, Rls K F as xs vs → xs[i]? = some x → ∃ v, vs[i]? = some v ∧ Rl K F as x v
  | _, _, _, _, .nil, e => by simp at e
  | _, _, 0, _, .cons h _, e => by
    simp at e
    subst e
    exact ⟨_, rfl, h⟩
  | _, _, i + 1, x, .cons _ r, e => by
    obtain ⟨v, h1, h2⟩ := Rls.get (i := i) (x := x) r (by simpa using e)
    exact ⟨v, by simpa using h1, h2⟩
theorem Rls.getV : ∀ {xs : List Va} {vs : List V} {i : Nat} {v : V}, Rls K F as xs vs → vs[i]? = some v → ∃ x, xs[i]? = some x ∧ Rl K F as x v
  | _, _, _, _, .nil, e => by simp at e
  | _, _, 0, _, .cons h _, e => by
    simp at e
    subst e
    exact ⟨_, rfl, h⟩
  | _, _, i + 1, x, .cons _ r, e => by
    obtain ⟨v, h1, h2⟩ := Rls.getV (i := i) (v := x) r (by simpa using e)
    exact ⟨v, by simpa using h1, h2⟩
theorem Rls.set {x : Va} {v : V} (h : Rl K F as x v) : ∀ {xs : List Va} {vs : List V} (i : Nat), Rls K F as xs vs → Rls K F as (xs.set i x) (vs.set i v)
  | _, _, _, .nil => .nil
  | _, _, 0, .cons _ t => .cons h t
  | _, _, i + 1, .cons q t => .cons q (Rls.set h i t)
theorem Rls.take : ∀ {xs : List Va} {vs : List V} (n : Nat), Rls K F as xs vs → Rls K F as (xs.take n) (vs.take n)
  | _, _, 0, _ => .nil
  | _, _, _ + 1, .nil => .nil
  | _, _, n + 1, .cons r t => .cons r (Rls.take n t)
theorem Rls.drop : ∀ {xs : List Va} {vs : List V} (n : Nat), Rls K F as xs vs → Rls K F as (xs.drop n) (vs.drop n)
  | _, _, 0, r => r
  | _, _, _ + 1, .nil => .nil
  | _, _, n + 1, .cons _ t => Rls.drop n t
theorem Rls.dropLast (h : Rls K F as xs vs) : Rls K F as xs.dropLast vs.dropLast := by
  rw [List.dropLast_eq_take, List.dropLast_eq_take, h.len]
  exact h.take _
theorem Rls.reverse : ∀ {xs : List Va} {vs : List V}, Rls K F as xs vs → Rls K F as xs.reverse vs.reverse
  | _, _, .nil => .nil
  | _, _, .cons h r => by
    rw [List.reverse_cons, List.reverse_cons]
    exact (Rls.reverse r).app (.cons h .nil)
theorem Rls.eraseIdx : ∀ {xs : List Va} {vs : List V} (i : Nat), Rls K F as xs vs → Rls K F as (xs.eraseIdx i) (vs.eraseIdx i)
  | _, _, _, .nil => .nil
  | _, _, 0, .cons _ t => t
  | _, _, i + 1, .cons r t => .cons r (Rls.eraseIdx i t)
theorem Rls.rep (h : Rls K F as xs vs) : ∀ k : Nat, Rls K F as (List.replicate k xs).flatten (List.replicate k vs).flatten
  | 0 => .nil
  | k + 1 => by
    rw [List.replicate_succ, List.replicate_succ, List.flatten_cons, List.flatten_cons]
    exact h.app (Rls.rep h k)
theorem Rls.ints : ∀ {ns : List Int} {vs : List V}, Rls K F as (ns.map Va.int) vs → vs = ns.map V.int
  | [], _, .nil => rfl
  | n :: ns, _, .cons (.int _) r => congrArg (V.int n :: ·) (Rls.ints r)
theorem Rls.ofInts : ∀ {ns : List Int}, Rls K F as (ns.map Va.int) (ns.map V.int)
  | [] => .nil
  | n :: ns => .cons (.int n) Rls.ofInts
theorem Rls.bls : ∀ {ns : List Bool} {vs : List V}, Rls K F as (ns.map Va.bl) vs → vs = ns.map V.bl
  | [], _, .nil => rfl
  | n :: ns, _, .cons (.bl _) r => congrArg (V.bl n :: ·) (Rls.bls r)
theorem Rls.strs : ∀ {ns : List Str} {vs : List V}, Rls K F as (ns.map Va.str) vs → vs = ns.map V.str
  | [], _, .nil => rfl
  | n :: ns, _, .cons (.str _) r => congrArg (V.str n :: ·) (Rls.strs r)
theorem Rls.ofStrs : ∀ {ns : List Str}, Rls K F as (ns.map Va.str) (ns.map V.str)
  | [] => .nil
  | n :: ns => .cons (.str n) Rls.ofStrs
end

/-! ### the store and the heap -/
inductive RlF (K : PySem.W.Frag) (F : Hp) (as : List Addr) : List (Str × Va) → List (Str × V) → Prop
  | nil : RlF K F as [] []
  | cons {f : Str} {x : Va} {v : V} {xs : List (Str × Va)} {vs : List (Str × V)} : Rl K F as x v → RlF K F as xs vs → RlF K F as ((f, x) :: xs) ((f, v) :: vs)
theorem RlF.mono {K : PySem.W.Frag} {F F' : Hp} {as as' : List Addr} (e : Le F as F' as') : ∀ {xs : List (Str × Va)} {vs : List (Str × V)}, RlF K F as xs vs → RlF K F' as' xs vs
  | _, _, .nil => .nil
  | _, _, .cons h r => .cons (h.mono e) (RlF.mono e r)
def ObR (K : PySem.W.Frag) (F : Hp) (as : List Addr) (H : Hp) (a : Addr) : Ob → Prop
  | .lst xs => F a = none ∧ ∃ vs, H a = some (.lst vs) ∧ Rls K F as xs vs
  | .dicK kvs => F a = none ∧ ∃ ks, H a = some (.dK ks) ∧ RlK K F as kvs ks
  | .dicT kvs => F a = none ∧ ∃ ks, H a = some (.dT ks) ∧ RlT K F as kvs ks
  | .ins C fs => F a = none ∧ ∃ dx gs, H a = some (.ins C dx gs) ∧ RlF K F as fs gs
  | .dead => True
/-- F: what is frozen; G: what else stands and stays as it is; as: where the store's objects lie -/
structure Sim (K : PySem.W.Frag) (F G : Hp) (as : List Addr) (s : Sto) (H : Hp) : Prop where
  sub : ∀ a o, F a = some o → H a = some o
  fr : ∀ a o, G a = some o → H a = some o ∧ F a = none ∧ a ∉ as
  len : as.length = s.length
  here : ∀ a ∈ as, ∃ o, H a = some o
  nd : as.Nodup
  obj : ∀ (i : Nat) (a : Addr) (o : Ob), as[i]? = some a → s[i]? = some o → ObR K F as H a o
section
variable {K : PySem.W.Frag} {F F' H H' G : Hp} {as as' : List Addr} {s : Sto}
theorem ObR.mono {a : Addr} {o : Ob} (e : Le F as F' as') (hF : F' a = none) (hH : H' a = H a) (h : ObR K F as H a o) : ObR K F' as' H' a o := by
  cases o with
  | lst xs =>
    obtain ⟨_, vs, h1, h2⟩ := h
    exact ⟨hF, vs, hH.trans h1, h2.mono e⟩
  | dicK kvs =>
    obtain ⟨_, vs, h1, h2⟩ := h
    exact ⟨hF, vs, hH.trans h1, h2.mono e⟩
  | dicT kvs =>
    obtain ⟨_, vs, h1, h2⟩ := h
    exact ⟨hF, vs, hH.trans h1, h2.mono e⟩
  | ins C fs =>
    obtain ⟨_, dx, gs, h1, h2⟩ := h
    exact ⟨hF, dx, gs, hH.trans h1, h2.mono e⟩
  | dead => trivial
theorem Sim.fnone (S : Sim K F G as s H) {p : Addr} (h : H p = none) : F p = none := by
  cases q : F p with
  | none => rfl
  | some o =>
    rw [S.sub p o q] at h
    cases h
/-- a new frozen thing -/
theorem Sim.froz {p : Addr} {o : HO} (S : Sim K F G as s H) (h : H p = none) : Sim K (upd F p o) G as s (upd H p o) where
  sub := fun a u e => by
    by_cases q : a = p
    · subst q
      rw [upd_same] at e ⊢
      exact e
    · rw [upd_ne q] at e ⊢
      exact S.sub a u e
  fr := fun a u e => by
    obtain ⟨e1, e2, e3⟩ := S.fr a u e
    have ne := ne_of_none e1 h
    rw [upd_ne ne, upd_ne ne]
    exact ⟨e1, e2, e3⟩
  len := S.len
  here := fun a ha => by
    obtain ⟨o', q⟩ := S.here a ha
    rw [upd_ne (ne_of_none q h)]
    exact ⟨o', q⟩
  nd := S.nd
  obj := fun i a ob h1 h2 => by
    obtain ⟨o', q⟩ := S.here a (List.mem_of_getElem? h1)
    have ne := ne_of_none q h
    have r := S.obj i a ob h1 h2
    cases ob with
    | dead => trivial
    | lst xs => exact r.mono (Le.new (S.fnone h)) (by rw [upd_ne ne]; exact r.1) (upd_ne ne)
    | dicK xs => exact r.mono (Le.new (S.fnone h)) (by rw [upd_ne ne]; exact r.1) (upd_ne ne)
    | dicT xs => exact r.mono (Le.new (S.fnone h)) (by rw [upd_ne ne]; exact r.1) (upd_ne ne)
    | ins C xs => exact r.mono (Le.new (S.fnone h)) (by rw [upd_ne ne]; exact r.1) (upd_ne ne)
theorem ObR.fn {a : Addr} {o : Ob} (h : ObR K F as H a o) (hd : o ≠ .dead) : F a = none := by
  cases o with
  | dead => exact absurd rfl hd
  | lst xs => exact h.1
  | dicK xs => exact h.1
  | dicT xs => exact h.1
  | ins C xs => exact h.1
theorem ObR.mono2 {a : Addr} {o : Ob} (e : Le F as F' as') (hF : F a = none → F' a = none) (hH : H' a = H a) (h : ObR K F as H a o) : ObR K F' as' H' a o := by
  cases o with
  | dead => trivial
  | lst xs => exact h.mono e (hF h.1) hH
  | dicK xs => exact h.mono e (hF h.1) hH
  | dicT xs => exact h.mono e (hF h.1) hH
  | ins C xs => exact h.mono e (hF h.1) hH
/-- a new object in the store; H2: the heap with it -/
theorem Sim.push {p : Addr} {o : Ob} (S : Sim K F G as s H) (h : H p = none) (hk : ∀ a u, H a = some u → H' a = some u) (hp : ObR K F (as ++ [p]) H' p o) (hh : ∃ u, H' p = some u) : Sim K F G (as ++ [p]) (s ++ [o]) H' where
  sub := fun a u e => hk a u (S.sub a u e)
  fr := fun a u e => by
    obtain ⟨e1, e2, e3⟩ := S.fr a u e
    refine ⟨hk a u e1, e2, fun z => ?_⟩
    rcases List.mem_append.mp z with z | z
    · exact e3 z
    · rw [List.mem_singleton.mp z, h] at e1
      cases e1
  len := by rw [List.length_append, List.length_append, S.len]; rfl
  here := fun a ha => by
    rcases List.mem_append.mp ha with q | q
    · obtain ⟨u, e⟩ := S.here a q
      exact ⟨u, hk a u e⟩
    · rw [List.mem_singleton.mp q]
      exact hh
  nd := by
    refine List.nodup_append.mpr ⟨S.nd, by simp, fun a ha b hb e => ?_⟩
    obtain ⟨u, q⟩ := S.here a ha
    rw [List.mem_singleton.mp hb] at e
    rw [e, h] at q
    cases q
  obj := fun i a ob h1 h2 => by
    by_cases hi : i < as.length
    · rw [List.getElem?_append_left hi] at h1
      rw [List.getElem?_append_left (by rw [← S.len]; exact hi)] at h2
      obtain ⟨u, q⟩ := S.here a (List.mem_of_getElem? h1)
      exact (S.obj i a ob h1 h2).mono2 Le.push (fun z => z) ((hk a u q).trans q.symm)
    · have l1 := (List.getElem?_eq_some_iff.mp h1).1
      rw [List.length_append] at l1
      have e : i = as.length := by simp at l1; omega
      subst e
      rw [List.getElem?_concat_length] at h1
      rw [S.len, List.getElem?_concat_length] at h2
      cases h1
      cases h2
      exact hp
/-- an object of the store changes -/
theorem Sim.change {i : Nat} {a : Addr} {o : Ob} {ho : HO} (S : Sim K F G as s H) (h1 : as[i]? = some a) (hf : F a = none) (hp : ObR K F as (upd H a ho) a o) : Sim K F G as (s.set i o) (upd H a ho) where
  sub := fun b u e => by
    have ne : b ≠ a := ne_of_none e hf
    rw [upd_ne ne]
    exact S.sub b u e
  fr := fun b u e => by
    obtain ⟨e1, e2, e3⟩ := S.fr b u e
    have ne : b ≠ a := fun z => e3 (by rw [z]; exact List.mem_of_getElem? h1)
    rw [upd_ne ne]
    exact ⟨e1, e2, e3⟩
  len := by rw [List.length_set, S.len]
  here := fun b hb => by
    by_cases q : b = a
    · subst q
      exact ⟨_, upd_same⟩
    · rw [upd_ne q]
      exact S.here b hb
  nd := S.nd
  obj := fun j b ob e1 e2 => by
    by_cases q : j = i
    · subst q
      rw [h1] at e1
      cases e1
      have l1 := (List.getElem?_eq_some_iff.mp e2).1
      rw [List.getElem?_set_self (by simpa using l1)] at e2
      cases e2
      exact hp
    · rw [List.getElem?_set_ne (Ne.symm q)] at e2
      have ne : b ≠ a := by
        intro e
        subst e
        exact q (by
          obtain ⟨l1, z1⟩ := List.getElem?_eq_some_iff.mp h1
          obtain ⟨l2, z2⟩ := List.getElem?_eq_some_iff.mp e1
          exact (List.getElem_inj S.nd).mp (z2.trans z1.symm))
      exact (S.obj j b ob e1 e2).mono2 Le.refl (fun z => z) (upd_ne ne)
/-- an object of the store is frozen -/
theorem Sim.freeze {i : Nat} {a : Addr} {ho : HO} (S : Sim K F G as s H) (h1 : as[i]? = some a) (hH : H a = some ho) (hf : F a = none) : Sim K (upd F a ho) G as (s.set i .dead) H where
  sub := fun b u e => by
    by_cases q : b = a
    · subst q
      rw [upd_same] at e
      cases e
      exact hH
    · rw [upd_ne q] at e
      exact S.sub b u e
  fr := fun b u e => by
    obtain ⟨e1, e2, e3⟩ := S.fr b u e
    have ne : b ≠ a := fun z => e3 (by rw [z]; exact List.mem_of_getElem? h1)
    rw [upd_ne ne]
    exact ⟨e1, e2, e3⟩
  len := by rw [List.length_set, S.len]
  here := S.here
  nd := S.nd
  obj := fun j b ob e1 e2 => by
    by_cases q : j = i
    · subst q
      have l1 := (List.getElem?_eq_some_iff.mp e2).1
      rw [List.getElem?_set_self (by simpa using l1)] at e2
      cases e2
      trivial
    · rw [List.getElem?_set_ne (Ne.symm q)] at e2
      have ne : b ≠ a := by
        intro e
        subst e
        exact q (by
          obtain ⟨l1, z1⟩ := List.getElem?_eq_some_iff.mp h1
          obtain ⟨l2, z2⟩ := List.getElem?_eq_some_iff.mp e1
          exact (List.getElem_inj S.nd).mp (z2.trans z1.symm))
      exact (S.obj j b ob e1 e2).mono2 (Le.new hf) (fun z => by rw [upd_ne ne]; exact z) rfl
theorem Sim.at (S : Sim K F G as s H) {i : Nat} {o : Ob} (h : s[i]? = some o) : ∃ a, as[i]? = some a := by
  have l := (List.getElem?_eq_some_iff.mp h).1
  rw [← S.len] at l
  exact ⟨as[i], List.getElem?_eq_getElem l⟩
end

/-! ### environments -/
structure ER (K : PySem.W.Frag) (F : Hp) (as : List Addr) (ε : En) (σ : L2.St) : Prop where
  len : ε.length = σ.length
  get : ∀ (i : Nat) (x : Va), ε[i]? = some (some x) → ∃ v, σ[i]? = some (some v) ∧ Rl K F as x v
section
variable {K : PySem.W.Frag} {F F' G : Hp} {as as' : List Addr} {ε : En} {σ : L2.St}
theorem ER.mono (e : Le F as F' as') (h : ER K F as ε σ) : ER K F' as' ε σ := ⟨h.len, fun i x q => by
  obtain ⟨v, h1, h2⟩ := h.get i x q
  exact ⟨v, h1, h2.mono e⟩⟩
theorem ER.set {x : Va} {v : V} (h : ER K F as ε σ) (i : Nat) (r : Rl K F as x v) : ER K F as (ε.set i (some x)) (σ.set i (some v)) := ⟨by rw [List.length_set, List.length_set, h.len], fun j y q => by
  by_cases e : i = j
  · subst e
    have l := (List.getElem?_eq_some_iff.mp q).1
    rw [List.length_set] at l
    rw [List.getElem?_set_self l] at q
    cases q
    exact ⟨v, List.getElem?_set_self (by rw [← h.len]; exact l), r⟩
  · rw [List.getElem?_set_ne e] at q ⊢
    exact h.get j y q⟩
theorem ER.unset (h : ER K F as ε σ) (i : Nat) : ER K F as (ε.set i none) (σ.set i none) := ⟨by rw [List.length_set, List.length_set, h.len], fun j y q => by
  by_cases e : i = j
  · subst e
    have l := (List.getElem?_eq_some_iff.mp q).1
    rw [List.length_set] at l
    rw [List.getElem?_set_self l] at q
    cases q
  · rw [List.getElem?_set_ne e] at q ⊢
    exact h.get j y q⟩
def wip (ε : En) : List Nat → En
  | [] => ε
  | v :: vs => (wip ε vs).set v none
theorem ER.wipe (h : ER K F as ε σ) : ∀ vs : List Nat, ER K F as (wip ε vs) (L2.wipe σ vs)
  | [] => h
  | v :: vs => (ER.wipe h vs).unset v
end

/-! ### results and readings -/
inductive Rs (α : Type) where
  | ok (a : α) (s : Sto) | exc (c : Str) (s : Sto) | bad
def Rs.bind {α β : Type} : Rs α → (α → Sto → Rs β) → Rs β
  | .ok a s, k => k a s
  | .exc c s, _ => .exc c s
  | .bad, _ => .bad
abbrev DE := En → Sto → Rs Va
abbrev DT := En → Sto → Rs Bool
/-- arguments, one after another -/
abbrev DA := List DE
def evA : DA → En → Sto → Rs (List Va)
  | [], _, s => .ok [] s
  | d :: ds, ε, s => (d ε s).bind fun x s1 => (evA ds ε s1).bind fun xs s2 => .ok (x :: xs) s2
theorem evA_len : ∀ {ds : DA} {ε : En} {s s' : Sto} {xs : List Va}, evA ds ε s = .ok xs s' → xs.length = ds.length
  | [], _, _, _, _, h => by
    cases h
    rfl
  | d :: ds, ε, s, s', xs, h => by
    unfold evA at h
    cases q : d ε s with
    | bad =>
      rw [q] at h
      cases h
    | exc c s1 =>
      rw [q] at h
      cases h
    | ok x s1 =>
      rw [q] at h
      dsimp only [Rs.bind] at h
      cases q2 : evA ds ε s1 with
      | bad =>
        rw [q2] at h
        cases h
      | exc c s2 =>
        rw [q2] at h
        cases h
      | ok ys s2 =>
        rw [q2] at h
        cases h
        rw [List.length_cons, List.length_cons, evA_len q2]
/-- sizes, never reckoned by unfolding -/
def leq (a b : Nat) : Prop := a ≤ b
noncomputable instance (a b : Nat) : Decidable (leq a b) := Classical.propDecidable _
def inR (j : Int) : Prop := -1000000000 < j ∧ j < 1000000000
noncomputable instance (j : Int) : Decidable (inR j) := Classical.propDecidable _
theorem leq_line {n : Nat} (h : leq n 1000000) : n ≤ sizeLine := Nat.le_trans h (by decide)
inductive Fl where
  | nx (ε : En) (s : Sto) | ret (x : Va) (s : Sto) | brk (ε : En) (s : Sto) | ct (ε : En) (s : Sto) | exc (c : Str) (ε : En) (s : Sto) | bad
abbrev DS := En → Sto → Fl

/-- the classes of exceptions by name -/
abbrev Cls0 := Str → Value
section
variable (K : PySem.W.Frag) (CL : Cls0)
def Pst {α β : Type} (W : Value → Option Addr → Hp → Prop) (F G : Hp) (as : List Addr) (RA : Hp → List Addr → α → β → Prop) : Rs α → (β → Hp → Prop) → Prop
  | .ok x s', Q => ∀ F' as' H' v, Le F as F' as' → Sim K F' G as' s' H' → RA F' as' x v → Q v H'
  | .exc c s', _ => ∀ F' as' H', Le F as F' as' → Sim K F' G as' s' H' → W (CL c) none H'
  | .bad, _ => False
def PF (W : WX) (F G : Hp) (as : List Addr) : Fl → Ends → Prop
  | .nx ε' s', D => ∀ F' as' σ' H', Le F as F' as' → Sim K F' G as' s' H' → ER K F' as' ε' σ' → D.nx σ' H'
  | .ret x s', D => ∀ F' as' H' v, Le F as F' as' → Sim K F' G as' s' H' → Rl K F' as' x v → D.rt v H'
  | .brk ε' s', D => ∀ F' as' σ' H', Le F as F' as' → Sim K F' G as' s' H' → ER K F' as' ε' σ' → D.bk σ' H'
  | .ct ε' s', D => ∀ F' as' σ' H', Le F as F' as' → Sim K F' G as' s' H' → ER K F' as' ε' σ' → D.ct σ' H'
  | .exc c ε' s', _ => ∀ F' as' σ' H', Le F as F' as' → Sim K F' G as' s' H' → ER K F' as' ε' σ' → W (CL c) none σ' H'
  | .bad, _ => False
def tD (W : WX) (d : DE) : TE := fun σ H Q => ∃ F G as ε s, Sim K F G as s H ∧ ER K F as ε σ ∧ Pst K CL (fun c d H => W c d σ H) F G as (Rl K) (d ε s) Q
def tDT (W : WX) (d : DT) : TT := fun σ H Q => ∃ F G as ε s, Sim K F G as s H ∧ ER K F as ε σ ∧ Pst K CL (fun c d H => W c d σ H) F G as (fun _ _ x v => x = v) (d ε s) Q
def tDA (W : WX) (d : DA) : TA := fun σ H Q => ∃ F G as ε s, Sim K F G as s H ∧ ER K F as ε σ ∧ Pst K CL (fun c d H => W c d σ H) F G as (Rls K) (evA d ε s) Q
def tDS (W : WX) (d : DS) : TS := fun D σ H => ∃ F G as ε s, Sim K F G as s H ∧ ER K F as ε σ ∧ PF K CL W F G as (d ε s) D
end
section
variable {K : PySem.W.Frag} {CL : Cls0} {W : Value → Option Addr → Hp → Prop} {F F' G : Hp} {as as' : List Addr}
theorem Pst.le {α β : Type} {RA : Hp → List Addr → α → β → Prop} {r : Rs α} {Q : β → Hp → Prop} (e : Le F as F' as') (h : Pst K CL W F G as RA r Q) : Pst K CL W F' G as' RA r Q := by
  cases r with
  | ok x s => exact fun F2 as2 H v l => h F2 as2 H v (e.trans l)
  | exc c s => exact fun F2 as2 H l => h F2 as2 H (e.trans l)
  | bad => exact h
theorem Pst.bind {α β γ δ : Type} {RA : Hp → List Addr → α → β → Prop} {RC : Hp → List Addr → γ → δ → Prop} {r : Rs α} {k : α → Sto → Rs γ} {Q : δ → Hp → Prop} (h : Pst K CL W F G as RC (r.bind k) Q) :
    Pst K CL W F G as RA r (fun v H1 => ∃ F1 as1 s1 x, Le F as F1 as1 ∧ Sim K F1 G as1 s1 H1 ∧ RA F1 as1 x v ∧ Pst K CL W F1 G as1 RC (k x s1) Q) := by
  cases r with
  | ok x s => exact fun F1 as1 H1 v l S ra => ⟨F1, as1, s, x, l, S, ra, h.le l⟩
  | exc c s => exact h
  | bad => exact h
theorem Pst.ok {α β : Type} {RA : Hp → List Addr → α → β → Prop} {x : α} {s : Sto} {Q : β → Hp → Prop} {H G : Hp} {v : β} (h : Pst K CL W F G as RA (.ok x s) Q) (l : Le F as F' as') (S : Sim K F' G as' s H) (r : RA F' as' x v) : Q v H := h F' as' H v l S r
theorem PF.le {W : WX} {r : Fl} {D : Ends} (e : Le F as F' as') (h : PF K CL W F G as r D) : PF K CL W F' G as' r D := by
  cases r with
  | nx x s => exact fun F2 as2 σ H l => h F2 as2 σ H (e.trans l)
  | brk x s => exact fun F2 as2 σ H l => h F2 as2 σ H (e.trans l)
  | ct x s => exact fun F2 as2 σ H l => h F2 as2 σ H (e.trans l)
  | ret x s => exact fun F2 as2 σ H l => h F2 as2 σ H (e.trans l)
  | exc c x s => exact fun F2 as2 σ H l => h F2 as2 σ H (e.trans l)
  | bad => exact h
end
section
variable {X : Cx}
theorem pe_weak {e : Expr} {t t' : TE} (h : PE X e t) (q : ∀ σ H Q, t' σ H Q → t σ H Q) : PE X e t' := ⟨fun pins s σ H Q I w => h.run pins s σ H Q I (q σ H Q w)⟩
theorem pt_weak {e : Expr} {t t' : TT} (h : PT X e t) (q : ∀ σ H Q, t' σ H Q → t σ H Q) : PT X e t' := ⟨fun pins s σ H Q I w => h.run pins s σ H Q I (q σ H Q w)⟩
theorem pw_weak {e : Expr} {t t' : TT} (h : PW X e t) (q : ∀ σ H Q, t' σ H Q → t σ H Q) : PW X e t' := ⟨fun wh pins s σ H Q I w => h.run wh pins s σ H Q I (q σ H Q w)⟩
theorem pa_weak {e : List Expr} {t t' : TA} (h : PA X e t) (q : ∀ σ H Q, t' σ H Q → t σ H Q) : PA X e t' := ⟨fun pos pins s σ H Q I w => h.run pos pins s σ H Q I (q σ H Q w)⟩
theorem ps_weak {st : Stmt} {t t' : TS} (h : PS X st t) (q : ∀ D σ H, t' D σ H → t D σ H) : PS X st t' := ⟨fun pins s σ H D I w => h.run pins s σ H D I (q D σ H w)⟩
theorem pss_weak {st : List Stmt} {t t' : TS} (h : PSs X st t) (q : ∀ D σ H, t' D σ H → t D σ H) : PSs X st t' := ⟨fun pins s σ H D I w => h.run pins s σ H D I (q D σ H w)⟩
end
end Dn

set_option Elab.async false
set_option linter.all false
set_option maxRecDepth 100000
set_option maxHeartbeats 1000000
/-! Dn, part B: expressions and tests. -/
namespace Dn
open PySem PySem.Spec PyProof.Rows L2

abbrev RE (X : Cx) (CL : Cls0) (W : WX) (e : Expr) (d : DE) : Prop := PE X e (tD X.K CL W d)
abbrev RT (X : Cx) (CL : Cls0) (W : WX) (e : Expr) (d : DT) : Prop := PT X e (tDT X.K CL W d)
abbrev RW (X : Cx) (CL : Cls0) (W : WX) (e : Expr) (d : DT) : Prop := PW X e (tDT X.K CL W d)
abbrev RA (X : Cx) (CL : Cls0) (W : WX) (es : List Expr) (d : DA) : Prop := PA X es (tDA X.K CL W d)

section
variable {K : PySem.W.Frag} {CL : Cls0} {W : Value → Option Addr → Hp → Prop} {F F' H G : Hp} {as as' : List Addr} {s : Sto}
theorem Pst.imp {α β : Type} {RA : Hp → List Addr → α → β → Prop} {r : Rs α} {Q Q' : β → Hp → Prop} (h : Pst K CL W F G as RA r Q) (q : ∀ v H, Q v H → Q' v H) : Pst K CL W F G as RA r Q' := by
  cases r with
  | ok x s => exact fun F2 as2 H v l S ra => q v H (h F2 as2 H v l S ra)
  | exc c s => exact h
  | bad => exact h
/-- the same relation, the answer read otherwise -/
theorem Pst.conv {α β γ : Type} {RA : Hp → List Addr → α → β → Prop} {RB : Hp → List Addr → α → γ → Prop} {r : Rs α} {Q : β → Hp → Prop} {Q' : γ → Hp → Prop} (h : Pst K CL W F G as RA r Q) (q : ∀ F' as' x v H, RB F' as' x v → ∃ w, RA F' as' x w ∧ (Q w H → Q' v H)) : Pst K CL W F G as RB r Q' := by
  cases r with
  | ok x s => exact fun F2 as2 H v l S rb => let ⟨w, ra, f⟩ := q F2 as2 x v H rb; f (h F2 as2 H w l S ra)
  | exc c s => exact h
  | bad => exact h
end

theorem Pst.okv {K : PySem.W.Frag} {CL : Cls0} {W : Value → Option Addr → Hp → Prop} {F H G : Hp} {as : List Addr} {s : Sto} {x : Va} {v : V} {Q : VK} (h : Pst K CL W F G as (Rl K) (.ok x s) Q) (S : Sim K F G as s H) (r : Rl K F as x v) : Q v H := h.ok Le.refl S r
/-! ### reading the store -/
def seqL : Va → Sto → Option (List Va)
  | .lst xs, _ => some xs
  | .ref i, s => match s[i]? with | some (.lst xs) => some xs | _ => none
  | _, _ => none
def seqT : Va → Option (List Va)
  | .tup xs => some xs
  | _ => none
/-- a list or a tuple, read -/
def seqA : Va → Sto → Option (List Va)
  | .lst xs, _ => some xs
  | .tup xs, _ => some xs
  | .ext xs, _ => some xs
  | .ref i, s => match s[i]? with | some (.lst xs) => some xs | _ => none
  | _, _ => none
section
variable {K : PySem.W.Frag} {CL : Cls0} {W : Value → Option Addr → Hp → Prop} {F F' H G : Hp} {as as' : List Addr} {s : Sto} {x : Va} {v : V} {xs : List Va}
theorem Sim.ref (S : Sim K F G as s H) {i : Nat} {a : Addr} {o : Ob} (h : as[i]? = some a) (e : s[i]? = some o) : ObR K F as H a o := S.obj i a o h e
theorem seqL_ok (S : Sim K F G as s H) (r : Rl K F as x v) (h : seqL x s = some xs) : ∃ a vs, v = .ref a ∧ H a = some (.lst vs) ∧ Rls K F as xs vs := by
  cases x with
  | lst ys =>
    cases r with
    | lst hf hr =>
      simp only [seqL, Option.some.injEq] at h
      subst h
      exact ⟨_, _, rfl, S.sub _ _ hf, hr⟩
  | ref i =>
    cases r with
    | ref ha =>
      simp only [seqL] at h
      split at h
      · rename_i ys e
        cases h
        obtain ⟨_, vs, h1, h2⟩ := S.ref ha e
        exact ⟨_, vs, rfl, h1, h2⟩
      · cases h
  | _ => simp [seqL] at h
theorem seqT_ok (S : Sim K F G as s H) (r : Rl K F as x v) (h : seqT x = some xs) : ∃ a vs, v = .ref a ∧ H a = some (.tup vs) ∧ Rls K F as xs vs := by
  cases x with
  | tup ys =>
    cases r with
    | tup hf hr =>
      simp only [seqT, Option.some.injEq] at h
      subst h
      exact ⟨_, _, rfl, S.sub _ _ hf, hr⟩
  | _ => simp [seqT] at h
theorem seqA_ok (S : Sim K F G as s H) (r : Rl K F as x v) (h : seqA x s = some xs) : ∃ a vs, v = .ref a ∧ (SqL K H a vs ∨ SqT K H a vs) ∧ Rls K F as xs vs := by
  cases x with
  | lst ys =>
    obtain ⟨a, vs, h1, h2, h3⟩ := seqL_ok S r (show seqL (.lst ys) s = some xs from h)
    exact ⟨a, vs, h1, .inl (SqL.of h2), h3⟩
  | ref i =>
    obtain ⟨a, vs, h1, h2, h3⟩ := seqL_ok S r (show seqL (.ref i) s = some xs from h)
    exact ⟨a, vs, h1, .inl (SqL.of h2), h3⟩
  | tup ys =>
    obtain ⟨a, vs, h1, h2, h3⟩ := seqT_ok S r (show seqT (.tup ys) = some xs from h)
    exact ⟨a, vs, h1, .inr (SqT.of h2), h3⟩
  | ext ys =>
    cases r with
    | ext hf hr =>
      simp only [seqA, Option.some.injEq] at h
      subst h
      exact ⟨_, _, rfl, hf.imp (sqL_mono S.sub) (sqT_mono S.sub), hr⟩
  | _ => simp [seqA] at h

/-! ### making -/
/-- a new list: frozen, or (bx) an object of the store -/
def mkL (bx : Bool) (xs : List Va) (s : Sto) : Rs Va := if bx then .ok (.ref s.length) (s ++ [.lst xs]) else .ok (.lst xs) s
theorem mkL_ok {bx : Bool} {vs : List V} {Q : VK} (S : Sim K F G as s H) (r : Rls K F as xs vs) (h : Pst K CL W F G as (Rl K) (mkL bx xs s) Q) : ∀ p, H p = none → Q (.ref p) (upd H p (.lst vs)) := by
  intro p hp
  cases bx with
  | false => exact h.ok (Le.new (S.fnone hp)) (S.froz hp) (.lst upd_same (r.mono (Le.new (S.fnone hp))))
  | true =>
    refine h.ok (Le.push (p := p)) (S.push (o := .lst xs) hp (fun a u e => by rw [upd_ne (ne_of_none e hp)]; exact e) ⟨S.fnone hp, vs, upd_same, r.mono Le.push⟩ ⟨_, upd_same⟩) (.ref ?_)
    rw [← S.len]
    exact List.getElem?_concat_length
theorem mkT_ok {vs : List V} {Q : VK} (S : Sim K F G as s H) (r : Rls K F as xs vs) (h : Pst K CL W F G as (Rl K) (.ok (.tup xs) s) Q) : ∀ p, H p = none → Q (.ref p) (upd H p (.tup vs)) := by
  intro p hp
  exact h.ok (Le.new (S.fnone hp)) (S.froz hp) (.tup upd_same (r.mono (Le.new (S.fnone hp))))
end

/-! ### operations by value -/
def Op2 (K : PySem.W.Frag) (r : R2) (g : Va → Va → Sto → Rs Va) : Prop := ∀ (CL : Cls0) (W : Value → Option Addr → Hp → Prop) F G as s H x y v u Q, Sim K F G as s H → Rl K F as x v → Rl K F as y u → Pst K CL W F G as (Rl K) (g x y s) Q → r v u H Q
def Op1 (K : PySem.W.Frag) (r : V → Hp → VK → Prop) (g : Va → Sto → Rs Va) : Prop := ∀ (CL : Cls0) (W : Value → Option Addr → Hp → Prop) F G as s H x v Q, Sim K F G as s H → Rl K F as x v → Pst K CL W F G as (Rl K) (g x s) Q → r v H Q
def OpN (K : PySem.W.Frag) (r : List V → Hp → VK → Prop) (g : List Va → Sto → Rs Va) : Prop := ∀ (CL : Cls0) (W : Value → Option Addr → Hp → Prop) F G as s H x v Q, Sim K F G as s H → Rls K F as x v → Pst K CL W F G as (Rl K) (g x s) Q → r v H Q
def dBin (g : Va → Va → Sto → Rs Va) (da db : DE) : DE := fun ε s => (da ε s).bind fun x s1 => (db ε s1).bind fun y s2 => g x y s2
def dUn (g : Va → Sto → Rs Va) (da : DE) : DE := fun ε s => (da ε s).bind g
abbrev dNil : DA := []
abbrev dCons (da : DE) (dr : DA) : DA := da :: dr
def dApp (g : List Va → Sto → Rs Va) (da : DA) : DE := fun ε s => (evA da ε s).bind g
section
variable {K : PySem.W.Frag} {CL : Cls0} {W : WX} {σ : L2.St} {H G : Hp}
theorem tD_bin {r : R2} {g : Va → Va → Sto → Rs Va} {da db : DE} {Q : VK} (hg : Op2 K r g) (h : tD K CL W (dBin g da db) σ H Q) : tOp r (tD K CL W da) (tD K CL W db) σ H Q := by
  obtain ⟨F, G, as, ε, s, S, E, h⟩ := h
  refine ⟨F, G, as, ε, s, S, E, Pst.imp (Pst.bind h) fun v H1 ⟨F1, as1, s1, x, l, S1, rx, h1⟩ => ?_⟩
  refine ⟨F1, G, as1, ε, s1, S1, E.mono l, Pst.imp (Pst.bind h1) fun u H2 ⟨F2, as2, s2, y, l2, S2, ry, h2⟩ => ?_⟩
  exact hg _ _ _ _ _ _ _ _ _ _ _ _ S2 (rx.mono l2) ry h2
theorem tD_un {r : V → Hp → VK → Prop} {g : Va → Sto → Rs Va} {da : DE} {Q : VK} (hg : Op1 K r g) (h : tD K CL W (dUn g da) σ H Q) : tUn r (tD K CL W da) σ H Q := by
  obtain ⟨F, G, as, ε, s, S, E, h⟩ := h
  exact ⟨F, G, as, ε, s, S, E, Pst.imp (Pst.bind h) fun v H1 ⟨F1, as1, s1, x, l, S1, rx, h1⟩ => hg _ _ _ _ _ _ _ _ _ _ S1 rx h1⟩
theorem tD_app {r : List V → Hp → VK → Prop} {g : List Va → Sto → Rs Va} {da : DA} {Q : VK} (hg : OpN K r g) (h : tD K CL W (dApp g da) σ H Q) : tCB r (tDA K CL W da) σ H Q := by
  obtain ⟨F, G, as, ε, s, S, E, h⟩ := h
  exact ⟨F, G, as, ε, s, S, E, Pst.imp (Pst.bind h) fun v H1 ⟨F1, as1, s1, x, l, S1, rx, h1⟩ => hg _ _ _ _ _ _ _ _ _ _ S1 rx h1⟩
theorem Op2.or {r r' : R2} {g g' : Va → Va → Sto → Rs Va} (h : Op2 K r g) (h' : Op2 K r' g') : Op2 K (fun x y H Q => r x y H Q ∨ r' x y H Q) (fun x y s => match g x y s with | .bad => g' x y s | o => o) := by
  intro CL W F G as s H x y v u Q S rx ry q
  dsimp only at q
  cases e : g x y s with
  | ok a s' =>
    rw [e] at q
    exact .inl (h CL W F G as s H x y v u Q S rx ry (by rw [e]; exact q))
  | exc c s' =>
    rw [e] at q
    exact .inl (h CL W F G as s H x y v u Q S rx ry (by rw [e]; exact q))
  | bad =>
    rw [e] at q
    exact .inr (h' CL W F G as s H x y v u Q S rx ry q)
theorem OpN.or {r r' : List V → Hp → VK → Prop} {g g' : List Va → Sto → Rs Va} (h : OpN K r g) (h' : OpN K r' g') : OpN K (fun x H Q => r x H Q ∨ r' x H Q) (fun x s => match g x s with | .bad => g' x s | o => o) := by
  intro CL W F G as s H x v Q S rx q
  dsimp only at q
  cases e : g x s with
  | ok a s' =>
    rw [e] at q
    exact .inl (h CL W F G as s H x v Q S rx (by rw [e]; exact q))
  | exc c s' =>
    rw [e] at q
    exact .inl (h CL W F G as s H x v Q S rx (by rw [e]; exact q))
  | bad =>
    rw [e] at q
    exact .inr (h' CL W F G as s H x v Q S rx q)
end

/-! ### names, constants, argument lists, displays -/
def dV (i : Nat) : DE := fun ε s => match ε[i]? with | some (some x) => .ok x s | _ => .bad
def dC (x : Va) : DE := fun _ s => .ok x s
section
variable {X : Cx} {CL : Cls0} {W : WX} {e a b : Expr} {es : List Expr} {pos : Pos} {da db : DE} {dr : DA}
theorem re_var (i : Nat) {x : Str} {pos : Pos} (hN : X.N[i]? = some x := by rfl) (hv : Vis X.env.scope x := by first | exact Or.inl rfl | exact Or.inr (Or.inl rfl) | exact Or.inr (Or.inr rfl)) (hd : (x == ("__debug__" : Str)) = false := by decide)
    (hcd : (x == ("__classdict__" : Str)) = false := by decide) : RE X CL W (.Name x pos) (dV i) := pe_weak (pe_var hN hv hd hcd) fun σ H Q h => by
  obtain ⟨F, G, as, ε, s, S, E, h⟩ := h
  unfold dV at h
  split at h
  · rename_i y q
    obtain ⟨v, h1, h2⟩ := E.get i y q
    exact ⟨v, h1, h.ok Le.refl S h2⟩
  · exact h.elim
theorem re_c {x : Va} {v : V} {e : Expr} (h : PE X e (tC v)) (r : ∀ F as, Rl X.K F as x v) : RE X CL W e (dC x) := pe_weak h fun σ H Q q => by
  obtain ⟨F, G, as, ε, s, S, E, q⟩ := q
  exact q.ok Le.refl S (r F as)
theorem re_int {i j} : RE X CL W (.Constant (.int i) j pos) (dC (.int i)) := re_c pe_int fun _ _ => .int i
theorem re_bl {i j} : RE X CL W (.Constant (.bool i) j pos) (dC (.bl i)) := re_c pe_bl fun _ _ => .bl i
theorem re_non {j} : RE X CL W (.Constant .none j pos) (dC .non) := re_c pe_non fun _ _ => .non
theorem re_str {i j} : RE X CL W (.Constant (.str i) j pos) (dC (.str i)) := re_c pe_str fun _ _ => .str i
theorem re_gInt {x : Str} {i : Int} {t : Tok} (hg : Gl X x) (hm : X.mg x = some (.int i t)) (hd : (x == ("__debug__" : Str)) = false := by decide) : RE X CL W (.Name x pos) (dC (.int i)) := re_c (pe_glob (v := .int i) hg hm ⟨t, rfl⟩ hd) fun _ _ => .int i
theorem re_gStr {x : Str} {i : Str} {t : Tok} (hg : Gl X x) (hm : X.mg x = some (.str i t)) (hd : (x == ("__debug__" : Str)) = false := by decide) : RE X CL W (.Name x pos) (dC (.str i)) := re_c (pe_glob (v := .str i) hg hm ⟨t, rfl⟩ hd) fun _ _ => .str i
theorem ra_nil : RA X CL W [] dNil := pa_weak pa_nil fun σ H Q q => by
  obtain ⟨F, G, as, ε, s, S, E, q⟩ := q
  exact q.ok Le.refl S .nil
theorem ra_cons (ha : RE X CL W e da) (hr : RA X CL W es dr) (hs : starEach (e :: es) X.env = (false, eval e X.env) :: starEach es X.env := by rfl) : RA X CL W (e :: es) (dCons da dr) := pa_weak (pa_cons ha hr hs) fun σ H Q q => by
  obtain ⟨F, G, as, ε, s, S, E, h⟩ := q
  refine ⟨F, G, as, ε, s, S, E, Pst.imp (Pst.bind h) fun v H1 ⟨F1, as1, s1, x, l, S1, rx, h1⟩ => ?_⟩
  refine ⟨F1, G, as1, ε, s1, S1, E.mono l, Pst.imp (Pst.bind h1) fun u H2 ⟨F2, as2, s2, y, l2, S2, ry, h2⟩ => ?_⟩
  exact h2.ok Le.refl S2 (.cons (rx.mono l2) ry)
/-- a display; bx: an object of the store -/
def dLst (bx : Bool) (da : DA) : DE := fun ε s => (evA da ε s).bind fun xs s1 => mkL bx xs s1
def dTup (da : DA) : DE := fun ε s => (evA da ε s).bind fun xs s1 => .ok (.tup xs) s1
/-- the items that were reckoned are as many as were written -/
theorem Pst.evA {X : Cx} {CL : Cls0} {W : Value → Option Addr → Hp → Prop} {F G : Hp} {as : List Addr} {ds : DA} {ε : En} {s : Sto} {Q : List V → Hp → Prop} (h : Pst X.K CL W F G as (Rls X.K) (Dn.evA ds ε s) fun vs H => vs.length = ds.length → Q vs H) : Pst X.K CL W F G as (Rls X.K) (Dn.evA ds ε s) Q := by
  cases q : Dn.evA ds ε s with
  | ok xs s' =>
    rw [q] at h
    exact fun F' as' H' v l S r => h F' as' H' v l S r (by rw [← r.len, evA_len q])
  | exc c s' =>
    rw [q] at h
    exact h
  | bad =>
    rw [q] at h
    exact h
theorem le1000 {n : Nat} (h : n ≤ 1000) : n ≤ sizeLine := Nat.le_trans h (by decide)
theorem re_lst (bx : Bool) (h : RA X CL W es dr) (hl : dr.length ≤ 1000 := by decide) : RE X CL W (.List es pos) (dLst bx dr) := pe_weak (pe_lst h) fun σ H Q q => by
  obtain ⟨F, G, as, ε, s, S, E, h⟩ := q
  refine ⟨F, G, as, ε, s, S, E, Pst.evA (Pst.imp (Pst.bind h) fun v H1 ⟨F1, as1, s1, x, l, S1, rx, h1⟩ hv => ?_)⟩
  exact ⟨by rw [hv]; exact le1000 hl, mkL_ok S1 rx h1⟩
theorem re_tup {k : Nat} (h : RA X CL W es dr) (hl : dr.length ≤ 1000 := by decide) : RE X CL W (.Tuple es k pos) (dTup dr) := pe_weak (pe_tup h) fun σ H Q q => by
  obtain ⟨F, G, as, ε, s, S, E, h⟩ := q
  refine ⟨F, G, as, ε, s, S, E, Pst.evA (Pst.imp (Pst.bind h) fun v H1 ⟨F1, as1, s1, x, l, S1, rx, h1⟩ hv => ?_)⟩
  exact ⟨by rw [hv]; exact le1000 hl, mkT_ok S1 rx h1⟩

/-! ### operators -/
theorem re_bin {op : Operator} {r : R2} {g : Va → Va → Sto → Rs Va} (ho : OpR X (binaryOp op) r) (hg : Op2 X.K r g) (ha : RE X CL W a da) (hb : RE X CL W b db) : RE X CL W (.BinOp a op b pos) (dBin g da db) :=
  pe_weak (pe_op ho ha hb) fun _ _ _ h => tD_bin hg h
theorem re_un {op : UnaryOp} {r : V → Hp → VK → Prop} {g : Va → Sto → Rs Va} (ho : UnR X (unaryOp op) r) (hg : Op1 X.K r g) (ha : RE X CL W a da) : RE X CL W (.UnaryOp op a pos) (dUn g da) :=
  pe_weak (pe_un ho ha) fun _ _ _ h => tD_un hg h
theorem re_cmp {op : CmpOp} {r : R2} {g : Va → Va → Sto → Rs Va} (ho : OpR X (compareOp op) r) (hg : Op2 X.K r g) (ha : RE X CL W a da) (hb : RE X CL W b db) (hm : behindInMarks op b = false := by rfl) : RE X CL W (.Compare a [op] [b] pos) (dBin g da db) :=
  pe_weak (pe_cmpR ho ha hb hm) fun _ _ _ h => tD_bin hg h
theorem re_ix {r : R2} {g : Va → Va → Sto → Rs Va} (ho : IxR X r) (hg : Op2 X.K r g) (ha : RE X CL W a da) (hb : RE X CL W b db) (hp : PlainIx b := by exact fun _ _ => rfl) : RE X CL W (.Subscript a b pos) (dBin g da db) :=
  pe_weak (pe_ix ho ha hb hp) fun _ _ _ h => tD_bin hg h
end

/-! #### arithmetic -/
def gInt2 (C : Int → Int → Prop) [∀ i j, Decidable (C i j)] (f : Int → Int → Va) : Va → Va → Sto → Rs Va
  | .int i, .int j, s => if C i j then .ok (f i j) s else .bad
  | _, _, _ => .bad
section
variable {K : PySem.W.Frag}
theorem op2_I {C : Int → Int → Prop} [∀ i j, Decidable (C i j)] {f : Int → Int → Int} : Op2 K (rI C fun i j => .int (f i j)) (gInt2 C fun i j => .int (f i j)) := by
  intro CL W F G as s H x y v u Q S rx ry q
  unfold gInt2 at q
  split at q
  · rename_i i j s0
    cases rx
    cases ry
    split at q
    · rename_i hc
      exact ⟨_, _, rfl, rfl, hc, q.ok Le.refl S (.int _)⟩
    · exact q.elim
  · exact q.elim
theorem op2_I0 {f : Int → Int → Int} : Op2 K (rI0 fun i j => .int (f i j)) (gInt2 (fun _ _ => True) fun i j => .int (f i j)) := by
  intro CL W F G as s H x y v u Q S rx ry q
  unfold gInt2 at q
  split at q
  · rename_i i j s0
    cases rx
    cases ry
    exact ⟨_, _, rfl, rfl, Pst.okv (by simpa using q) S (.int _)⟩
  · exact q.elim
theorem op2_B0 {f : Int → Int → Bool} : Op2 K (rI0 fun i j => .bl (f i j)) (gInt2 (fun _ _ => True) fun i j => .bl (f i j)) := by
  intro CL W F G as s H x y v u Q S rx ry q
  unfold gInt2 at q
  split at q
  · rename_i i j s0
    cases rx
    cases ry
    exact ⟨_, _, rfl, rfl, Pst.okv (by simpa using q) S (.bl _)⟩
  · exact q.elim
end
noncomputable instance : ∀ i j, Decidable (CMul i j) := fun _ _ => Classical.propDecidable _
noncomputable instance : ∀ i j, Decidable (CDiv i j) := fun _ _ => Classical.propDecidable _
noncomputable instance : ∀ i j, Decidable (CPow i j) := fun _ _ => Classical.propDecidable _
noncomputable instance : ∀ i j, Decidable (CMulW i j) := fun _ _ => Classical.propDecidable _
def szOk (i : Int) (n : Nat) : Prop := -(2 ^ 63) ≤ i ∧ i < 2 ^ 63 ∧ n * i.toNat ≤ sizeLine
noncomputable instance : ∀ i n, Decidable (szOk i n) := fun _ _ => Classical.propDecidable _
/-- + of ints, texts, tuples, lists -/
noncomputable def gAdd (bx : Bool) (x y : Va) (s : Sto) : Rs Va := match x, y with
  | .int i, .int j => .ok (.int (i + j)) s
  | .str a, .str b => if leq (a.length + b.length) sizeLine then .ok (.str (a ++ b)) s else .bad
  | .tup xs, .tup ys => if leq (xs.length + ys.length) sizeLine then .ok (.tup (xs ++ ys)) s else .bad
  | x, y => match seqL x s, seqL y s with
    | some xs, some ys => if leq (xs.length + ys.length) sizeLine then mkL bx (xs ++ ys) s else .bad
    | _, _ => .bad
def rAddA (K : PySem.W.Frag) : R2 := fun x y H Q => (rI0 fun i j => .int (i + j)) x y H Q ∨ (∃ i j, x = .str i ∧ y = .str j ∧ i.length + j.length ≤ sizeLine ∧ Q (.str (i ++ j)) H) ∨ rCatA K x y H Q ∨ rCat x y H Q
theorem op_addA {X : Cx} : OpR X (binaryOp .Add) (rAddA X.K) := op_add.or (op_add_str.or (op_catA.or op_cat))
theorem op2_add {K : PySem.W.Frag} {bx : Bool} : Op2 K (rAddA K) (gAdd bx) := by
  intro CL W F G as s H x y v u Q S rx ry q
  unfold gAdd at q
  split at q
  · cases rx
    cases ry
    exact .inl ⟨_, _, rfl, rfl, q.ok Le.refl S (.int _)⟩
  · cases rx
    cases ry
    split at q
    · rename_i hc
      exact .inr (.inl ⟨_, _, rfl, rfl, hc, q.ok Le.refl S (.str _)⟩)
    · exact q.elim
  · rename_i xs ys
    obtain ⟨a, vs, rfl, h2, h3⟩ := seqT_ok S rx (xs := xs) rfl
    obtain ⟨b, us, rfl, h5, h6⟩ := seqT_ok S ry (xs := ys) rfl
    split at q
    · rename_i hc
      refine .inr (.inr (.inl ⟨a, b, vs, us, rfl, rfl, SqT.of h2, SqT.of h5, by rw [← h3.len, ← h6.len]; exact hc, fun e => ?_, fun e1 e2 => ?_, fun _ _ => mkT_ok S (h3.app h6) q⟩))
      · subst e
        cases h3
        exact q.ok Le.refl S ry
      · subst e2
        cases h6
        rw [List.append_nil] at q
        exact q.ok Le.refl S rx
    · exact q.elim
  · split at q
    · rename_i xs ys e1 e2
      obtain ⟨a, vs, rfl, h2, h3⟩ := seqL_ok S rx e1
      obtain ⟨b, us, rfl, h5, h6⟩ := seqL_ok S ry e2
      split at q
      · rename_i hc
        exact .inr (.inr (.inr ⟨a, b, vs, us, rfl, rfl, h2, h5, by rw [← h3.len, ← h6.len]; exact hc, mkL_ok S (h3.app h6) q⟩))
      · exact q.elim
    · exact q.elim
/-- * of ints, of a list and an int -/
noncomputable def gMul (bx : Bool) (x y : Va) (s : Sto) : Rs Va := match x, y with
  | .int i, .int j => if CMul i j ∨ CMulW i j then .ok (.int (i * j)) s else .bad
  | x, .int k => match seqL x s with
    | some xs => if szOk k xs.length then mkL bx (List.replicate k.toNat xs).flatten s else .bad
    | none => .bad
  | _, _ => .bad
def rMulA : R2 := fun x y H Q => (rI CMul fun i j => .int (i * j)) x y H Q ∨ (rI CMulW fun i j => .int (i * j)) x y H Q ∨ rRep x y H Q
theorem op_mulA {X : Cx} : OpR X (binaryOp .Mult) rMulA := op_mul.or (op_mulW.or op_rep)
theorem op2_mul {K : PySem.W.Frag} {bx : Bool} : Op2 K rMulA (gMul bx) := by
  intro CL W F G as s H x y v u Q S rx ry q
  unfold gMul at q
  split at q
  · cases rx
    cases ry
    split at q
    · rename_i hc
      rcases hc with hc | hc
      · exact .inl ⟨_, _, rfl, rfl, hc, q.ok Le.refl S (.int _)⟩
      · exact .inr (.inl ⟨_, _, rfl, rfl, hc, q.ok Le.refl S (.int _)⟩)
    · exact q.elim
  · rename_i k _
    cases ry
    split at q
    · rename_i xs e1
      obtain ⟨a, vs, rfl, h2, h3⟩ := seqL_ok S rx e1
      split at q
      · rename_i hc
        exact .inr (.inr ⟨a, k, vs, rfl, rfl, h2, hc.1, hc.2.1, by rw [← h3.len]; exact hc.2.2, mkL_ok S (h3.rep _) q⟩)
      · exact q.elim
    · exact q.elim
  · exact q.elim
abbrev gSub := gInt2 (fun _ _ => True) fun i j => .int (i - j)
abbrev gMod := gInt2 (fun _ j => 0 < j) fun i j => .int (i % j)
noncomputable abbrev gFdiv := gInt2 CDiv fun i j => .int (i / j)
noncomputable abbrev gPow := gInt2 CPow fun i j => .int (i ^ j.toNat)
section
variable {X : Cx} {CL : Cls0} {W : WX} {e a b c : Expr} {es : List Expr} {pos : Pos} {da db dc : DE} {dr : DA}
theorem re_add (bx : Bool) (ha : RE X CL W a da) (hb : RE X CL W b db) : RE X CL W (.BinOp a .Add b pos) (dBin (gAdd bx) da db) := re_bin op_addA op2_add ha hb
theorem re_sub (ha : RE X CL W a da) (hb : RE X CL W b db) : RE X CL W (.BinOp a .Sub b pos) (dBin gSub da db) := re_bin op_sub op2_I0 ha hb
theorem re_mul (bx : Bool) (ha : RE X CL W a da) (hb : RE X CL W b db) : RE X CL W (.BinOp a .Mult b pos) (dBin (gMul bx) da db) := re_bin op_mulA op2_mul ha hb
theorem re_mod (ha : RE X CL W a da) (hb : RE X CL W b db) : RE X CL W (.BinOp a .Mod b pos) (dBin gMod da db) := re_bin op_mod op2_I ha hb
theorem re_fdiv (ha : RE X CL W a da) (hb : RE X CL W b db) : RE X CL W (.BinOp a .FloorDiv b pos) (dBin gFdiv da db) := re_bin op_fdiv op2_I ha hb
theorem re_pow (ha : RE X CL W a da) (hb : RE X CL W b db) : RE X CL W (.BinOp a .Pow b pos) (dBin gPow da db) := re_bin op_pow op2_I ha hb
def gNeg : Va → Sto → Rs Va
  | .int i, s => .ok (.int (-i)) s
  | _, _ => .bad
theorem op1_neg {K : PySem.W.Frag} : Op1 K (rU fun i => .int (-i)) gNeg := by
  intro CL W F G as s H x v Q S rx q
  unfold gNeg at q
  split at q
  · cases rx
    exact ⟨_, rfl, q.ok Le.refl S (.int _)⟩
  · exact q.elim
theorem re_neg (ha : RE X CL W a da) : RE X CL W (.UnaryOp .USub a pos) (dUn gNeg da) := re_un un_neg op1_neg ha
end

/-! #### data, for == -/
mutual
def toPy : Va → Option PyData
  | .non => some .none
  | .bl b => some (.bool b)
  | .int i => some (.int i)
  | .str x => some (.str x)
  | .tup xs => (toPys xs).map .tuple
  | .lst xs => (toPys xs).map .list
  | .ext _ => none
  | .dicK _ => none
  | .dicT _ => none
  | .ref _ => none
def toPys : List Va → Option (List PyData)
  | [] => some []
  | x :: xs => match toPy x, toPys xs with
    | some d, some ds => some (d :: ds)
    | _, _ => none
end
def toPyS (x : Va) (s : Sto) : Option PyData := match x with
  | .ref i => match s[i]? with
    | some (.lst xs) => (toPys xs).map .list
    | _ => none
  | x => toPy x
section
variable {K : PySem.W.Frag} {F H G : Hp} {as : List Addr} {s : Sto}
mutual
theorem toPy_dp (sub : ∀ a o, F a = some o → H a = some o) : ∀ {x : Va} {v : V} {d : PyData}, Rl K F as x v → toPy x = some d → Dp K H v d
  | _, _, _, .non, h => by
    simp only [toPy, Option.some.injEq] at h
    subst h
    exact .non
  | _, _, _, .bl b, h => by
    simp only [toPy, Option.some.injEq] at h
    subst h
    exact .bl b
  | _, _, _, .int i, h => by
    simp only [toPy, Option.some.injEq] at h
    subst h
    exact .int i
  | _, _, _, .str x, h => by
    simp only [toPy, Option.some.injEq] at h
    subst h
    exact .str x
  | _, _, _, .tup (xs := xs) hf hr, h => by
    simp only [toPy] at h
    cases e : toPys xs with
    | none =>
      rw [e] at h
      cases h
    | some ds =>
      rw [e] at h
      cases h
      exact .tup (SqT.of (sub _ _ hf)) (toPys_dp sub hr e)
  | _, _, _, .lst (xs := xs) hf hr, h => by
    simp only [toPy] at h
    cases e : toPys xs with
    | none =>
      rw [e] at h
      cases h
    | some ds =>
      rw [e] at h
      cases h
      exact .lst (SqL.of (sub _ _ hf)) (toPys_dp sub hr e)
  | _, _, _, .ext _ _, h => by simp [toPy] at h
  | _, _, _, .dicK _ _, h => by simp [toPy] at h
  | _, _, _, .dicT _ _, h => by simp [toPy] at h
  | _, _, _, .ref _, h => by simp [toPy] at h
theorem toPys_dp (sub : ∀ a o, F a = some o → H a = some o) : ∀ {xs : List Va} {vs : List V} {ds : List PyData}, Rls K F as xs vs → toPys xs = some ds → DpAll K H vs ds
  | _, _, _, .nil, h => by
    simp only [toPys, Option.some.injEq] at h
    subst h
    exact .nil
  | _, _, _, .cons (x := x) (xs := xs) h1 h2, h => by
    simp only [toPys] at h
    split at h
    · rename_i d ds e1 e2
      cases h
      exact .cons (toPy_dp sub h1 e1) (toPys_dp sub h2 e2)
    · cases h
end
theorem toPyS_dp {x : Va} {v : V} {d : PyData} (S : Sim K F G as s H) (r : Rl K F as x v) (h : toPyS x s = some d) : Dp K H v d := by
  unfold toPyS at h
  split at h
  · rename_i i
    cases r with
    | ref ha =>
      split at h
      · rename_i xs e
        obtain ⟨_, vs, h1, h2⟩ := S.ref ha e
        cases e2 : toPys xs with
        | none =>
          rw [e2] at h
          cases h
        | some ds =>
          rw [e2] at h
          cases h
          exact .lst (SqL.of h1) (toPys_dp S.sub h2 e2)
      · cases h
  · exact toPy_dp S.sub r h
end
def scalA : Va → Va → Bool
  | .non, .non => true | .non, .int _ => true | .int _, .non => true | .non, .bl _ => true | .bl _, .non => true | .non, .str _ => true | .str _, .non => true
  | .int _, .int _ => true | .bl _, .bl _ => true | .str _, .str _ => true
  | .int _, .str _ => true | .str _, .int _ => true | .bl _, .str _ => true | .str _, .bl _ => true
  | _, _ => false
/-- == of two scalars -/
def eqA : Va → Va → Bool
  | .non, .non => true
  | .int i, .int j => decide (i = j)
  | .bl i, .bl j => decide (i = j)
  | .str i, .str j => decide (i = j)
  | _, _ => false
def shp (d : PyData) : Prop := SeqAt.shaped d = true
noncomputable instance (d : PyData) : Decidable (shp d) := Classical.propDecidable _
noncomputable def gEq (neg : Bool) (x y : Va) (s : Sto) : Rs Va :=
  if scalA x y then .ok (.bl (neg != eqA x y)) s else
  match toPyS x s, toPyS y s with
  | some d, some e => if shp d ∧ shp e then .ok (.bl (neg != PyData.eqv d e)) s else .bad
  | _, _ => .bad
section
variable {K : PySem.W.Frag} {F H G : Hp} {as : List Addr} {x y : Va} {v u : V}
theorem scalA_ok (rx : Rl K F as x v) (ry : Rl K F as y u) (h : scalA x y = true) : scal v u = true ∧ decide (v = u) = eqA x y := by
  cases rx <;> cases ry <;> simp [scalA, scal, eqA] at h ⊢
end
theorem op2_eq {K : PySem.W.Frag} : Op2 K (fun x y H Q => rEq x y H Q ∨ rEqD K x y H Q) (gEq false) := by
  intro CL W F G as s H x y v u Q S rx ry q
  unfold gEq at q
  split at q
  · rename_i h
    obtain ⟨h1, h2⟩ := scalA_ok rx ry h
    refine .inl ⟨h1, ?_⟩
    rw [h2]
    exact Pst.okv (by simpa using q) S (.bl _)
  · split at q
    · rename_i d e h1 h2
      split at q
      · rename_i hc
        exact .inr ⟨d, e, toPyS_dp S rx h1, toPyS_dp S ry h2, hc.1, hc.2, Pst.okv (by simpa using q) S (.bl _)⟩
      · exact q.elim
    · exact q.elim
theorem op2_ne {K : PySem.W.Frag} : Op2 K (fun x y H Q => rNe x y H Q ∨ rNeD K x y H Q) (gEq true) := by
  intro CL W F G as s H x y v u Q S rx ry q
  unfold gEq at q
  split at q
  · rename_i h
    obtain ⟨h1, h2⟩ := scalA_ok rx ry h
    refine .inl ⟨h1, ?_⟩
    rw [h2]
    exact Pst.okv (by simpa using q) S (.bl _)
  · split at q
    · rename_i d e h1 h2
      split at q
      · rename_i hc
        exact .inr ⟨d, e, toPyS_dp S rx h1, toPyS_dp S ry h2, hc.1, hc.2, Pst.okv (by simpa using q) S (.bl _)⟩
      · exact q.elim
    · exact q.elim
/-- is, is not: None and bools -/
def gIs (neg : Bool) (x y : Va) (s : Sto) : Rs Va := match x, y with
  | .bl a, .bl b => .ok (.bl (neg != decide (a = b))) s
  | .non, .non => .ok (.bl (neg != true)) s
  | _, .non => .ok (.bl neg) s
  | _, _ => .bad
theorem op2_is {K : PySem.W.Frag} : Op2 K (fun x y H Q => (y = .non ∧ Q (.bl (decide (x = .non))) H) ∨ rIsB x y H Q) (gIs false) := by
  intro CL W F G as s H x y v u Q S rx ry q
  unfold gIs at q
  split at q
  · cases rx
    cases ry
    exact .inr ⟨_, _, rfl, rfl, Pst.okv (by simpa using q) S (.bl _)⟩
  · cases rx
    cases ry
    exact .inl ⟨rfl, q.ok Le.refl S (.bl _)⟩
  · rename_i h
    cases ry
    refine .inl ⟨rfl, ?_⟩
    rw [decide_eq_false (show ¬ v = .non by intro e; subst e; cases rx; exact h rfl)]
    exact q.ok Le.refl S (.bl _)
  · exact q.elim
theorem op2_isnot {K : PySem.W.Frag} : Op2 K (fun x y H Q => (y = .non ∧ Q (.bl (!decide (x = .non))) H) ∨ rNotB x y H Q) (gIs true) := by
  intro CL W F G as s H x y v u Q S rx ry q
  unfold gIs at q
  split at q
  · cases rx
    cases ry
    exact .inr ⟨_, _, rfl, rfl, Pst.okv (by simpa using q) S (.bl _)⟩
  · cases rx
    cases ry
    exact .inl ⟨rfl, q.ok Le.refl S (.bl _)⟩
  · rename_i h
    cases ry
    refine .inl ⟨rfl, ?_⟩
    rw [decide_eq_false (show ¬ v = .non by intro e; subst e; cases rx; exact h rfl)]
    exact q.ok Le.refl S (.bl _)
  · exact q.elim
section
variable {X : Cx} {CL : Cls0} {W : WX} {e a b c : Expr} {es : List Expr} {pos : Pos} {da db dc : DE} {dr : DA}
theorem op_eqA (hu : X.A.units + 64 < cLine) : OpR X (compareOp .Eq) (fun x y H Q => rEq x y H Q ∨ rEqD X.K x y H Q) := op_eq.or (op_eqD hu)
theorem op_neA (hu : X.A.units + 64 < cLine) : OpR X (compareOp .NotEq) (fun x y H Q => rNe x y H Q ∨ rNeD X.K x y H Q) := op_ne.or (op_neD hu)
theorem op_isA : OpR X (compareOp .Is) (fun x y H Q => (y = .non ∧ Q (.bl (decide (x = .non))) H) ∨ rIsB x y H Q) := op_isN.or op_isBl
theorem op_isnotA : OpR X (compareOp .IsNot) (fun x y H Q => (y = .non ∧ Q (.bl (!decide (x = .non))) H) ∨ rNotB x y H Q) := op_notN.or op_notBl
end
abbrev gLt := gInt2 (fun _ _ => True) fun i j => .bl (decide (i < j))
abbrev gLe := gInt2 (fun _ _ => True) fun i j => .bl (decide (i ≤ j))
abbrev gGt := gInt2 (fun _ _ => True) fun i j => .bl (decide (j < i))
abbrev gGe := gInt2 (fun _ _ => True) fun i j => .bl (decide (j ≤ i))
end Dn

set_option Elab.async false
set_option linter.all false
set_option maxRecDepth 100000
set_option maxHeartbeats 1000000
/-! Dn, part C: dicts read, in, tests, subscripts, slices, built-in calls. -/
namespace Dn
open PySem PySem.Spec PyProof.Rows L2

/-! ### dicts, read -/
def lk {κ α : Type} [DecidableEq κ] (kvs : List (κ × α)) (k : κ) : Option α := (kvs.find? fun kv => decide (kv.1 = k)).map (·.2)
def pt {κ α : Type} [DecidableEq κ] (kvs : List (κ × α)) (k : κ) (v : α) : List (κ × α) :=
  if (kvs.any fun kv => decide (kv.1 = k)) = true then kvs.map (fun kv => if kv.1 = k then (kv.1, v) else kv) else kvs ++ [(k, v)]
def kOf : Va → Option Key
  | .int i => some (.inl i)
  | .str x => some (.inr x)
  | _ => none
def ksOf : List Va → Option (List Key)
  | [] => some []
  | x :: xs => match kOf x, ksOf xs with
    | some k, some ks => some (k :: ks)
    | _, _ => none
def kVa : Key → Va
  | .inl i => .int i
  | .inr x => .str x
def dicK? : Va → Sto → Option (List (Key × Va))
  | .dicK kvs, _ => some kvs
  | .ref i, s => match s[i]? with | some (.dicK kvs) => some kvs | _ => none
  | _, _ => none
def dicT? : Va → Sto → Option (List (List Key × Va))
  | .dicT kvs, _ => some kvs
  | .ref i, s => match s[i]? with | some (.dicT kvs) => some kvs | _ => none
  | _, _ => none
/-- d[y], if it is there -/
def gLook (x y : Va) (s : Sto) : Option (Option Va) := match dicK? x s with
  | some kvs => (kOf y).map (lk kvs)
  | none => match dicT? x s with
    | some kvs => match y with | .tup ys => (ksOf ys).map (lk kvs) | _ => none
    | none => none
section
variable {K : PySem.W.Frag} {CL : Cls0} {W : Value → Option Addr → Hp → Prop} {F F' H G : Hp} {as as' : List Addr} {s : Sto} {x y : Va} {v u : V}
theorem kOf_ok {k : Key} (r : Rl K F as x v) (h : kOf x = some k) : v = kV k := by
  cases r <;> simp [kOf] at h <;> subst h <;> rfl
theorem ksOf_ok : ∀ {xs : List Va} {vs : List V} {ks : List Key}, Rls K F as xs vs → ksOf xs = some ks → vs = ks.map kV
  | _, _, _, .nil, h => by
    simp only [ksOf, Option.some.injEq] at h
    subst h
    rfl
  | _, _, _, .cons h1 h2, h => by
    simp only [ksOf] at h
    split at h
    · rename_i k ks e1 e2
      cases h
      rw [List.map_cons, ksOf_ok h2 e2, kOf_ok h1 e1]
    · cases h
theorem RlK.lk : ∀ {kvs : List (Key × Va)} {ks : List (Key × V)} (k : Key), RlK K F as kvs ks → (∃ x v, Dn.lk kvs k = some x ∧ valV ks k = some v ∧ Rl K F as x v) ∨ (Dn.lk kvs k = none ∧ valV ks k = none)
  | _, _, k, .nil => .inr ⟨rfl, rfl⟩
  | _, _, k, .cons (k := j) (xs := xs) (vs := vs) h r => by
    unfold Dn.lk valV
    rw [List.find?_cons, List.find?_cons]
    by_cases e : j = k
    · rw [decide_eq_true e]
      exact .inl ⟨_, _, rfl, rfl, h⟩
    · rw [decide_eq_false e]
      exact RlK.lk k r
theorem RlT.lk : ∀ {kvs : List (List Key × Va)} {ks : List (List Key × V)} (k : List Key), RlT K F as kvs ks → (∃ x v, Dn.lk kvs k = some x ∧ valV ks k = some v ∧ Rl K F as x v) ∨ (Dn.lk kvs k = none ∧ valV ks k = none)
  | _, _, k, .nil => .inr ⟨rfl, rfl⟩
  | _, _, k, .cons (k := j) (xs := xs) (vs := vs) h r => by
    unfold Dn.lk valV
    rw [List.find?_cons, List.find?_cons]
    by_cases e : j = k
    · rw [decide_eq_true e]
      exact .inl ⟨_, _, rfl, rfl, h⟩
    · rw [decide_eq_false e]
      exact RlT.lk k r
theorem dicK_ok {kvs : List (Key × Va)} (S : Sim K F G as s H) (r : Rl K F as x v) (h : dicK? x s = some kvs) : ∃ a ks, v = .ref a ∧ H a = some (.dK ks) ∧ RlK K F as kvs ks := by
  cases x with
  | dicK ys =>
    cases r with
    | dicK hf hr =>
      simp only [dicK?, Option.some.injEq] at h
      subst h
      exact ⟨_, _, rfl, S.sub _ _ hf, hr⟩
  | ref i =>
    cases r with
    | ref ha =>
      simp only [dicK?] at h
      split at h
      · rename_i ys e
        cases h
        obtain ⟨_, vs, h1, h2⟩ := S.ref ha e
        exact ⟨_, vs, rfl, h1, h2⟩
      · cases h
  | _ => simp [dicK?] at h
theorem dicT_ok {kvs : List (List Key × Va)} (S : Sim K F G as s H) (r : Rl K F as x v) (h : dicT? x s = some kvs) : ∃ a ks, v = .ref a ∧ H a = some (.dT ks) ∧ RlT K F as kvs ks := by
  cases x with
  | dicT ys =>
    cases r with
    | dicT hf hr =>
      simp only [dicT?, Option.some.injEq] at h
      subst h
      exact ⟨_, _, rfl, S.sub _ _ hf, hr⟩
  | ref i =>
    cases r with
    | ref ha =>
      simp only [dicT?] at h
      split at h
      · rename_i ys e
        cases h
        obtain ⟨_, vs, h1, h2⟩ := S.ref ha e
        exact ⟨_, vs, rfl, h1, h2⟩
      · cases h
  | _ => simp [dicT?] at h
theorem gLook_ok {o : Option Va} (S : Sim K F G as s H) (rx : Rl K F as x v) (ry : Rl K F as y u) (h : gLook x y s = some o) : ∃ a o', v = .ref a ∧ DGet H a u o' ∧ ((∃ z w, o = some z ∧ o' = some w ∧ Rl K F as z w) ∨ (o = none ∧ o' = none)) := by
  unfold gLook at h
  split at h
  · rename_i kvs e
    obtain ⟨a, ks, rfl, h1, h2⟩ := dicK_ok S rx e
    cases e2 : kOf y with
    | none =>
      rw [e2] at h
      cases h
    | some k =>
      rw [e2] at h
      cases h
      refine ⟨a, valV ks k, rfl, by rw [kOf_ok ry e2]; exact DGet.k h1, ?_⟩
      rcases h2.lk k with ⟨z, w, q1, q2, q3⟩ | ⟨q1, q2⟩
      · exact .inl ⟨z, w, q1, q2, q3⟩
      · exact .inr ⟨q1, q2⟩
  · split at h
    · rename_i kvs e
      obtain ⟨a, ks, rfl, h1, h2⟩ := dicT_ok S rx e
      split at h
      · rename_i ys
        obtain ⟨b, us, rfl, h3, h4⟩ := seqT_ok S ry (xs := ys) rfl
        cases e2 : ksOf ys with
        | none =>
          rw [e2] at h
          cases h
        | some k =>
          rw [e2] at h
          cases h
          refine ⟨a, valV ks k, rfl, DGet.t h1 (by rw [h3, ksOf_ok h4 e2]), ?_⟩
          rcases h2.lk k with ⟨z, w, q1, q2, q3⟩ | ⟨q1, q2⟩
          · exact .inl ⟨z, w, q1, q2, q3⟩
          · exact .inr ⟨q1, q2⟩
      · cases h
    · cases h
end
section
variable {X : Cx}
theorem ix_dict (hu : X.A.units + 64 < cLine) : IxR X (fun x y H Q => ∃ a v, x = .ref a ∧ DGet H a y (some v) ∧ Q v H) := by
  intro value slice pins s σ H x y v u Q I rx ry h hs
  obtain ⟨a, w, rfl, g, q⟩ := h
  cases rx
  have hT := dict_typeIs I g
  unfold subscriptTail
  refine wpAny_bind ?_
  rw [getitemInPython_of_ne hT.not_modules]
  refine wpAny_bind (wpAny_specialOf hT PySem.F.slot_dict_getitem.lookup ?_)
  have fin : wpAny (model X.prog X.w) X.A (subscripted slice false (.ref a) u) (fun r s₃ => wpAny (model X.prog X.w) X.A (letTemporaryGo value (.ref a) r >>= fun _ => pure r) (EP X pins σ Q) X.xe s₃) X.xe s := by
    rw [hs]
    exact wpAny_operating (wpAny_mono (d_getItem (Q := EP X pins σ Q) (by omega) I g ry fun w' s3 I3 rw' => ⟨w, H, I3, rw', q⟩) (fun r s₃ h₃ => wpAny_bind (wpAny_letTemporaryGo (wpAny_pure h₃))) fun _ _ x => x)
  first
    | exact wpAny_pure (wpAny_bind fin)
    | exact wpAny_bind (wpAny_pure (wpAny_bind fin))
    | exact wpAny_bind fin
theorem op_in_dict (hu : X.A.units + 64 < cLine) : OpR X (compareOp .In) (fun y x H Q => ∃ a o, x = .ref a ∧ DGet H a y o ∧ Q (.bl o.isSome) H) := by
  intro pins s σ H y x iv u Q I ry rx h
  obtain ⟨a, o, rfl, g, q⟩ := h
  cases rx
  exact d_in (by omega) I g ry fun s3 I3 => ⟨.bl o.isSome, H, I3, rfl, q⟩
theorem op_notIn_dict (hu : X.A.units + 64 < cLine) : OpR X (compareOp .NotIn) (fun y x H Q => ∃ a o, x = .ref a ∧ DGet H a y o ∧ Q (.bl (!o.isSome)) H) := by
  intro pins s σ H y x iv u Q I ry rx h
  obtain ⟨a, o, rfl, g, q⟩ := h
  cases rx
  exact d_notIn (by omega) I g ry fun s3 I3 => ⟨.bl (!o.isSome), H, I3, rfl, q⟩
end

/-! ### in, not in -/
def flatA : Va → Bool
  | .non => true | .bl _ => true | .int _ => true | .str _ => true | _ => false
def eqFA : Va → Va → Bool
  | .non, .non => true
  | .bl a, .bl b => a == b
  | .bl a, .int b => (if a then 1 else 0) == b
  | .int a, .bl b => a == (if b then 1 else 0)
  | .int a, .int b => a == b
  | .str a, .str b => a == b
  | _, _ => false
theorem one_sign {w : Str} {c : Nat} (h : w.cps.toList = [c]) : w = ⟨#[c]⟩ := by
  obtain ⟨⟨ls⟩⟩ := w
  have e : ls = [c] := h
  subst e
  rfl
def inA (x : Va) (xs : List Va) : Bool := xs.any fun y => eqFA y x
noncomputable def gIn (neg : Bool) (x y : Va) (s : Sto) : Rs Va := match y with
  | .str z => match x with
    | .str w => match w.cps.toList with
      | [c] => .ok (.bl (neg != decide (c ∈ z.cps.toList))) s
      | _ => .bad
    | _ => .bad
  | y => match gLook y x s with
    | some o => .ok (.bl (neg != o.isSome)) s
    | none => match seqA y s with
      | none => .bad
      | some xs => if flatA x = true ∧ xs.all flatA = true then .ok (.bl (neg != inA x xs)) s else
        match toPyS x s, toPyS y s with
        | some d, some (.list ds) => if shp d ∧ shp (.list ds) then .ok (.bl (neg != ds.any fun z => PyData.eqv z d)) s else .bad
        | _, _ => .bad
section
variable {K : PySem.W.Frag} {CL : Cls0} {W : Value → Option Addr → Hp → Prop} {F F' H G : Hp} {as as' : List Addr} {s : Sto} {x y : Va} {v u : V}
theorem flatA_ok (r : Rl K F as x v) (h : flatA x = true) : flatV v = true := by
  cases r <;> first | rfl | simp [flatA] at h
theorem flatA_all : ∀ {xs : List Va} {vs : List V}, Rls K F as xs vs → xs.all flatA = true → vs.all flatV = true
  | _, _, .nil, _ => rfl
  | _, _, .cons h r, q => by
    rw [List.all_cons, Bool.and_eq_true] at q ⊢
    exact ⟨flatA_ok h q.1, flatA_all r q.2⟩
theorem eqFA_ok (rx : Rl K F as x v) (ry : Rl K F as y u) (hx : flatA x = true) (hy : flatA y = true) : eqV v u = eqFA x y := by
  cases rx <;> first | (exfalso; simp [flatA] at hx; done) | (cases ry <;> first | rfl | (exfalso; simp [flatA] at hy; done))
theorem inA_ok (rx : Rl K F as x v) (hx : flatA x = true) : ∀ {xs : List Va} {vs : List V}, Rls K F as xs vs → xs.all flatA = true → inV v vs = inA x xs
  | _, _, .nil, _ => rfl
  | _, _, .cons h r, q => by
    rw [List.all_cons, Bool.and_eq_true] at q
    have ih := inA_ok rx hx r q.2
    unfold inV inA at ih ⊢
    rw [List.any_cons, List.any_cons, ih, eqFA_ok h rx q.1 hx]
end
def rInA (K : PySem.W.Frag) : R2 := fun x y H Q => (∃ (c : Nat) (z : Str), x = .str ⟨#[c]⟩ ∧ y = .str z ∧ Q (.bl (decide (c ∈ z.cps.toList))) H) ∨ (∃ a o, y = .ref a ∧ DGet H a x o ∧ Q (.bl o.isSome) H) ∨ rIn K false x y H Q ∨ rInD K x y H Q
def rNotInA (K : PySem.W.Frag) : R2 := fun x y H Q => (∃ (c : Nat) (z : Str), x = .str ⟨#[c]⟩ ∧ y = .str z ∧ Q (.bl (!decide (c ∈ z.cps.toList))) H) ∨ (∃ a o, y = .ref a ∧ DGet H a x o ∧ Q (.bl (!o.isSome)) H) ∨ rIn K true x y H Q ∨ rNotInD K x y H Q
theorem op_inA {X : Cx} (hu : X.A.units + 65 < cLine) : OpR X (compareOp .In) (rInA X.K) := op_in_sign.or ((op_in_dict (by omega)).or (op_in_seq.or (op_inD hu)))
theorem op_notInA {X : Cx} (hu : X.A.units + 65 < cLine) : OpR X (compareOp .NotIn) (rNotInA X.K) := op_notIn_sign.or ((op_notIn_dict (by omega)).or (op_notIn_seq.or (op_notInD hu)))
theorem op2_in {K : PySem.W.Frag} : Op2 K (rInA K) (gIn false) := by
  intro CL W F G as s H x y v u Q S rx ry q
  unfold gIn at q
  split at q
  · cases ry
    split at q
    · cases rx
      split at q
      · rename_i e
        exact .inl ⟨_, _, congrArg V.str (one_sign e), rfl, Pst.okv (by simpa using q) S (.bl _)⟩
      · exact q.elim
    · exact q.elim
  · split at q
    · rename_i o e
      obtain ⟨a, o', rfl, g, h⟩ := gLook_ok S ry rx e
      refine .inr (.inl ⟨a, o', rfl, g, ?_⟩)
      rcases h with ⟨z, w, rfl, rfl, _⟩ | ⟨rfl, rfl⟩
      · exact Pst.okv (by simpa using q) S (.bl _)
      · exact Pst.okv (by simpa using q) S (.bl _)
    · split at q
      · exact q.elim
      · rename_i xs e
        obtain ⟨a, vs, rfl, h2, h3⟩ := seqA_ok S ry e
        split at q
        · rename_i hc
          refine .inr (.inr (.inl ⟨a, vs, rfl, h2, flatA_ok rx hc.1, flatA_all h3 hc.2, ?_⟩))
          rw [inA_ok rx hc.1 h3 hc.2]
          exact Pst.okv (by simpa using q) S (.bl _)
        · split at q
          · rename_i d ds e1 e2
            split at q
            · rename_i hc
              exact .inr (.inr (.inr ⟨d, ds, toPyS_dp S rx e1, toPyS_dp S ry e2, hc.1, hc.2, Pst.okv (by simpa using q) S (.bl _)⟩))
            · exact q.elim
          · exact q.elim
theorem op2_notIn {K : PySem.W.Frag} : Op2 K (rNotInA K) (gIn true) := by
  intro CL W F G as s H x y v u Q S rx ry q
  unfold gIn at q
  split at q
  · cases ry
    split at q
    · cases rx
      split at q
      · rename_i e
        exact .inl ⟨_, _, congrArg V.str (one_sign e), rfl, Pst.okv (by simpa using q) S (.bl _)⟩
      · exact q.elim
    · exact q.elim
  · split at q
    · rename_i o e
      obtain ⟨a, o', rfl, g, h⟩ := gLook_ok S ry rx e
      refine .inr (.inl ⟨a, o', rfl, g, ?_⟩)
      rcases h with ⟨z, w, rfl, rfl, _⟩ | ⟨rfl, rfl⟩
      · exact Pst.okv (by simpa using q) S (.bl _)
      · exact Pst.okv (by simpa using q) S (.bl _)
    · split at q
      · exact q.elim
      · rename_i xs e
        obtain ⟨a, vs, rfl, h2, h3⟩ := seqA_ok S ry e
        split at q
        · rename_i hc
          refine .inr (.inr (.inl ⟨a, vs, rfl, h2, flatA_ok rx hc.1, flatA_all h3 hc.2, ?_⟩))
          rw [inA_ok rx hc.1 h3 hc.2]
          exact Pst.okv (by simpa using q) S (.bl _)
        · split at q
          · rename_i d ds e1 e2
            split at q
            · rename_i hc
              exact .inr (.inr (.inr ⟨d, ds, toPyS_dp S rx e1, toPyS_dp S ry e2, hc.1, hc.2, Pst.okv (by simpa using q) S (.bl _)⟩))
            · exact q.elim
          · exact q.elim

/-! ### subscripts -/
noncomputable def gIx (x y : Va) (s : Sto) : Rs Va := match seqA x s, y with
  | some xs, .int i => match atI xs i with
    | some z => .ok z s
    | none => .bad
  | some _, _ => .bad
  | none, y => match x, y with
    | .str z, .int i => if leq z.length sizeLine then match atI z.cps.toList i with
      | some c => .ok (.str ⟨#[c]⟩) s
      | none => .bad else .bad
    | x, y => match gLook x y s with
      | some (some z) => .ok z s
      | _ => .bad
def rIxA (K : PySem.W.Frag) : R2 := fun x y H Q => rIx K x y H Q ∨ ∃ a v, x = .ref a ∧ DGet H a y (some v) ∧ Q v H
theorem ix_any {X : Cx} (hu : X.A.units + 64 < cLine) : IxR X (rIxA X.K) := ix_seq.or (ix_dict hu)
theorem atI_rl {K : PySem.W.Frag} {F : Hp} {as : List Addr} {xs : List Va} {vs : List V} {i : Int} {z : Va} (r : Rls K F as xs vs) (h : atI xs i = some z) : ∃ w, atI vs i = some w ∧ Rl K F as z w := by
  unfold atI at h ⊢
  rw [r.len] at h
  cases e : ixN vs.length i with
  | none =>
    rw [e] at h
    cases h
  | some j =>
    rw [e] at h
    exact r.get h
theorem op2_ix {K : PySem.W.Frag} : Op2 K (rIxA K) gIx := by
  intro CL W F G as s H x y v u Q S rx ry q
  unfold gIx at q
  split at q
  · rename_i xs i e
    obtain ⟨a, vs, rfl, h2, h3⟩ := seqA_ok S rx e
    cases ry
    split at q
    · rename_i z e2
      obtain ⟨w, h4, h5⟩ := atI_rl h3 e2
      rcases h2 with h2 | h2
      · exact .inl (.inl ⟨a, vs, i, w, rfl, rfl, h2, h4, q.okv S h5⟩)
      · exact .inl (.inr (.inl ⟨a, vs, i, w, rfl, rfl, h2, h4, q.okv S h5⟩))
    · exact q.elim
  · exact q.elim
  · split at q
    · cases rx
      cases ry
      split at q
      · rename_i hc
        split at q
        · rename_i c e2
          exact .inl (.inr (.inr ⟨_, _, c, rfl, rfl, hc, e2, q.okv S (.str _)⟩))
        · exact q.elim
      · exact q.elim
    · split at q
      · rename_i z e
        obtain ⟨a, o', rfl, g, h⟩ := gLook_ok S rx ry e
        rcases h with ⟨z', w, e1, rfl, h3⟩ | ⟨e1, _⟩
        · cases e1
          exact .inr ⟨a, w, rfl, g, q.okv S h3⟩
        · cases e1
      · exact q.elim

/-! ### slices -/
abbrev DO := En → Sto → Rs (Option Int)
def tDO (K : PySem.W.Frag) (CL : Cls0) (W : WX) (d : DO) : TO := fun σ H Q => ∃ F G as ε s, Sim K F G as s H ∧ ER K F as ε σ ∧ Pst K CL (fun c d H => W c d σ H) F G as (fun _ _ x v => x = v) (d ε s) Q
abbrev RO (X : Cx) (CL : Cls0) (W : WX) (e : Option Expr) (d : DO) : Prop := PO X e (tDO X.K CL W d)
def dNo : DO := fun _ s => .ok none s
def dSome (d : DE) : DO := fun ε s => (d ε s).bind fun x s1 => match x with | .int i => .ok (some i) s1 | _ => .bad
def cutA (xs : List Va) (lo hi : Option Int) : List Va := (xs.drop (HT.sIx xs.length 0 lo)).take (HT.sIx xs.length xs.length hi - HT.sIx xs.length 0 lo)
noncomputable def gSl (bx : Bool) (x : Va) (lo hi : Option Int) (s : Sto) : Rs Va := match x with
  | .tup xs => .ok (.tup (cutA xs lo hi)) s
  | .str z => if leq z.length sizeLine then .ok (.str (cutS z lo hi)) s else .bad
  | x => match seqL x s with
    | some xs => mkL bx (cutA xs lo hi) s
    | none => .bad
noncomputable def dSl (bx : Bool) (da : DE) (dl dh : DO) : DE := fun ε s => (da ε s).bind fun x s1 => (dl ε s1).bind fun l s2 => (dh ε s2).bind fun h s3 => gSl bx x l h s3
theorem cutA_rl {K : PySem.W.Frag} {F : Hp} {as : List Addr} {xs : List Va} {vs : List V} (lo hi : Option Int) (r : Rls K F as xs vs) : Rls K F as (cutA xs lo hi) (cutV vs lo hi) := by
  unfold cutA cutV
  rw [r.len]
  exact (r.drop _).take _
theorem cut_whole {xs : List V} {lo hi : Option Int} (h : HT.sIx xs.length 0 lo = 0 ∧ HT.sIx xs.length xs.length hi = xs.length) : cutV xs lo hi = xs := by
  unfold cutV
  rw [h.1, h.2]
  simp
section
variable {X : Cx} {CL : Cls0} {W : WX} {e a b c : Expr} {es rest : List Expr} {pos : Pos} {da db dc : DE} {dr : DA} {dl dh : DO} {lo hi : Option Expr} {ta tb tc : DT}
theorem ro_no : RO X CL W none dNo := ⟨fun pins s σ H Q I h => po_none.run pins s σ H Q I (by
  obtain ⟨F, G, as, ε, s, S, E, h⟩ := h
  exact h.ok Le.refl S rfl)⟩
theorem ro_some (ha : RE X CL W a da) : RO X CL W (some a) (dSome da) := ⟨fun pins s σ H Q I h => (po_some ha).run pins s σ H Q I (by
  obtain ⟨F, G, as, ε, s, S, E, h⟩ := h
  refine ⟨F, G, as, ε, s, S, E, Pst.imp (Pst.bind h) fun v H1 ⟨F1, as1, s1, x, l, S1, rx, h1⟩ => ?_⟩
  split at h1
  · cases rx
    exact ⟨_, rfl, h1.ok Le.refl S1 rfl⟩
  · exact h1.elim)⟩
theorem re_sl (bx : Bool) {p2 : Pos} (ha : RE X CL W a da) (hl : RO X CL W lo dl) (hh : RO X CL W hi dh) : RE X CL W (.Subscript a (.Slice lo hi none p2) pos) (dSl bx da dl dh) :=
  pe_weak (pe_slice (sl_tupA.or (sl_list.or sl_str)) ha hl hh) fun σ H Q h => by
    obtain ⟨F, G, as, ε, s, S, E, h⟩ := h
    refine ⟨F, G, as, ε, s, S, E, Pst.imp (Pst.bind h) fun v H1 ⟨F1, as1, s1, x, l1, S1, rx, h1⟩ => ?_⟩
    refine ⟨F1, G, as1, ε, s1, S1, E.mono l1, Pst.imp (Pst.bind h1) fun o1 H2 ⟨F2, as2, s2, o1', l2, S2, e1, h2⟩ => ?_⟩
    subst e1
    refine ⟨F2, G, as2, ε, s2, S2, (E.mono l1).mono l2, Pst.imp (Pst.bind h2) fun o2 H3 ⟨F3, as3, s3, o2', l3, S3, e2, h3⟩ => ?_⟩
    subst e2
    have rx3 := (rx.mono l2).mono l3
    unfold gSl at h3
    split at h3
    · obtain ⟨p, vs, rfl, q1, q2⟩ := seqT_ok S3 rx3 rfl
      refine .inl ⟨p, vs, rfl, SqT.of q1, fun hw => ?_, fun _ => mkT_ok S3 (cutA_rl _ _ q2) h3⟩
      have r2 := cutA_rl o1' o2' q2
      rw [cut_whole hw] at r2
      cases rx3 with
      | tup hf hr =>
        have e3 := S3.sub _ _ hf
        rw [q1] at e3
        cases e3
        exact h3.okv S3 (.tup hf r2)
    · cases rx3
      split at h3
      · rename_i hc
        exact .inr (.inr ⟨_, rfl, hc, h3.okv S3 (.str _)⟩)
      · exact h3.elim
    · split at h3
      · rename_i xs e3
        obtain ⟨p, vs, rfl, q1, q2⟩ := seqL_ok S3 rx3 e3
        exact .inr (.inl ⟨p, vs, rfl, SqL.of q1, mkL_ok S3 (cutA_rl _ _ q2) h3⟩)
      · exact h3.elim

/-! ### comparisons -/
theorem re_eq (hu : X.A.units + 65 < cLine) (ha : RE X CL W a da) (hb : RE X CL W b db) (hm : behindInMarks .Eq b = false := by rfl) : RE X CL W (.Compare a [.Eq] [b] pos) (dBin (gEq false) da db) := re_cmp (op_eqA (by omega)) op2_eq ha hb hm
theorem re_ne (hu : X.A.units + 65 < cLine) (ha : RE X CL W a da) (hb : RE X CL W b db) (hm : behindInMarks .NotEq b = false := by rfl) : RE X CL W (.Compare a [.NotEq] [b] pos) (dBin (gEq true) da db) := re_cmp (op_neA (by omega)) op2_ne ha hb hm
theorem re_is (ha : RE X CL W a da) (hb : RE X CL W b db) (hm : behindInMarks .Is b = false := by rfl) : RE X CL W (.Compare a [.Is] [b] pos) (dBin (gIs false) da db) := re_cmp op_isA op2_is ha hb hm
theorem re_isnot (ha : RE X CL W a da) (hb : RE X CL W b db) (hm : behindInMarks .IsNot b = false := by rfl) : RE X CL W (.Compare a [.IsNot] [b] pos) (dBin (gIs true) da db) := re_cmp op_isnotA op2_isnot ha hb hm
theorem re_in (hu : X.A.units + 65 < cLine) (ha : RE X CL W a da) (hb : RE X CL W b db) (hm : behindInMarks .In b = false := by rfl) : RE X CL W (.Compare a [.In] [b] pos) (dBin (gIn false) da db) := re_cmp (op_inA hu) op2_in ha hb hm
theorem re_notin (hu : X.A.units + 65 < cLine) (ha : RE X CL W a da) (hb : RE X CL W b db) (hm : behindInMarks .NotIn b = false := by rfl) : RE X CL W (.Compare a [.NotIn] [b] pos) (dBin (gIn true) da db) := re_cmp (op_notInA hu) op2_notIn ha hb hm
theorem re_lt (ha : RE X CL W a da) (hb : RE X CL W b db) (hm : behindInMarks .Lt b = false := by rfl) : RE X CL W (.Compare a [.Lt] [b] pos) (dBin gLt da db) := re_cmp op_lt op2_B0 ha hb hm
theorem re_le (ha : RE X CL W a da) (hb : RE X CL W b db) (hm : behindInMarks .LtE b = false := by rfl) : RE X CL W (.Compare a [.LtE] [b] pos) (dBin gLe da db) := re_cmp op_le op2_B0 ha hb hm
theorem re_gt (ha : RE X CL W a da) (hb : RE X CL W b db) (hm : behindInMarks .Gt b = false := by rfl) : RE X CL W (.Compare a [.Gt] [b] pos) (dBin gGt da db) := re_cmp op_gt op2_B0 ha hb hm
theorem re_ge (ha : RE X CL W a da) (hb : RE X CL W b db) (hm : behindInMarks .GtE b = false := by rfl) : RE X CL W (.Compare a [.GtE] [b] pos) (dBin gGe da db) := re_cmp op_ge op2_B0 ha hb hm
theorem re_sub2 (hu : X.A.units + 65 < cLine) (ha : RE X CL W a da) (hb : RE X CL W b db) (hp : PlainIx b := by exact fun _ _ => rfl) : RE X CL W (.Subscript a b pos) (dBin gIx da db) := re_ix (ix_any (by omega)) op2_ix ha hb hp

/-! ### tests -/
/-- a value that is a bool -/
def dTB (da : DE) : DT := fun ε s => (da ε s).bind fun x s1 => match x with | .bl b => .ok b s1 | _ => .bad
noncomputable def truA (x : Va) (s : Sto) : Option Bool := match x with
  | .non => some false
  | .bl b => some b
  | .int i => some (i != 0)
  | .str y => if leq y.length sizeLine then some ((y.length : Int) != 0) else none
  | x => match seqA x s with
    | some xs => some !xs.isEmpty
    | none => match dicK? x s with
      | some kvs => some !kvs.isEmpty
      | none => none
/-- a value's truth -/
noncomputable def dTr (da : DE) : DT := fun ε s => (da ε s).bind fun x s1 => match truA x s1 with | some b => .ok b s1 | none => .bad
def dAnd (ta tb : DT) : DT := fun ε s => (ta ε s).bind fun b s1 => if b = true then tb ε s1 else .ok false s1
def dOr (ta tb : DT) : DT := fun ε s => (ta ε s).bind fun b s1 => if b = true then .ok true s1 else tb ε s1
def dNot (ta : DT) : DT := fun ε s => (ta ε s).bind fun b s1 => .ok (!b) s1
theorem truA_ok {K : PySem.W.Frag} {F H G : Hp} {as : List Addr} {s : Sto} {x : Va} {v : V} {k : Bool} (S : Sim K F G as s H) (r : Rl K F as x v) (h : truA x s = some k) : TruV K v H k := by
  have seqq : ∀ {xs : List Va} {vs : List V}, Rls K F as xs vs → (!xs.isEmpty) = !vs.isEmpty := fun r => by
    cases r <;> rfl
  have dicq : ∀ {xs : List (Key × Va)} {vs : List (Key × V)}, RlK K F as xs vs → (!xs.isEmpty) = !vs.isEmpty := fun r => by
    cases r <;> rfl
  unfold truA at h
  split at h
  · cases r
    exact (Option.some.inj h).symm
  · cases r
    exact (Option.some.inj h).symm
  · cases r
    exact (Option.some.inj h).symm
  · cases r
    split at h
    · rename_i hc
      exact ⟨hc, (Option.some.inj h).symm⟩
    · cases h
  · split at h
    · rename_i xs e
      cases h
      obtain ⟨a, vs, rfl, h2, h3⟩ := seqA_ok S r e
      rcases h2 with h2 | h2
      · exact .inl ⟨vs, h2, seqq h3⟩
      · exact .inr (.inl ⟨vs, h2, seqq h3⟩)
    · split at h
      · rename_i kvs e
        cases h
        obtain ⟨a, ks, rfl, h2, h3⟩ := dicK_ok S r e
        exact .inr (.inr ⟨ks, h2, dicq h3⟩)
      · cases h
theorem rt_val (h : RE X CL W a da) {t : TE} (he : PT X a (tTest t)) (hq : ∀ σ H Q, tD X.K CL W da σ H Q → t σ H Q) : RT X CL W a (dTB da) := pt_weak he fun σ H Q q => by
  refine hq σ H _ ?_
  obtain ⟨F, G, as, ε, s, S, E, h⟩ := q
  refine ⟨F, G, as, ε, s, S, E, Pst.imp (Pst.bind h) fun v H1 ⟨F1, as1, s1, x, l, S1, rx, h1⟩ => ?_⟩
  split at h1
  · cases rx
    exact ⟨_, rfl, h1.ok Le.refl S1 rfl⟩
  · exact h1.elim
/-- a comparison as a test -/
theorem rt_cmp {op : CmpOp} {r : R2} {g : Va → Va → Sto → Rs Va} (ho : OpR X (compareOp op) r) (hg : Op2 X.K r g) (ha : RE X CL W a da) (hb : RE X CL W b db) (hm : behindInMarks op b = false := by rfl) : RT X CL W (.Compare a [op] [b] pos) (dTB (dBin g da db)) :=
  rt_val (re_cmp (pos := pos) ho hg ha hb hm) (pt_cmpR ho ha hb hm) fun _ _ _ h => tD_bin hg h
theorem rt_eq (hu : X.A.units + 65 < cLine) (ha : RE X CL W a da) (hb : RE X CL W b db) (hm : behindInMarks .Eq b = false := by rfl) : RT X CL W (.Compare a [.Eq] [b] pos) (dTB (dBin (gEq false) da db)) := rt_cmp (op_eqA (by omega)) op2_eq ha hb hm
theorem rt_ne (hu : X.A.units + 65 < cLine) (ha : RE X CL W a da) (hb : RE X CL W b db) (hm : behindInMarks .NotEq b = false := by rfl) : RT X CL W (.Compare a [.NotEq] [b] pos) (dTB (dBin (gEq true) da db)) := rt_cmp (op_neA (by omega)) op2_ne ha hb hm
theorem rt_is (ha : RE X CL W a da) (hb : RE X CL W b db) (hm : behindInMarks .Is b = false := by rfl) : RT X CL W (.Compare a [.Is] [b] pos) (dTB (dBin (gIs false) da db)) := rt_cmp op_isA op2_is ha hb hm
theorem rt_isnot (ha : RE X CL W a da) (hb : RE X CL W b db) (hm : behindInMarks .IsNot b = false := by rfl) : RT X CL W (.Compare a [.IsNot] [b] pos) (dTB (dBin (gIs true) da db)) := rt_cmp op_isnotA op2_isnot ha hb hm
theorem rt_in (hu : X.A.units + 65 < cLine) (ha : RE X CL W a da) (hb : RE X CL W b db) (hm : behindInMarks .In b = false := by rfl) : RT X CL W (.Compare a [.In] [b] pos) (dTB (dBin (gIn false) da db)) := rt_cmp (op_inA hu) op2_in ha hb hm
theorem rt_notin (hu : X.A.units + 65 < cLine) (ha : RE X CL W a da) (hb : RE X CL W b db) (hm : behindInMarks .NotIn b = false := by rfl) : RT X CL W (.Compare a [.NotIn] [b] pos) (dTB (dBin (gIn true) da db)) := rt_cmp (op_notInA hu) op2_notIn ha hb hm
theorem rt_lt (ha : RE X CL W a da) (hb : RE X CL W b db) (hm : behindInMarks .Lt b = false := by rfl) : RT X CL W (.Compare a [.Lt] [b] pos) (dTB (dBin gLt da db)) := rt_cmp op_lt op2_B0 ha hb hm
theorem rt_le (ha : RE X CL W a da) (hb : RE X CL W b db) (hm : behindInMarks .LtE b = false := by rfl) : RT X CL W (.Compare a [.LtE] [b] pos) (dTB (dBin gLe da db)) := rt_cmp op_le op2_B0 ha hb hm
theorem rt_gt (ha : RE X CL W a da) (hb : RE X CL W b db) (hm : behindInMarks .Gt b = false := by rfl) : RT X CL W (.Compare a [.Gt] [b] pos) (dTB (dBin gGt da db)) := rt_cmp op_gt op2_B0 ha hb hm
theorem rt_ge (ha : RE X CL W a da) (hb : RE X CL W b db) (hm : behindInMarks .GtE b = false := by rfl) : RT X CL W (.Compare a [.GtE] [b] pos) (dTB (dBin gGe da db)) := rt_cmp op_ge op2_B0 ha hb hm
/-- any other expression, by its truth -/
theorem rt_tr (h : RE X CL W a da) (he : ∀ whole, isTrue a X.env whole = (do let v ← whole; standAt a.pos; holding [v] (truthy v)) := by exact fun _ => rfl) : RT X CL W a (dTr da) := pt_weak (pt_truth h he) fun σ H Q q => by
  obtain ⟨F, G, as, ε, s, S, E, h⟩ := q
  refine ⟨F, G, as, ε, s, S, E, Pst.imp (Pst.bind h) fun v H1 ⟨F1, as1, s1, x, l, S1, rx, h1⟩ => ?_⟩
  split at h1
  · rename_i b e
    exact ⟨b, truA_ok S1 rx e, h1.ok Le.refl S1 rfl⟩
  · exact h1.elim
theorem tDT_and {σ : L2.St} {H : Hp} {Q : Bool → Hp → Prop} {K : PySem.W.Frag} (h : tDT K CL W (dAnd ta tb) σ H Q) : tAnd (tDT K CL W ta) (tDT K CL W tb) σ H Q := by
  obtain ⟨F, G, as, ε, s, S, E, h⟩ := h
  refine ⟨F, G, as, ε, s, S, E, Pst.imp (Pst.bind h) fun v H1 ⟨F1, as1, s1, x, l, S1, rx, h1⟩ => ?_⟩
  subst rx
  cases x with
  | true => exact iteT ⟨F1, G, as1, ε, s1, S1, E.mono l, h1⟩
  | false => exact iteF (h1.ok Le.refl S1 rfl)
theorem tDT_or {σ : L2.St} {H : Hp} {Q : Bool → Hp → Prop} {K : PySem.W.Frag} (h : tDT K CL W (dOr ta tb) σ H Q) : tOr (tDT K CL W ta) (tDT K CL W tb) σ H Q := by
  obtain ⟨F, G, as, ε, s, S, E, h⟩ := h
  refine ⟨F, G, as, ε, s, S, E, Pst.imp (Pst.bind h) fun v H1 ⟨F1, as1, s1, x, l, S1, rx, h1⟩ => ?_⟩
  subst rx
  cases x with
  | true => exact iteT (h1.ok Le.refl S1 rfl)
  | false => exact iteF ⟨F1, G, as1, ε, s1, S1, E.mono l, h1⟩
theorem rw_and1 (ha : RT X CL W a ta) : RW X CL W (.BoolOp .And [a] pos) ta := pw_and1 ha
theorem rw_or1 (ha : RT X CL W a ta) : RW X CL W (.BoolOp .Or [a] pos) ta := pw_or1 ha
theorem rw_and (ha : RT X CL W a ta) (hb : RW X CL W (.BoolOp .And (b :: rest) pos) tb) : RW X CL W (.BoolOp .And (a :: b :: rest) pos) (dAnd ta tb) := pw_weak (pw_and ha hb) fun _ _ _ h => tDT_and h
theorem rw_or (ha : RT X CL W a ta) (hb : RW X CL W (.BoolOp .Or (b :: rest) pos) tb) : RW X CL W (.BoolOp .Or (a :: b :: rest) pos) (dOr ta tb) := pw_weak (pw_or ha hb) fun _ _ _ h => tDT_or h
theorem rt_not (ha : RT X CL W a ta) : RT X CL W (.UnaryOp .Not a pos) (dNot ta) := pt_weak (pt_not ha) fun σ H Q h => by
  obtain ⟨F, G, as, ε, s, S, E, h⟩ := h
  refine ⟨F, G, as, ε, s, S, E, Pst.imp (Pst.bind h) fun v H1 ⟨F1, as1, s1, x, l, S1, rx, h1⟩ => ?_⟩
  subst rx
  exact h1.ok Le.refl S1 rfl
/-- as values -/
noncomputable def dAndV (da db : DE) : DE := fun ε s => (da ε s).bind fun x s1 => match truA x s1 with | some true => db ε s1 | some false => .ok x s1 | none => .bad
noncomputable def dOrV (da db : DE) : DE := fun ε s => (da ε s).bind fun x s1 => match truA x s1 with | some true => .ok x s1 | some false => db ε s1 | none => .bad
noncomputable def dNotV (da : DE) : DE := fun ε s => (da ε s).bind fun x s1 => match truA x s1 with | some b => .ok (.bl (!b)) s1 | none => .bad
theorem re_one {op} (h : RE X CL W a da) : RE X CL W (.BoolOp op [a] pos) da := pe_one h
theorem re_and (ha : RE X CL W a da) (hb : RE X CL W (.BoolOp .And (b :: rest) pos) db) : RE X CL W (.BoolOp .And (a :: b :: rest) pos) (dAndV da db) := pe_weak (pe_andT ha hb) fun σ H Q h => by
  obtain ⟨F, G, as, ε, s, S, E, h⟩ := h
  refine ⟨F, G, as, ε, s, S, E, Pst.imp (Pst.bind h) fun v H1 ⟨F1, as1, s1, x, l, S1, rx, h1⟩ => ?_⟩
  split at h1
  · rename_i e
    exact ⟨true, truA_ok S1 rx e, iteT ⟨F1, G, as1, ε, s1, S1, E.mono l, h1⟩⟩
  · rename_i e
    exact ⟨false, truA_ok S1 rx e, iteF (h1.okv S1 rx)⟩
  · exact h1.elim
theorem re_or (ha : RE X CL W a da) (hb : RE X CL W (.BoolOp .Or (b :: rest) pos) db) : RE X CL W (.BoolOp .Or (a :: b :: rest) pos) (dOrV da db) := pe_weak (pe_orT ha hb) fun σ H Q h => by
  obtain ⟨F, G, as, ε, s, S, E, h⟩ := h
  refine ⟨F, G, as, ε, s, S, E, Pst.imp (Pst.bind h) fun v H1 ⟨F1, as1, s1, x, l, S1, rx, h1⟩ => ?_⟩
  split at h1
  · rename_i e
    exact ⟨true, truA_ok S1 rx e, iteT (h1.okv S1 rx)⟩
  · rename_i e
    exact ⟨false, truA_ok S1 rx e, iteF ⟨F1, G, as1, ε, s1, S1, E.mono l, h1⟩⟩
  · exact h1.elim
theorem re_not (ha : RE X CL W a da) : RE X CL W (.UnaryOp .Not a pos) (dNotV da) := pe_weak (pe_notT ha) fun σ H Q h => by
  obtain ⟨F, G, as, ε, s, S, E, h⟩ := h
  refine ⟨F, G, as, ε, s, S, E, Pst.imp (Pst.bind h) fun v H1 ⟨F1, as1, s1, x, l, S1, rx, h1⟩ => ?_⟩
  split at h1
  · rename_i b e
    exact ⟨b, truA_ok S1 rx e, h1.okv S1 (.bl _)⟩
  · exact h1.elim
def dIf (ta : DT) (da db : DE) : DE := fun ε s => (ta ε s).bind fun b s1 => if b = true then da ε s1 else db ε s1
theorem re_if (hc : RT X CL W c ta) (ha : RE X CL W a da) (hb : RE X CL W b db) : RE X CL W (.IfExp c a b pos) (dIf ta da db) := pe_weak (pe_ifExp hc ha hb) fun σ H Q h => by
  obtain ⟨F, G, as, ε, s, S, E, h⟩ := h
  refine ⟨F, G, as, ε, s, S, E, Pst.imp (Pst.bind h) fun v H1 ⟨F1, as1, s1, x, l, S1, rx, h1⟩ => ?_⟩
  subst rx
  cases x with
  | true => exact iteT ⟨F1, G, as1, ε, s1, S1, E.mono l, h1⟩
  | false => exact iteF ⟨F1, G, as1, ε, s1, S1, E.mono l, h1⟩
end
end Dn

set_option Elab.async false
set_option linter.all false
set_option maxRecDepth 100000
set_option maxHeartbeats 1000000
/-! Dn, part D: statements, loops, comprehensions, calls, defs. -/
namespace Dn
open PySem PySem.Spec PyProof.Rows L2

/-- where one stands -/
structure Okc (X : Cx) (W : WX) (k : Nat) : Prop where
  calm : X.calm = true
  tk : Takes X W
  hp : PassesOwn (model X.prog X.w) X.A X.env X.xe
  room : Room k X.A
  nd : X.N.Nodup
theorem Okc.hu {X : Cx} {W : WX} {k : Nat} (O : Okc X W k) : X.A.units + 65 < cLine := by
  have := O.room.un
  omega

abbrev RS (X : Cx) (CL : Cls0) (W : WX) (st : Stmt) (d : DS) : Prop := PS X st (tDS X.K CL W d)
abbrev RSs (X : Cx) (CL : Cls0) (W : WX) (st : List Stmt) (d : DS) : Prop := PSs X st (tDS X.K CL W d)

/-! ### built-in calls -/
section
variable {X : Cx} {CL : Cls0} {W : WX} {k : Nat} {x : Str} {p pos : Pos} {e : Expr} {es : List Expr} {id T : String} {dr : DA} {de : DE}
theorem re_callB {r : List V → Hp → VK → Prop} {g : List Va → Sto → Rs Va} (hc : CallR X (.builtin id) r) (hg : OpN X.K r g) (hG : Gl X x) (hm : X.mg x = none) (hv : bootBuiltins x = some (.builtin id)) (ha : RA X CL W (e :: es) dr) (hn : x ≠ "__name__" := by decide) (hdb : (x == ("__debug__" : Str)) = false := by decide)
    (he : starEach (e :: es) X.env = (false, eval e X.env) :: starEach es X.env := by rfl) (hpl : (backTo pos (starEach es X.env)).any (·.1) = false := by rfl) : RE X CL W (.Call (.Name x p) (e :: es) [] pos) (dApp g dr) :=
  pe_weak (pe_callB hc hG hm hv ha hn hdb he hpl) fun _ _ _ h => tD_app hg h
theorem re_callTy {r : List V → Hp → VK → Prop} {g : List Va → Sto → Rs Va} (hc : CallR X (.type T) r) (hg : OpN X.K r g) (hG : Gl X x) (hm : X.mg x = none) (hv : bootBuiltins x = some (.type T)) (ha : RA X CL W (e :: es) dr) (hn : x ≠ "__name__" := by decide) (hdb : (x == ("__debug__" : Str)) = false := by decide)
    (he : starEach (e :: es) X.env = (false, eval e X.env) :: starEach es X.env := by rfl) (hpl : (backTo pos (starEach es X.env)).any (·.1) = false := by rfl) : RE X CL W (.Call (.Name x p) (e :: es) [] pos) (dApp g dr) :=
  pe_weak (pe_callTy hc hG hm hv ha hn hdb he hpl) fun _ _ _ h => tD_app hg h
end
section
variable {K : PySem.W.Frag}
theorem Rls1 {F : Hp} {as : List Addr} {x : Va} {vs : List V} (r : Rls K F as [x] vs) : ∃ v, vs = [v] ∧ Rl K F as x v := by
  cases r with
  | cons h t =>
    cases t
    exact ⟨_, rfl, h⟩
theorem Rls2 {F : Hp} {as : List Addr} {x y : Va} {vs : List V} (r : Rls K F as [x, y] vs) : ∃ v u, vs = [v, u] ∧ Rl K F as x v ∧ Rl K F as y u := by
  cases r with
  | cons h t =>
    obtain ⟨u, rfl, h2⟩ := Rls1 t
    exact ⟨_, _, rfl, h, h2⟩
noncomputable def gLen (xs : List Va) (s : Sto) : Rs Va := match xs with
  | [.str z] => if leq z.length sizeLine then .ok (.int z.length) s else .bad
  | [x] => match seqA x s with
    | some ys => .ok (.int ys.length) s
    | none => match dicK? x s with
      | some kvs => .ok (.int kvs.length) s
      | none => .bad
  | _ => .bad
def rLenA (K : PySem.W.Frag) : List V → Hp → VK → Prop := fun xs H Q => (∃ x n, xs = [x] ∧ LenV K x H n ∧ Q (.int n) H) ∨ ∃ a kvs, xs = [V.ref a] ∧ H a = some (.dK kvs) ∧ Q (.int kvs.length) H
theorem call_lenA {X : Cx} : CallR X (.builtin "len") (rLenA X.K) := call_len.or call_lenD
theorem RlK.len {F : Hp} {as : List Addr} : ∀ {xs : List (Key × Va)} {vs : List (Key × V)}, RlK K F as xs vs → xs.length = vs.length
  | _, _, .nil => rfl
  | _, _, .cons _ r => congrArg (· + 1) (RlK.len r)
theorem opN_len : OpN K (rLenA K) gLen := by
  intro CL W F G as s H x v Q S rx q
  unfold gLen at q
  split at q
  · obtain ⟨v, rfl, r⟩ := Rls1 rx
    cases r
    split at q
    · rename_i hc
      exact .inl ⟨_, _, rfl, ⟨hc, rfl⟩, q.okv S (.int _)⟩
    · exact q.elim
  · obtain ⟨v, rfl, r⟩ := Rls1 rx
    split at q
    · rename_i ys e
      obtain ⟨a, vs, rfl, h2, h3⟩ := seqA_ok S r e
      refine .inl ⟨_, ys.length, rfl, ?_, q.okv S (.int _)⟩
      rcases h2 with h2 | h2
      · exact .inl ⟨vs, h2, h3.len⟩
      · exact .inr ⟨vs, h2, h3.len⟩
    · split at q
      · rename_i kvs e
        obtain ⟨a, ks, rfl, h2, h3⟩ := dicK_ok S r e
        refine .inr ⟨a, ks, rfl, h2, ?_⟩
        rw [← h3.len]
        exact q.okv S (.int _)
      · exact q.elim
  · exact q.elim
noncomputable def gInt (xs : List Va) (s : Sto) : Rs Va := match xs with
  | [.int i] => .ok (.int i) s
  | [.bl b] => .ok (.int (if b then 1 else 0)) s
  | [.str a] => match PySem.intText? a with
    | some n => if leq a.length 640 then .ok (.int n) s else .bad
    | none => .bad
  | _ => .bad
def rIntA : List V → Hp → VK → Prop := fun xs H Q => ((∃ i, xs = [.int i] ∧ Q (.int i) H) ∨ ∃ k, xs = [.bl k] ∧ Q (.int (if k then 1 else 0)) H) ∨ ∃ a n, xs = [.str a] ∧ PySem.intText? a = some n ∧ a.length ≤ 640 ∧ Q (.int n) H
theorem call_intA {X : Cx} : CallR X (.type "int") rIntA := call_int1.or call_int_str
theorem opN_int : OpN K rIntA gInt := by
  intro CL W F G as s H x v Q S rx q
  unfold gInt at q
  split at q
  · obtain ⟨v, rfl, r⟩ := Rls1 rx
    cases r
    exact .inl (.inl ⟨_, rfl, q.okv S (.int _)⟩)
  · obtain ⟨v, rfl, r⟩ := Rls1 rx
    cases r
    exact .inl (.inr ⟨_, rfl, q.okv S (.int _)⟩)
  · obtain ⟨v, rfl, r⟩ := Rls1 rx
    cases r
    split at q
    · rename_i n e
      split at q
      · rename_i hc
        exact .inr ⟨_, n, rfl, e, hc, q.okv S (.int _)⟩
      · exact q.elim
    · exact q.elim
  · exact q.elim
def gAbs (xs : List Va) (s : Sto) : Rs Va := match xs with
  | [.int i] => .ok (.int (if i < 0 then -i else i)) s
  | _ => .bad
theorem opN_abs : OpN K (fun xs H Q => ∃ i, xs = [.int i] ∧ Q (.int (if i < 0 then -i else i)) H) gAbs := by
  intro CL W F G as s H x v Q S rx q
  unfold gAbs at q
  split at q
  · obtain ⟨v, rfl, r⟩ := Rls1 rx
    cases r
    exact ⟨_, rfl, q.okv S (.int _)⟩
  · exact q.elim
def gMax2 (xs : List Va) (s : Sto) : Rs Va := match xs with
  | [.int i, .int j] => .ok (.int (if j > i then j else i)) s
  | _ => .bad
def gMin2 (xs : List Va) (s : Sto) : Rs Va := match xs with
  | [.int i, .int j] => .ok (.int (if j < i then j else i)) s
  | _ => .bad
theorem opN_max2 : OpN K (fun xs H Q => ∃ i j, xs = [.int i, .int j] ∧ Q (.int (if j > i then j else i)) H) gMax2 := by
  intro CL W F G as s H x v Q S rx q
  unfold gMax2 at q
  split at q
  · obtain ⟨v, u, rfl, r, r2⟩ := Rls2 rx
    cases r
    cases r2
    exact ⟨_, _, rfl, q.okv S (.int _)⟩
  · exact q.elim
theorem opN_min2 : OpN K (fun xs H Q => ∃ i j, xs = [.int i, .int j] ∧ Q (.int (if j < i then j else i)) H) gMin2 := by
  intro CL W F G as s H x v Q S rx q
  unfold gMin2 at q
  split at q
  · obtain ⟨v, u, rfl, r, r2⟩ := Rls2 rx
    cases r
    cases r2
    exact ⟨_, _, rfl, q.okv S (.int _)⟩
  · exact q.elim
/-- list(..) of a list, a tuple; of a dict -/
def gList (bx : Bool) (xs : List Va) (s : Sto) : Rs Va := match xs with
  | [x] => match seqA x s with
    | some ys => mkL bx ys s
    | none => match dicK? x s with
      | some kvs => mkL bx (kvs.map fun kv => kVa kv.1) s
      | none => .bad
  | _ => .bad
def rListA (K : PySem.W.Frag) : List V → Hp → VK → Prop := fun xs H Q => (∃ p ys, xs = [.ref p] ∧ (SqL K H p ys ∨ SqT K H p ys) ∧ ∀ l, H l = none → Q (.ref l) (upd H l (.lst ys))) ∨ rListD xs H Q
theorem call_listA {X : Cx} (hc : X.calm = true) : CallR X (.type "list") (rListA X.K) := call_list_of.or (call_list_dK hc)
theorem RlK.keys {F : Hp} {as : List Addr} : ∀ {xs : List (Key × Va)} {vs : List (Key × V)}, RlK K F as xs vs → Rls K F as (xs.map fun kv => kVa kv.1) (vs.map fun kv => kV kv.1)
  | _, _, .nil => .nil
  | _, _, .cons (k := k) _ r => .cons (by cases k <;> constructor) (RlK.keys r)
theorem opN_list {bx : Bool} : OpN K (rListA K) (gList bx) := by
  intro CL W F G as s H x v Q S rx q
  unfold gList at q
  split at q
  · obtain ⟨v, rfl, r⟩ := Rls1 rx
    split at q
    · rename_i ys e
      obtain ⟨a, vs, rfl, h2, h3⟩ := seqA_ok S r e
      exact .inl ⟨a, vs, rfl, h2, mkL_ok S h3 q⟩
    · split at q
      · rename_i kvs e
        obtain ⟨a, ks, rfl, h2, h3⟩ := dicK_ok S r e
        exact .inr ⟨a, ks, rfl, h2, mkL_ok S h3.keys q⟩
      · exact q.elim
  · exact q.elim
def gTuple (xs : List Va) (s : Sto) : Rs Va := match xs with
  | [.tup ys] => .ok (.tup ys) s
  | [x] => match seqL x s with
    | some ys => .ok (.tup ys) s
    | none => .bad
  | _ => .bad
theorem opN_tuple : OpN K (fun xs H Q => ∃ p ys, xs = [.ref p] ∧ ((SqL K H p ys ∧ ∀ l, H l = none → Q (.ref l) (upd H l (.tup ys))) ∨ (SqT K H p ys ∧ Q (.ref p) H))) gTuple := by
  intro CL W F G as s H x v Q S rx q
  unfold gTuple at q
  split at q
  · obtain ⟨v, rfl, r⟩ := Rls1 rx
    obtain ⟨a, vs, rfl, h2, h3⟩ := seqT_ok S r rfl
    exact ⟨a, vs, rfl, .inr ⟨SqT.of h2, q.okv S r⟩⟩
  · obtain ⟨v, rfl, r⟩ := Rls1 rx
    split at q
    · rename_i ys e
      obtain ⟨a, vs, rfl, h2, h3⟩ := seqL_ok S r e
      exact ⟨a, vs, rfl, .inl ⟨SqL.of h2, mkT_ok S h3 q⟩⟩
    · exact q.elim
  · exact q.elim
end
section
variable {X : Cx} {CL : Cls0} {W : WX} {k : Nat} {x : Str} {p pos : Pos} {e e2 : Expr} {es : List Expr} {dr : DA} {de d1 d2 : DE}
theorem re_len (hm : X.mg "len" = none) (ha : RA X CL W [e] dr) (hG : Gl X "len" := by rfl) (he : starEach [e] X.env = (false, eval e X.env) :: starEach [] X.env := by rfl) : RE X CL W (.Call (.Name "len" p) [e] [] pos) (dApp gLen dr) := re_callB call_lenA opN_len hG hm PySem.boot_len ha (he := he)
theorem re_intc (hm : X.mg "int" = none) (ha : RA X CL W [e] dr) (hG : Gl X "int" := by rfl) (he : starEach [e] X.env = (false, eval e X.env) :: starEach [] X.env := by rfl) : RE X CL W (.Call (.Name "int" p) [e] [] pos) (dApp gInt dr) := re_callTy call_intA opN_int hG hm (by decide +kernel) ha (he := he)
theorem re_abs (hm : X.mg "abs" = none) (ha : RA X CL W [e] dr) (hG : Gl X "abs" := by rfl) (he : starEach [e] X.env = (false, eval e X.env) :: starEach [] X.env := by rfl) : RE X CL W (.Call (.Name "abs" p) [e] [] pos) (dApp gAbs dr) := re_callB call_abs opN_abs hG hm (by decide +kernel) ha (he := he)
theorem re_max2 (O : Okc X W k) (hm : X.mg "max" = none) (ha : RA X CL W [e, e2] dr) (hG : Gl X "max" := by rfl) (he : starEach [e, e2] X.env = (false, eval e X.env) :: starEach [e2] X.env := by rfl) (hpl : (backTo pos (starEach [e2] X.env)).any (·.1) = false := by rfl) : RE X CL W (.Call (.Name "max" p) [e, e2] [] pos) (dApp gMax2 dr) := re_callB (call_max2 O.calm) opN_max2 hG hm (by decide +kernel) ha (he := he) (hpl := hpl)
theorem re_min2 (O : Okc X W k) (hm : X.mg "min" = none) (ha : RA X CL W [e, e2] dr) (hG : Gl X "min" := by rfl) (he : starEach [e, e2] X.env = (false, eval e X.env) :: starEach [e2] X.env := by rfl) (hpl : (backTo pos (starEach [e2] X.env)).any (·.1) = false := by rfl) : RE X CL W (.Call (.Name "min" p) [e, e2] [] pos) (dApp gMin2 dr) := re_callB (call_min2 O.calm) opN_min2 hG hm (by decide +kernel) ha (he := he) (hpl := hpl)
theorem re_list (O : Okc X W k) (bx : Bool) (hm : X.mg "list" = none) (ha : RA X CL W [e] dr) (hG : Gl X "list" := by rfl) (he : starEach [e] X.env = (false, eval e X.env) :: starEach [] X.env := by rfl) : RE X CL W (.Call (.Name "list" p) [e] [] pos) (dApp (gList bx) dr) := re_callTy (call_listA O.calm) opN_list hG hm (by decide +kernel) ha (he := he)
theorem re_tuple (hm : X.mg "tuple" = none) (ha : RA X CL W [e] dr) (hG : Gl X "tuple" := by rfl) (he : starEach [e] X.env = (false, eval e X.env) :: starEach [] X.env := by rfl) : RE X CL W (.Call (.Name "tuple" p) [e] [] pos) (dApp gTuple dr) := re_callTy call_tuple_of opN_tuple hG hm (by decide +kernel) ha (he := he)
/-- isinstance(e, T), T a built-in type -/
def tyA (x : Va) (s : Sto) : Option String := match x with
  | .non => some "NoneType"
  | .bl _ => some "bool"
  | .int _ => some "int"
  | .str _ => some "str"
  | .tup _ => some "tuple"
  | .lst _ => some "list"
  | .dicK _ => some "dict"
  | .dicT _ => some "dict"
  | .ref i => match s[i]? with
    | some (.lst _) => some "list"
    | some (.dicK _) => some "dict"
    | some (.dicT _) => some "dict"
    | _ => none
  | .ext _ => none
def gIsi (T : String) (x : Va) (s : Sto) : Rs Va := match tyA x s with
  | some t => match kitB t T with
    | some b => .ok (.bl b) s
    | none => .bad
  | none => .bad
theorem tyA_ok {K : PySem.W.Frag} {F G H : Hp} {as : List Addr} {s : Sto} {x : Va} {v : V} {t : String} (S : Sim K F G as s H) (r : Rl K F as x v) (h : tyA x s = some t) : TyX K H v (.type t) := by
  cases r with
  | non => cases h; exact .base .non
  | bl b => cases h; exact .base (.bl b)
  | int i => cases h; exact .base (.int i)
  | str z => cases h; exact .base (.str z)
  | tup hf hr => cases h; exact .base (.tup (S.sub _ _ hf))
  | lst hf hr => cases h; exact .base (.lst (S.sub _ _ hf))
  | dicK hf hr => cases h; exact .base (.dK (S.sub _ _ hf))
  | dicT hf hr => cases h; exact .base (.dT (S.sub _ _ hf))
  | ext _ _ => cases h
  | ref ha =>
    simp only [tyA] at h
    split at h
    · rename_i e
      cases h
      obtain ⟨_, vs, h1, _⟩ := S.ref ha e
      exact .base (.lst h1)
    · rename_i e
      cases h
      obtain ⟨_, vs, h1, _⟩ := S.ref ha e
      exact .base (.dK h1)
    · rename_i e
      cases h
      obtain ⟨_, vs, h1, _⟩ := S.ref ha e
      exact .base (.dT h1)
    · cases h
theorem re_isi {T : Str} {Ty : String} {p2 : Pos} (hm : X.mg "isinstance" = none) (hmT : X.mg T = none) (hvT : bootBuiltins T = some (.type Ty)) (ha : RE X CL W e de) (hG : Gl X "isinstance" := by rfl) (hGT : Gl X T := by rfl) (hnT : T ≠ "__name__" := by decide) (hdT : (T == ("__debug__" : Str)) = false := by decide)
    (he : starEach [e, .Name T p2] X.env = (false, eval e X.env) :: starEach [.Name T p2] X.env := by rfl) (he2 : starEach [.Name T p2] X.env = (false, eval (.Name T p2) X.env) :: starEach [] X.env := by rfl) (hpl : (backTo pos (starEach [.Name T p2] X.env)).any (·.1) = false := by rfl) :
    RE X CL W (.Call (.Name "isinstance" p) [e, .Name T p2] [] pos) (dUn (gIsi Ty) de) :=
  pe_weak (pe_callB call_isi hG hm boot_isinstance (pa_cons ha (pa_cons (pe_bltn (v := .ty Ty) hGT hmT hvT rfl hnT hdT) pa_nil he2) he) (he := he) (hpl := hpl)) fun σ H Q h => by
    obtain ⟨F, G, as, ε, s, S, E, h⟩ := h
    refine ⟨F, G, as, ε, s, S, E, Pst.imp (Pst.bind h) fun v H1 ⟨F1, as1, s1, y, l, S1, rx, h1⟩ => ?_⟩
    unfold gIsi at h1
    split at h1
    · rename_i t e1
      split at h1
      · rename_i b e2
        exact ⟨v, .ty Ty, .type t, .type Ty, b, rfl, .ty Ty, tyA_ok S1 rx e1, kit_ty e2, h1.okv S1 (.bl _)⟩
      · exact h1.elim
    · exact h1.elim
end

/-! ### statements -/
def Rs.fl {α : Type} (r : Rs α) (ε : En) (k : α → Sto → Fl) : Fl := match r with
  | .ok a s => k a s
  | .exc c s => .exc c ε s
  | .bad => .bad
section
variable {K : PySem.W.Frag} {CL : Cls0} {W : WX} {F F' G : Hp} {as as' : List Addr}
theorem PF.bind {α β : Type} {RA : Hp → List Addr → α → β → Prop} {r : Rs α} {ε : En} {σ : L2.St} {k : α → Sto → Fl} {D : Ends} (E : ER K F as ε σ) (h : PF K CL W F G as (r.fl ε k) D) :
    Pst K CL (fun c d H => W c d σ H) F G as RA r (fun v H1 => ∃ F1 as1 s1 x, Le F as F1 as1 ∧ Sim K F1 G as1 s1 H1 ∧ RA F1 as1 x v ∧ PF K CL W F1 G as1 (k x s1) D) := by
  cases r with
  | ok x s => exact fun F1 as1 H1 v l S ra => ⟨F1, as1, s, x, l, S, ra, h.le l⟩
  | exc c s => exact fun F1 as1 H1 l S => h F1 as1 σ H1 l S (E.mono l)
  | bad => exact h
theorem PF.imp {r : Fl} {D D' : Ends} (h : PF K CL W F G as r D) (h1 : ∀ σ H, D.nx σ H → D'.nx σ H) (h2 : ∀ v H, D.rt v H → D'.rt v H) (h3 : ∀ σ H, D.bk σ H → D'.bk σ H) (h4 : ∀ σ H, D.ct σ H → D'.ct σ H) : PF K CL W F G as r D' := by
  cases r with
  | nx x s => exact fun F2 as2 σ H l S E => h1 σ H (h F2 as2 σ H l S E)
  | brk x s => exact fun F2 as2 σ H l S E => h3 σ H (h F2 as2 σ H l S E)
  | ct x s => exact fun F2 as2 σ H l S E => h4 σ H (h F2 as2 σ H l S E)
  | ret x s => exact fun F2 as2 H v l S E => h2 v H (h F2 as2 H v l S E)
  | exc c x s => exact h
  | bad => exact h
end
def sSeq (d1 d2 : DS) : DS := fun ε s => match d1 ε s with
  | .nx ε' s' => d2 ε' s'
  | r => r
def sNext : DS := fun ε s => .nx ε s
def sBrk : DS := fun ε s => .brk ε s
def sCt : DS := fun ε s => .ct ε s
def sSet (i : Nat) (de : DE) : DS := fun ε s => (de ε s).fl ε fun x s1 => .nx (ε.set i (some x)) s1
def sRet (de : DE) : DS := fun ε s => (de ε s).fl ε fun x s1 => .ret x s1
def sRetN : DS := fun _ s => .ret .non s
def sDrop (de : DE) : DS := fun ε s => (de ε s).fl ε fun _ s1 => .nx ε s1
def sIf (t : DT) (d1 d2 : DS) : DS := fun ε s => (t ε s).fl ε fun b s1 => if b = true then d1 ε s1 else d2 ε s1
section
variable {X : Cx} {CL : Cls0} {W : WX} {k : Nat} {st : Stmt} {rest body : List Stmt} {d1 d2 : DS} {x : Str} {p pos pos' : Pos} {e a b : Expr} {de da db : DE} {dt : DT}
theorem rss_nil : RSs X CL W [] sNext := pss_weak pss_nil fun D σ H h => by
  obtain ⟨F, G, as, ε, s, S, E, h⟩ := h
  exact h F as σ H Le.refl S E
theorem tDS_seq {D : Ends} {σ : L2.St} {H : Hp} {K : PySem.W.Frag} (h : tDS K CL W (sSeq d1 d2) D σ H) : tSeq (tDS K CL W d1) (tDS K CL W d2) D σ H := by
  obtain ⟨F, G, as, ε, s, S, E, h⟩ := h
  refine ⟨F, G, as, ε, s, S, E, ?_⟩
  unfold sSeq at h
  cases q : d1 ε s with
  | nx ε' s' =>
    rw [q] at h
    exact fun F1 as1 σ1 H1 l S1 E1 => ⟨F1, G, as1, ε', s', S1, E1, h.le l⟩
  | ret y s' =>
    rw [q] at h
    exact h
  | brk ε' s' =>
    rw [q] at h
    exact h
  | ct ε' s' =>
    rw [q] at h
    exact h
  | exc c ε' s' =>
    rw [q] at h
    exact h
  | bad =>
    rw [q] at h
    exact h
theorem rss_cons (h1 : RS X CL W st d1) (h2 : RSs X CL W rest d2) : RSs X CL W (st :: rest) (sSeq d1 d2) := pss_weak (pss_cons h1 h2) fun _ _ _ h => tDS_seq h
theorem rss_one (h1 : RS X CL W st d1) : RSs X CL W [st] d1 := pss_one h1
theorem rs_pass : RS X CL W (.Pass pos) sNext := ps_weak ps_pass fun D σ H h => by
  obtain ⟨F, G, as, ε, s, S, E, h⟩ := h
  exact h F as σ H Le.refl S E
theorem rs_break : RS X CL W (.Break pos) sBrk := ps_weak ps_break fun D σ H h => by
  obtain ⟨F, G, as, ε, s, S, E, h⟩ := h
  exact h F as σ H Le.refl S E
theorem rs_continue : RS X CL W (.Continue pos) sCt := ps_weak ps_continue fun D σ H h => by
  obtain ⟨F, G, as, ε, s, S, E, h⟩ := h
  exact h F as σ H Le.refl S E
theorem tDS_set {D : Ends} {σ : L2.St} {H : Hp} {i : Nat} {t : TE} (ht : ∀ Q, tD X.K CL W de σ H Q → t σ H Q) (h : tDS X.K CL W (sSet i de) D σ H) : tAsg t (gName i) D σ H := by
  obtain ⟨F, G, as, ε, s, S, E, h⟩ := h
  refine ht _ ⟨F, G, as, ε, s, S, E, Pst.imp (PF.bind E h) fun v H1 ⟨F1, as1, s1, y, l, S1, rx, h1⟩ => ?_⟩
  exact h1 F1 as1 _ H1 Le.refl S1 ((E.mono l).set i rx)
theorem rs_set {i : Nat} (O : Okc X W k) (hi : X.N[i]? = some x) (hx : Loc X.env.scope x) (he : RE X CL W e de) (hs : swapsWith e (some (.Name x pos')) pos.line X.env = pure false := by rfl) (hf : X.fn x = true ∨ X.env.scope.names.lookup x = some .local := by first | exact .inl rfl | exact .inr rfl | assumption) :
    RS X CL W (.Assign [.Name x pos'] e pos) (sSet i de) := ps_weak (ps_set O.nd hi hx he hs hf) fun _ _ _ h => tDS_set (fun _ q => q) h
theorem rs_ret (he : RE X CL W e de) : RS X CL W (.Return (some e) pos) (sRet de) := ps_weak (ps_ret he) fun D σ H h => by
  obtain ⟨F, G, as, ε, s, S, E, h⟩ := h
  refine ⟨F, G, as, ε, s, S, E, Pst.imp (PF.bind E h) fun v H1 ⟨F1, as1, s1, y, l, S1, rx, h1⟩ => ?_⟩
  exact h1 F1 as1 H1 v Le.refl S1 rx
theorem rs_retN : RS X CL W (.Return none pos) sRetN := ps_weak ps_retN fun D σ H h => by
  obtain ⟨F, G, as, ε, s, S, E, h⟩ := h
  exact h F as H .non Le.refl S .non
theorem rs_expr (he : RE X CL W e de) (hs : swapsWith e none pos.line X.env = pure false := by rfl) : RS X CL W (.Expr e pos) (sDrop de) := ps_weak (ps_expr he hs) fun D σ H h => by
  obtain ⟨F, G, as, ε, s, S, E, h⟩ := h
  refine ⟨F, G, as, ε, s, S, E, Pst.imp (PF.bind E h) fun v H1 ⟨F1, as1, s1, y, l, S1, rx, h1⟩ => ?_⟩
  exact h1 F1 as1 σ H1 Le.refl S1 (E.mono l)
theorem rs_if {c : Expr} {b1 b2 : List Stmt} (hc : RT X CL W c dt) (h1 : RSs X CL W b1 d1) (h2 : RSs X CL W b2 d2) : RS X CL W (.If c b1 b2 pos) (sIf dt d1 d2) := ps_weak (ps_if hc h1 h2) fun D σ H h => by
  obtain ⟨F, G, as, ε, s, S, E, h⟩ := h
  refine ⟨F, G, as, ε, s, S, E, Pst.imp (PF.bind E h) fun v H1 ⟨F1, as1, s1, y, l, S1, rx, h1⟩ => ?_⟩
  subst rx
  cases y with
  | true => exact iteT ⟨F1, G, as1, ε, s1, S1, E.mono l, h1⟩
  | false => exact iteF ⟨F1, G, as1, ε, s1, S1, E.mono l, h1⟩
end

/-! ### stores -/
/-- o[i] = v -/
noncomputable def gSetIx (v o i : Va) (s : Sto) : Option Sto := match o with
  | .ref n => match s[n]? with
    | some (.lst xs) => match i with
      | .int j => match ixN xs.length j with
        | some m => some (s.set n (.lst (xs.set m v)))
        | none => none
      | _ => none
    | some (.dicK kvs) => match kOf i with
      | some key => if leq kvs.length 1000000 then some (s.set n (.dicK (pt kvs key v))) else none
      | none => none
    | some (.dicT kvs) => match i with
      | .tup ys => match ksOf ys with
        | some key => if leq kvs.length 1000000 then some (s.set n (.dicT (pt kvs key v))) else none
        | none => none
      | _ => none
    | _ => none
  | _ => none
section
variable {K : PySem.W.Frag} {CL : Cls0} {F F' G H : Hp} {as as' : List Addr} {s s' : Sto} {x y z : Va} {v u w : V}
theorem RlK.any {kvs : List (Key × Va)} {ks : List (Key × V)} (r : RlK K F as kvs ks) (k : Key) : (kvs.any fun kv => decide (kv.1 = k)) = ks.any fun kv => decide (kv.1 = k) := by
  induction kvs generalizing ks with
  | nil => cases r; rfl
  | cons p r' ih =>
    cases r with
    | cons h t => rw [List.any_cons, List.any_cons, ih t]
theorem RlT.any {kvs : List (List Key × Va)} {ks : List (List Key × V)} (r : RlT K F as kvs ks) (k : List Key) : (kvs.any fun kv => decide (kv.1 = k)) = ks.any fun kv => decide (kv.1 = k) := by
  induction kvs generalizing ks with
  | nil => cases r; rfl
  | cons p r' ih =>
    cases r with
    | cons h t => rw [List.any_cons, List.any_cons, ih t]
theorem RlK.app {kvs kvs' : List (Key × Va)} {ks ks' : List (Key × V)} (r : RlK K F as kvs ks) (r' : RlK K F as kvs' ks') : RlK K F as (kvs ++ kvs') (ks ++ ks') := by
  induction kvs generalizing ks with
  | nil => cases r; exact r'
  | cons p q ih =>
    cases r with
    | cons h t => exact .cons h (ih t)
theorem RlT.app {kvs kvs' : List (List Key × Va)} {ks ks' : List (List Key × V)} (r : RlT K F as kvs ks) (r' : RlT K F as kvs' ks') : RlT K F as (kvs ++ kvs') (ks ++ ks') := by
  induction kvs generalizing ks with
  | nil => cases r; exact r'
  | cons p q ih =>
    cases r with
    | cons h t => exact .cons h (ih t)
theorem RlK.upd {kvs : List (Key × Va)} {ks : List (Key × V)} (r : RlK K F as kvs ks) (k : Key) (h : Rl K F as x v) : RlK K F as (kvs.map fun kv => if kv.1 = k then (kv.1, x) else kv) (ks.map fun kv => if kv.1 = k then (kv.1, v) else kv) := by
  induction kvs generalizing ks with
  | nil => cases r; exact .nil
  | cons p q ih =>
    cases r with
    | cons h0 t =>
      rename_i k0 _ _ _
      rw [List.map_cons, List.map_cons]
      by_cases e : k0 = k
      · rw [if_pos e, if_pos e]
        exact .cons h (ih t)
      · rw [if_neg e, if_neg e]
        exact .cons h0 (ih t)
theorem RlT.upd {kvs : List (List Key × Va)} {ks : List (List Key × V)} (r : RlT K F as kvs ks) (k : List Key) (h : Rl K F as x v) : RlT K F as (kvs.map fun kv => if kv.1 = k then (kv.1, x) else kv) (ks.map fun kv => if kv.1 = k then (kv.1, v) else kv) := by
  induction kvs generalizing ks with
  | nil => cases r; exact .nil
  | cons p q ih =>
    cases r with
    | cons h0 t =>
      rename_i k0 _ _ _
      rw [List.map_cons, List.map_cons]
      by_cases e : k0 = k
      · rw [if_pos e, if_pos e]
        exact .cons h (ih t)
      · rw [if_neg e, if_neg e]
        exact .cons h0 (ih t)
theorem RlK.put {kvs : List (Key × Va)} {ks : List (Key × V)} (r : RlK K F as kvs ks) (k : Key) (h : Rl K F as x v) : RlK K F as (pt kvs k x) (putK ks k v) := by
  unfold pt putK
  rw [r.any k]
  split
  · exact r.upd k h
  · exact r.app (.cons h .nil)
theorem RlT.put {kvs : List (List Key × Va)} {ks : List (List Key × V)} (r : RlT K F as kvs ks) (k : List Key) (h : Rl K F as x v) : RlT K F as (pt kvs k x) (putK ks k v) := by
  unfold pt putK
  rw [r.any k]
  split
  · exact r.upd k h
  · exact r.app (.cons h .nil)
theorem RlT.len : ∀ {xs : List (List Key × Va)} {vs : List (List Key × V)}, RlT K F as xs vs → xs.length = vs.length
  | _, _, .nil => rfl
  | _, _, .cons _ r => congrArg (· + 1) (RlT.len r)
/-- a store by values: the list's, the dict's -/
def rSetA : V → V → V → Hp → (Hp → Prop) → Prop := fun o i v H Q => rSetL o i v H Q ∨ ∃ a H', o = .ref a ∧ DPut H a i v H' ∧ Q H'
theorem gSetIx_ok {Q : Hp → Prop} (S : Sim K F G as s H) (rv : Rl K F as z w) (rx : Rl K F as x v) (ry : Rl K F as y u) (h : gSetIx z x y s = some s') (q : ∀ H', Sim K F G as s' H' → Q H') : rSetA v u w H Q := by
  unfold gSetIx at h
  split at h
  · cases rx with
    | ref ha =>
      split at h
      · rename_i n xs e
        obtain ⟨hf, vs, h1, h2⟩ := S.ref ha e
        split at h
        · cases ry
          split at h
          · rename_i m e2
            cases h
            refine .inl ⟨_, vs, _, m, rfl, rfl, h1, by rw [← h2.len]; exact e2, q _ ?_⟩
            exact S.change ha hf ⟨hf, _, upd_same, Rls.set rv m h2⟩
          · cases h
        · cases h
      · rename_i n kvs e
        obtain ⟨hf, ks, h1, h2⟩ := S.ref ha e
        split at h
        · rename_i key e2
          split at h
          · rename_i hc
            cases h
            refine .inr ⟨_, _, rfl, by rw [kOf_ok ry e2]; exact DPut.k h1 (by rw [← h2.len]; exact Nat.lt_of_le_of_lt hc (by decide)), q _ ?_⟩
            exact S.change ha hf ⟨hf, _, upd_same, h2.put key rv⟩
          · cases h
        · cases h
      · rename_i n kvs e
        obtain ⟨hf, ks, h1, h2⟩ := S.ref ha e
        split at h
        · obtain ⟨b, us, rfl, h3, h4⟩ := seqT_ok S ry rfl
          split at h
          · rename_i key e2
            split at h
            · rename_i hc
              cases h
              refine .inr ⟨_, _, rfl, DPut.t h1 (by rw [h3, ksOf_ok h4 e2]) (by rw [← h2.len]; exact Nat.lt_of_le_of_lt hc (by decide)), q _ ?_⟩
              exact S.change ha hf ⟨hf, _, upd_same, h2.put key rv⟩
            · cases h
          · cases h
        · cases h
      · cases h
  · cases h
end
section
variable {X : Cx} {CL : Cls0} {W : WX} {k : Nat} {x : Str} {p pos pos' : Pos} {e o i : Expr} {de d0 di : DE}
theorem set_any (hu : X.A.units + 65 < cLine) : PSet X rSetA := by
  intro pins s σ H o i v ov iv u Q I r1 r2 r3 h
  rcases h with h | ⟨a, H', rfl, h, q⟩
  · exact set_list pins s σ H o i v ov iv u Q I r1 r2 r3 h
  · cases r1
    exact d_setItem (by omega) I h r2 r3 fun s4 I4 => ⟨H', I4, q⟩
noncomputable def sSetIx (d0 di de : DE) : DS := fun ε s => (de ε s).fl ε fun v s1 => (d0 ε s1).fl ε fun o s2 => (di ε s2).fl ε fun i s3 => match gSetIx v o i s3 with
  | some s4 => .nx ε s4
  | none => .bad
theorem rs_setIx (O : Okc X W k) (ho : RE X CL W o d0) (hi : RE X CL W i di) (he : RE X CL W e de) (hs : swapsWithSole [.Subscript o i pos'] e pos.line X.env = pure false := by rfl) (hw : swappedStores [.Subscript o i pos'] e X.env = pure none := by rfl)
    (h1 : (assignEach [.Subscript o i pos'] X.env).map (·.2) = [assign (.Subscript o i pos') X.env] := by rfl)
    (ha : ∀ v, assign (.Subscript o i pos') X.env v = (do
      let ov ← holding [v] (eval o X.env)
      let iv ← holding [v, ov] (eval i X.env)
      standAt pos'
      holding [v, ov, iv] (setItem ov iv v)
      release [v, ov, iv] []) := by intro _; rfl) : RS X CL W (.Assign [.Subscript o i pos'] e pos) (sSetIx d0 di de) :=
  ps_weak (ps_asg he (pg_sub ho hi (set_any O.hu) ha) hs hw h1) fun D σ H h => by
    obtain ⟨F, G, as, ε, s, S, E, h⟩ := h
    refine ⟨F, G, as, ε, s, S, E, Pst.imp (PF.bind E h) fun v H1 ⟨F1, as1, s1, y, l, S1, rx, h1⟩ => ?_⟩
    refine ⟨F1, G, as1, ε, s1, S1, E.mono l, Pst.imp (PF.bind (E.mono l) h1) fun v2 H2 ⟨F2, as2, s2, y2, l2, S2, rx2, h2⟩ => ?_⟩
    refine ⟨F2, G, as2, ε, s2, S2, (E.mono l).mono l2, Pst.imp (PF.bind ((E.mono l).mono l2) h2) fun v3 H3 ⟨F3, as3, s3, y3, l3, S3, rx3, h3⟩ => ?_⟩
    split at h3
    · rename_i s4 e4
      exact gSetIx_ok S3 ((rx.mono l2).mono l3) (rx2.mono l3) rx3 e4 fun H' S4 => h3 F3 as3 σ H' Le.refl S4 (((E.mono l).mono l2).mono l3)
    · exact h3.elim
end

end Dn

set_option Elab.async false
set_option linter.all false
set_option maxRecDepth 100000
set_option maxHeartbeats 1000000
/-! Dn, part E: targets, loops, comprehensions. -/
namespace Dn
open PySem PySem.Spec PyProof.Rows L2

/-! ### targets -/
abbrev DG := Va → En → Sto → Option En
/-- ts: the slots that are stored -/
structure RG (X : Cx) (tg : Expr) (g : TG) (dg : DG) (ts : List Nat) : Prop where
  pg : PG X tg g
  ok : ∀ F G as s H x v ε ε' σ Q, Sim X.K F G as s H → Rl X.K F as x v → ER X.K F as ε σ → dg x ε s = some ε' → (∀ σ', ER X.K F as ε' σ' → σ'.length = σ.length → (∀ i, i ∉ ts → σ'[i]? = σ[i]?) → Q σ' H) → g v σ H Q
def dgName (i : Nat) : DG := fun x ε _ => some (ε.set i (some x))
def setAll : List Nat → List Va → En → En
  | i :: is, x :: xs, ε => setAll is xs (ε.set i (some x))
  | _, _, ε => ε
def dgTup (is : List Nat) : DG := fun x ε _ => match x with
  | .tup xs => if xs.length = is.length then some (setAll is xs ε) else none
  | _ => none
structure RGs (X : Cx) (ts : List Expr) (g : TGs) (is : List Nat) : Prop where
  pgs : PGs X ts g
  ok : ∀ F as H xs vs ε σ Q, Rls X.K F as xs vs → xs.length = is.length → ER X.K F as ε σ → (∀ σ', ER X.K F as (setAll is xs ε) σ' → σ'.length = σ.length → (∀ i, i ∉ is → σ'[i]? = σ[i]?) → Q σ' H) → g vs σ H Q
section
variable {X : Cx} {CL : Cls0} {W : WX} {k : Nat} {x : Str} {p pos pos' : Pos}
theorem rg_name {i : Nat} (O : Okc X W k) (hi : X.N[i]? = some x) (hx : Loc X.env.scope x) (hf : X.fn x = true ∨ X.env.scope.names.lookup x = some .local := by first | exact .inl rfl | exact .inr rfl | assumption) : RG X (.Name x pos) (gName i) (dgName i) [i] where
  pg := pg_name O.nd hi hx hf
  ok := fun F G as s H x v ε ε' σ Q S r E h q => by
    cases h
    refine q _ (E.set i r) (by rw [List.length_set]) fun j hj => List.getElem?_set_ne fun e => hj (by simp [e])
theorem rgs_nil : RGs X [] gNil [] where
  pgs := pgs_nil
  ok := fun F as H xs vs ε σ Q r hl E q => by
    cases r with
    | nil => exact ⟨rfl, q σ E rfl fun _ _ => rfl⟩
    | cons _ _ => simp at hl
theorem rgs_cons {i : Nat} {is : List Nat} {es : List Expr} {u : TGs} (O : Okc X W k) (hi : X.N[i]? = some x) (hx : Loc X.env.scope x) (h2 : RGs X es u is) (hf : X.fn x = true ∨ X.env.scope.names.lookup x = some .local := by first | exact .inl rfl | exact .inr rfl | assumption)
    (hs : (assignEach (.Name x pos :: es) X.env).map (·.2) = assign (.Name x pos) X.env :: (assignEach es X.env).map (·.2) := by rfl) : RGs X (.Name x pos :: es) (gCons (gName i) u) (i :: is) where
  pgs := pgs_cons (pg_name O.nd hi hx hf) h2.pgs hs
  ok := fun F as H xs vs ε σ Q r hl E q => by
    cases r with
    | nil => simp at hl
    | cons h t =>
      refine ⟨_, _, rfl, h2.ok F as H _ _ _ _ Q t (by simpa using hl) (E.set i h) fun σ' E' hl' ho => q σ' E' (by rw [hl', List.length_set]) fun j hj => ?_⟩
      rw [List.mem_cons, not_or] at hj
      rw [ho j hj.2]
      exact List.getElem?_set_ne fun e => hj.1 e.symm
theorem rg_tup {es : List Expr} {j : Nat} {is : List Nat} {u : TGs} {n : Nat} (O : Okc X W k) (h : RGs X es u is) (hn : (assignEach es X.env).length = n := by rfl) (hst : (assignEach es X.env).findIdx? (·.1) = none := by rfl) (hl : is.length = n := by rfl) : RG X (.Tuple es j pos) (gTup X.K n u) (dgTup is) is where
  pg := pg_tup O.calm h.pgs hn hst
  ok := fun F G as s H x v ε ε' σ Q S r E hd q => by
    unfold dgTup at hd
    split at hd
    · split at hd
      · rename_i hc
        cases hd
        obtain ⟨a, vs, rfl, h1, h2⟩ := seqT_ok S r rfl
        exact ⟨a, vs, rfl, SqT.of h1, by rw [← h2.len, hc, hl], h.ok F as H _ _ _ _ Q h2 hc E q⟩
      · cases hd
    · cases hd
end

/-! ### what is walked -/
/-- a list of the store that the turns leave as it is -/
def okk (ck : Option (Nat × List Va)) (s : Sto) : Prop := match ck with
  | none => True
  | some (n, all) => s[n]? = some (.lst all)
structure Src (K : PySem.W.Frag) (J : It) (F : Hp) (as : List Addr) (ck : Option (Nat × List Va)) (xs : List Va) : Prop where
  stop : ∀ F' G as' s' H, Le F as F' as' → Sim K F' G as' s' H → okk ck s' → J.stop xs.length H
  go : ∀ i F' G as' s' H, i < xs.length → Le F as F' as' → Sim K F' G as' s' H → okk ck s' → J.go i H
  yl : ∀ i F' G as' s' H x H', i < xs.length → Le F as F' as' → Sim K F' G as' s' H → okk ck s' → J.yld i H x H' → ∃ z F2, xs[i]? = some z ∧ Le F' as' F2 as' ∧ Sim K F2 G as' s' H' ∧ Rl K F2 as' z x
abbrev DI := En → Sto → Rs (Option (Nat × List Va) × List Va)
structure RI (X : Cx) (CL : Cls0) (W : WX) (tg iter : Expr) (wi : TI) (di : DI) : Prop where
  pi : PI X tg iter wi
  ok : ∀ σ H R, (∃ F G as ε s, Sim X.K F G as s H ∧ ER X.K F as ε σ ∧ Pst X.K CL (fun c d H => W c d σ H) F G as (fun F' as' src J => Src X.K J F' as' src.1 src.2) (di ε s) R) → wi σ H R
section
variable {K : PySem.W.Frag} {F : Hp} {as : List Addr} {a : Addr} {xs : List Va}
theorem src_l (h : ∀ F' G as' s' H, Le F as F' as' → Sim K F' G as' s' H → ∃ vs, SqL K H a vs ∧ Rls K F' as' xs vs) : Src K (Itl K a) F as none xs where
  stop := fun F' G as' s' H l S o => by
    obtain ⟨vs, h1, h2⟩ := h F' G as' s' H l S
    exact ⟨vs, h1, by rw [h2.len]; exact Nat.le_refl _⟩
  go := fun i F' G as' s' H hi l S o => by
    obtain ⟨vs, h1, h2⟩ := h F' G as' s' H l S
    obtain ⟨v, h3, h4⟩ := h2.get (List.getElem?_eq_getElem hi)
    exact ⟨vs, v, h1, h3⟩
  yl := fun i F' G as' s' H x H' hi l S o y => by
    obtain ⟨e, y⟩ := y
    subst e
    obtain ⟨vs, h1, h2⟩ := h F' G as' s' _ l S
    obtain ⟨z, z1, z2⟩ := h2.getV (y vs h1)
    exact ⟨z, F', z1, Le.refl, S, z2⟩
theorem src_r {n : Nat} (h : as[n]? = some a) : Src K (Itl K a) F as (some (n, xs)) xs where
  stop := fun F' G as' s' H l S o => by
    obtain ⟨_, vs, h1, h2⟩ := S.ref (l.a _ _ h) o
    exact ⟨vs, SqL.of h1, by rw [h2.len]; exact Nat.le_refl _⟩
  go := fun i F' G as' s' H hi l S o => by
    obtain ⟨_, vs, h1, h2⟩ := S.ref (l.a _ _ h) o
    obtain ⟨v, h3, h4⟩ := h2.get (List.getElem?_eq_getElem hi)
    exact ⟨vs, v, SqL.of h1, h3⟩
  yl := fun i F' G as' s' H x H' hi l S o y => by
    obtain ⟨e, y⟩ := y
    subst e
    obtain ⟨_, vs, h1, h2⟩ := S.ref (l.a _ _ h) o
    obtain ⟨z, z1, z2⟩ := h2.getV (y vs (SqL.of h1))
    exact ⟨z, F', z1, Le.refl, S, z2⟩
theorem src_t (h : ∀ F' G as' s' H, Le F as F' as' → Sim K F' G as' s' H → ∃ vs, SqT K H a vs ∧ Rls K F' as' xs vs) : Src K (Itt K a) F as none xs where
  stop := fun F' G as' s' H l S o => by
    obtain ⟨vs, h1, h2⟩ := h F' G as' s' H l S
    exact ⟨vs, h1, by rw [h2.len]; exact Nat.le_refl _⟩
  go := fun i F' G as' s' H hi l S o => by
    obtain ⟨vs, h1, h2⟩ := h F' G as' s' H l S
    obtain ⟨v, h3, h4⟩ := h2.get (List.getElem?_eq_getElem hi)
    exact ⟨vs, v, h1, h3⟩
  yl := fun i F' G as' s' H x H' hi l S o y => by
    obtain ⟨e, y⟩ := y
    subst e
    obtain ⟨vs, h1, h2⟩ := h F' G as' s' _ l S
    obtain ⟨z, z1, z2⟩ := h2.getV (y vs h1)
    exact ⟨z, F', z1, Le.refl, S, z2⟩
def rgA (a b : Int) : List Va := (List.range (b - a).toNat).map fun i => Va.int (a + (i : Nat))
theorem rgA_get {a b : Int} {i : Nat} (h : i < (b - a).toNat) : (rgA a b)[i]? = some (.int (a + i)) := by
  unfold rgA
  rw [List.getElem?_map, List.getElem?_range h]
  rfl
theorem rgA_len {a b : Int} : (rgA a b).length = (b - a).toNat := by
  unfold rgA
  rw [List.length_map, List.length_range]
theorem src_g {lo hi : Int} : Src K (Itr lo (hi - lo).toNat) F as none (rgA lo hi) where
  stop := fun F' G as' s' H l S o => by
    show (hi - lo).toNat ≤ _
    rw [rgA_len]
    exact Nat.le_refl _
  go := fun i F' G as' s' H hi l S o => by
    rw [rgA_len] at hi
    exact hi
  yl := fun i F' G as' s' H x H' hi l S o y => by
    rw [rgA_len] at hi
    obtain ⟨e, y⟩ := y
    subst e y
    exact ⟨_, F', rgA_get hi, Le.refl, S, .int _⟩
end
/-- a list or a tuple walked -/
def iSeq (K : PySem.W.Frag) (tl : TE) : TI := fun σ H R => tl σ H fun x H1 => ∃ a, x = .ref a ∧ (((∃ xs, SqL K H1 a xs) ∧ R (Itl K a) H1) ∨ ((∃ xs, SqT K H1 a xs) ∧ R (Itt K a) H1))
theorem pi_seq {X : Cx} {tg : Expr} {l : Expr} {tl : TE} (hl : PE X l tl) : PI X tg l (iSeq X.K tl) := by
  refine ⟨fun pins s σ H R I h => ?_⟩
  refine thn (hl.run pins s σ H _ I h) fun v s1 ⟨x, H1, I1, r1, q1⟩ => ?_
  obtain ⟨a, e, q1⟩ := q1
  subst e
  cases r1
  rcases q1 with ⟨⟨xs, hq⟩, q⟩ | ⟨⟨xs, hq⟩, q⟩
  · obtain ⟨its, rv, p, hz⟩ := I1.list hq
    refine wpAny_pyIter_list p.isList ?_
    refine ⟨s1.heap.objs.size, [s1.heap.objs.size], _, _, H1, rfl, I1.kept (t' := s1.toks) fun b o e => Heap.get?_push_of_some _ e, turn_list a _, ⟨_, Heap.get?_push_size _ rfl, rfl, rfl⟩, fun b hb => ?_, q⟩
    have e : b = s1.heap.objs.size := by simpa using hb
    subst e
    exact I1.fpOk (Nat.le_refl _) (I1.hok.fresh (Nat.le_refl _))
  · obtain ⟨its, rv, p, hz⟩ := I1.tuple hq
    refine wpAny_pyIter_tuple (show s1.heap.IsTuple a its.toArray from p) ?_
    refine ⟨s1.heap.objs.size, [s1.heap.objs.size], _, _, H1, rfl, I1.kept (t' := s1.toks) fun b o e => Heap.get?_push_of_some _ e, turn_tuple a _, ⟨_, Heap.get?_push_size _ rfl, rfl, rfl⟩, fun b hb => ?_, q⟩
    have e : b = s1.heap.objs.size := by simpa using hb
    subst e
    exact I1.fpOk (Nat.le_refl _) (I1.hok.fresh (Nat.le_refl _))
def dSeq (de : DE) : DI := fun ε s => (de ε s).bind fun x s1 => match x with
  | .ref n => match s1[n]? with
    | some (.lst xs) => .ok (some (n, xs), xs) s1
    | _ => .bad
  | .lst xs => .ok (none, xs) s1
  | .tup xs => .ok (none, xs) s1
  | .ext xs => .ok (none, xs) s1
  | _ => .bad
noncomputable def dRg1 (da : DA) : DI := fun ε s => (evA da ε s).bind fun vs s1 => match vs with
  | [.int j] => if inR j then .ok (none, rgA 0 j) s1 else .bad
  | _ => .bad
noncomputable def dRg2 (da : DA) : DI := fun ε s => (evA da ε s).bind fun vs s1 => match vs with
  | [.int i, .int j] => if inR i ∧ inR j then .ok (none, rgA i j) s1 else .bad
  | _ => .bad
section
variable {X : Cx} {CL : Cls0} {W : WX} {k : Nat} {tg iter a b : Expr} {de : DE} {da : DA} {p pos : Pos}
theorem ri_seq (h : RE X CL W iter de) : RI X CL W tg iter (iSeq X.K (tD X.K CL W de)) (dSeq de) where
  pi := pi_seq h
  ok := fun σ H R q => by
    obtain ⟨F, G, as, ε, s, S, E, q⟩ := q
    refine ⟨F, G, as, ε, s, S, E, Pst.imp (Pst.bind q) fun v H1 ⟨F1, as1, s1, y, l, S1, rx, h1⟩ => ?_⟩
    split at h1
    · cases rx with
      | ref ha =>
        split at h1
        · rename_i e
          obtain ⟨hf, vs, q1, q2⟩ := S1.ref ha e
          exact ⟨_, rfl, .inl ⟨⟨vs, SqL.of q1⟩, h1.ok Le.refl S1 (src_r ha)⟩⟩
        · exact h1.elim
    · cases rx with
      | lst hf hr => exact ⟨_, rfl, .inl ⟨⟨_, SqL.of (S1.sub _ _ hf)⟩, h1.ok Le.refl S1 (src_l fun F' G as' s' H l S => ⟨_, SqL.of (S.sub _ _ (l.f _ _ hf)), hr.mono l⟩)⟩⟩
    · cases rx with
      | tup hf hr => exact ⟨_, rfl, .inr ⟨⟨_, SqT.of (S1.sub _ _ hf)⟩, h1.ok Le.refl S1 (src_t fun F' G as' s' H l S => ⟨_, SqT.of (S.sub _ _ (l.f _ _ hf)), hr.mono l⟩)⟩⟩
    · cases rx with
      | ext hf hr =>
        rcases hf with hf | hf
        · exact ⟨_, rfl, .inl ⟨⟨_, sqL_mono S1.sub hf⟩, h1.ok Le.refl S1 (src_l fun F' G as' s' H l S => ⟨_, sqL_mono S.sub (sqL_mono l.f hf), hr.mono l⟩)⟩⟩
        · exact ⟨_, rfl, .inr ⟨⟨_, sqT_mono S1.sub hf⟩, h1.ok Le.refl S1 (src_t fun F' G as' s' H l S => ⟨_, sqT_mono S.sub (sqT_mono l.f hf), hr.mono l⟩)⟩⟩
    · exact h1.elim
theorem ri_rg1 (hm : X.mg "range" = none) (ha : RA X CL W [a] da) (hG : Gl X "range" := by rfl) (hst : starEach [a] X.env = [(false, eval a X.env)] := by rfl) : RI X CL W tg (.Call (.Name "range" p) [a] [] pos) (iRng1 (tDA X.K CL W da)) (dRg1 da) where
  pi := pi_range1 hG hm ha hst
  ok := fun σ H R q => by
    obtain ⟨F, G, as, ε, s, S, E, q⟩ := q
    refine ⟨F, G, as, ε, s, S, E, Pst.imp (Pst.bind q) fun v H1 ⟨F1, as1, s1, y, l, S1, rx, h1⟩ => ?_⟩
    split at h1
    · obtain ⟨v, rfl, r⟩ := Rls1 rx
      cases r
      split at h1
      · rename_i hc
        unfold inR at hc
        refine ⟨_, rfl, by omega, by omega, ?_⟩
        have z := h1.ok Le.refl S1 src_g
        rw [Int.sub_zero] at z
        exact z
      · exact h1.elim
    · exact h1.elim
theorem ri_rg2 (hm : X.mg "range" = none) (ha : RA X CL W [a, b] da) (hG : Gl X "range" := by rfl) (hst : starEach [a, b] X.env = [(false, eval a X.env), (false, eval b X.env)] := by rfl) (hst2 : starEach [b] X.env = [(false, eval b X.env)] := by rfl) : RI X CL W tg (.Call (.Name "range" p) [a, b] [] pos) (iRng2 (tDA X.K CL W da)) (dRg2 da) where
  pi := pi_range2 hG hm ha hst hst2
  ok := fun σ H R q => by
    obtain ⟨F, G, as, ε, s, S, E, q⟩ := q
    refine ⟨F, G, as, ε, s, S, E, Pst.imp (Pst.bind q) fun v H1 ⟨F1, as1, s1, y, l, S1, rx, h1⟩ => ?_⟩
    split at h1
    · obtain ⟨v, u, rfl, r, r2⟩ := Rls2 rx
      cases r
      cases r2
      split at h1
      · rename_i hc
        unfold inR at hc
        exact ⟨_, _, rfl, ⟨by omega, by omega, by omega, by omega⟩, h1.ok Le.refl S1 src_g⟩
      · exact h1.elim
    · exact h1.elim
end

/-! ### for -/
open Classical in
noncomputable def lp (ck : Option (Nat × List Va)) (body : Va → DS) : List Va → DS
  | [], ε, s => if okk ck s then .nx ε s else .bad
  | x :: r, ε, s => if okk ck s then (match body x ε s with
    | .nx ε' s' => lp ck body r ε' s'
    | .ct ε' s' => lp ck body r ε' s'
    | .brk ε' s' => .nx ε' s'
    | o => o) else .bad
def fBody (dg : DG) (db : DS) (x : Va) : DS := fun ε s => match dg x ε s with
  | some ε' => db ε' s
  | none => .bad
noncomputable def sFor (di : DI) (dg : DG) (db : DS) : DS := fun ε s => (di ε s).fl ε fun src s1 => lp src.1 (fBody dg db) src.2 ε s1
section
variable {K : PySem.W.Frag} {CL : Cls0} {W : WX}
def AtLp (K : PySem.W.Frag) (CL : Cls0) (W : WX) (F G : Hp) (as : List Addr) (D : Ends) (ck : Option (Nat × List Va)) (d : List Va → DS) (xs : List Va) (i : Nat) (σ : L2.St) (H : Hp) : Prop :=
  ∃ F' as' ε' s', Le F as F' as' ∧ Sim K F' G as' s' H ∧ ER K F' as' ε' σ ∧ okk ck s' ∧ PF K CL W F' G as' (d (xs.drop i) ε' s') D
theorem lp_ck {ck : Option (Nat × List Va)} {body : Va → DS} {r : List Va} {ε : En} {s : Sto} {F G : Hp} {as : List Addr} {D : Ends} (h : PF K CL W F G as (lp ck body r ε s) D) : okk ck s := by
  cases r with
  | nil =>
    unfold lp at h
    split at h
    · assumption
    · exact h.elim
  | cons x r =>
    unfold lp at h
    split at h
    · assumption
    · exact h.elim
end
section
variable {X : Cx} {CL : Cls0} {W : WX} {k : Nat} {tg iter : Expr} {body : List Stmt} {wi : TI} {g : TG} {dg : DG} {ts : List Nat} {db : DS} {di : DI} {pos p : Pos}
theorem rs_for (O : Okc X W k) (hi : RI X CL W tg iter wi di) (hg : RG X tg g dg ts) (hb : RSs X CL W body db) (hs : ∀ x, foldedSetIterable iter X.env x = pure x := by intro _; rfl) : RS X CL W (.For tg iter body [] pos) (sFor di dg db) :=
  ps_weak (ps_for O.hp O.calm hi.pi hg.pg hb hs) fun D σ H h => by
    obtain ⟨F, G, as, ε, s, S, E, h⟩ := h
    refine hi.ok σ H _ ⟨F, G, as, ε, s, S, E, Pst.imp (PF.bind E h) fun J H1 ⟨F1, as1, s1, src, l, S1, sr, h1⟩ => ?_⟩
    obtain ⟨ck, xs⟩ := src
    dsimp only at sr h1
    refine ⟨fun i m σ H => m = xs.length - i ∧ i ≤ xs.length ∧ AtLp X.K CL W F1 G as1 D ck (lp ck (fBody dg db)) xs i σ H, ⟨xs.length, by simp, Nat.zero_le _, F1, as1, ε, s1, Le.refl, S1, E.mono l, lp_ck h1, h1⟩, ?_⟩
    rintro i m σ2 H2 ⟨rfl, hi2, F', as', ε', s', l', S', E', ok', h'⟩
    by_cases hlt : i < xs.length
    · refine .inr ⟨sr.go i F' G as' s' H2 hlt l' S' ok', AtLp X.K CL W F1 G as1 D ck (lp ck (fBody dg db)) xs (i + 1), fun σ3 H3 p3 => ⟨xs.length - (i + 1), by omega, rfl, hlt, p3⟩, fun v H3 y => ?_⟩
      obtain ⟨z, F2, e, l2, S2, r⟩ := sr.yl i F' G as' s' H2 v H3 hlt l' S' ok' y
      have ed : xs.drop i = z :: xs.drop (i + 1) := by
        obtain ⟨q1, q2⟩ := List.getElem?_eq_some_iff.mp e
        rw [List.drop_eq_getElem_cons q1, q2]
      rw [ed] at h'
      unfold lp fBody at h'
      rw [if_pos ok'] at h'
      cases q : dg z ε' s' with
      | none =>
        rw [q] at h'
        exact h'.elim
      | some ε2 =>
        rw [q] at h'
        dsimp only at h'
        refine hg.ok F2 G as' s' H3 z v ε' ε2 σ2 _ S2 r (E'.mono l2) q fun σ' E2 _ _ => ⟨F2, G, as', ε2, s', S2, E2, ?_⟩
        have h' := PF.le l2 h'
        cases q2 : db ε2 s' with
        | nx ε3 s3 =>
          rw [q2] at h'
          exact fun F4 as4 σ4 H4 l4 S4 E4 => ⟨F4, as4, ε3, s3, (l'.trans l2).trans l4, S4, E4, lp_ck h', PF.le l4 h'⟩
        | ct ε3 s3 =>
          rw [q2] at h'
          exact fun F4 as4 σ4 H4 l4 S4 E4 => ⟨F4, as4, ε3, s3, (l'.trans l2).trans l4, S4, E4, lp_ck h', PF.le l4 h'⟩
        | brk ε3 s3 =>
          rw [q2] at h'
          exact h'
        | ret y s3 =>
          rw [q2] at h'
          exact h'
        | exc c ε3 s3 =>
          rw [q2] at h'
          exact h'
        | bad =>
          rw [q2] at h'
          exact h'
    · have ei : i = xs.length := by omega
      subst ei
      refine .inl ⟨sr.stop F' G as' s' H2 l' S' ok', ?_⟩
      rw [List.drop_length] at h'
      unfold lp at h'
      rw [if_pos ok'] at h'
      exact h' F' as' σ2 H2 Le.refl S' E'
end

/-! ### comprehensions -/
def Rs.noexc {α : Type} : Rs α → Rs α
  | .ok a s => .ok a s
  | _ => .bad
open Classical in
noncomputable def cl (ck : Option (Nat × List Va)) (dg : DG) (dt : DT) (del : DE) (ε : En) : List Va → List Va → Sto → Rs (List Va)
  | [], acc, s => if okk ck s then .ok acc s else .bad
  | x :: r, acc, s => if okk ck s then (match dg x ε s with
    | none => .bad
    | some ε2 => (dt ε2 s).noexc.bind fun b s1 => if b = true then (del ε2 s1).noexc.bind fun y s2 => cl ck dg dt del ε r (acc ++ [y]) s2 else cl ck dg dt del ε r acc s1) else .bad
noncomputable def dLc (bx : Bool) (di : DI) (dg : DG) (dt : DT) (del : DE) (vs : List Nat) : DE := fun ε s => (di ε s).bind fun src s1 => if leq src.2.length 100000 then (cl src.1 dg dt del (wip ε vs) src.2 [] s1).bind fun acc s2 => mkL bx acc s2 else .bad
abbrev W0 : WX := fun _ _ _ _ => False
section
variable {K : PySem.W.Frag} {CL : Cls0} {W : Value → Option Addr → Hp → Prop} {F G H : Hp} {as : List Addr} {s : Sto}
theorem Pst.noexc {α β : Type} {RA : Hp → List Addr → α → β → Prop} {r : Rs α} {Q : β → Hp → Prop} {W' : Value → Option Addr → Hp → Prop} (h : Pst K CL W F G as RA r.noexc Q) : Pst K CL W' F G as RA r Q := by
  cases r with
  | ok x s => exact h
  | exc c s => exact h.elim
  | bad => exact h.elim
/-- the new list stands in what is kept -/
theorem Sim.hide {D : Addr} {o : HO} (S : Sim K F G as s H) (h : H D = none) : Sim K F (upd G D o) as s (upd H D o) where
  sub := fun a u e => by
    have ne : a ≠ D := fun z => by
      rw [z, S.fnone h] at e
      cases e
    rw [upd_ne ne]
    exact S.sub a u e
  fr := fun a u e => by
    by_cases q : a = D
    · subst q
      rw [upd_same] at e ⊢
      refine ⟨e, S.fnone h, fun z => ?_⟩
      obtain ⟨w, hw⟩ := S.here a z
      rw [h] at hw
      cases hw
    · rw [upd_ne q] at e ⊢
      exact S.fr a u e
  len := S.len
  here := fun a ha => by
    obtain ⟨w, hw⟩ := S.here a ha
    rw [upd_ne (ne_of_none hw h)]
    exact ⟨w, hw⟩
  nd := S.nd
  obj := fun i a ob h1 h2 => by
    obtain ⟨w, hw⟩ := S.here a (List.mem_of_getElem? h1)
    exact (S.obj i a ob h1 h2).mono2 Le.refl (fun z => z) (upd_ne (ne_of_none hw h))
theorem Sim.hidden {D : Addr} {o o' : HO} (S : Sim K F (upd G D o) as s H) : Sim K F (upd G D o') as s (upd H D o') := by
  obtain ⟨d1, d2, d3⟩ := S.fr D o upd_same
  refine ⟨fun a u e => ?_, fun a u e => ?_, S.len, fun a ha => ?_, S.nd, fun i a ob h1 h2 => ?_⟩
  · have ne : a ≠ D := ne_of_none e d2
    rw [upd_ne ne]
    exact S.sub a u e
  · by_cases q : a = D
    · subst q
      rw [upd_same] at e ⊢
      exact ⟨e, d2, d3⟩
    · rw [upd_ne q] at e ⊢
      exact S.fr a u (by rw [upd_ne q]; exact e)
  · obtain ⟨w, hw⟩ := S.here a ha
    have ne : a ≠ D := fun z => d3 (by rw [← z]; exact ha)
    rw [upd_ne ne]
    exact ⟨w, hw⟩
  · have ne : a ≠ D := fun z => d3 (by rw [← z]; exact List.mem_of_getElem? h1)
    exact (S.obj i a ob h1 h2).mono2 Le.refl (fun z => z) (upd_ne ne)
/-- it is frozen, or becomes an object of the store -/
theorem Sim.shown {D : Addr} {accV : List V} {acc : List Va} {bx : Bool} {Q : VK} (hG : G D = none) (S : Sim K F (upd G D (.lst accV)) as s H) (r : Rls K F as acc accV) (h : Pst K CL W F G as (Rl K) (mkL bx acc s) Q) : Q (.ref D) H := by
  obtain ⟨d1, d2, d3⟩ := S.fr D _ upd_same
  cases bx with
  | false =>
    refine h.ok (F' := upd F D (.lst accV)) (as' := as) (Le.new d2) ⟨fun a u e => ?_, fun a u e => ?_, S.len, S.here, S.nd, fun i a ob h1 h2 => ?_⟩ (.lst upd_same (r.mono (Le.new d2)))
    · by_cases q : a = D
      · subst q
        rw [upd_same] at e
        cases e
        exact d1
      · rw [upd_ne q] at e
        exact S.sub a u e
    · have q : a ≠ D := fun z => by
        rw [z, hG] at e
        cases e
      obtain ⟨e1, e2, e3⟩ := S.fr a u (by rw [upd_ne q]; exact e)
      rw [upd_ne q]
      exact ⟨e1, e2, e3⟩
    · have ne : a ≠ D := fun z => d3 (by rw [← z]; exact List.mem_of_getElem? h1)
      exact (S.obj i a ob h1 h2).mono2 (Le.new d2) (fun z => by rw [upd_ne ne]; exact z) rfl
  | true =>
    refine h.ok (F' := F) (as' := as ++ [D]) Le.push ⟨S.sub, fun a u e => ?_, by rw [List.length_append, List.length_append, S.len]; rfl, fun a ha => ?_, ?_, fun i a ob h1 h2 => ?_⟩ (.ref ?_)
    · have q : a ≠ D := fun z => by
        rw [z, hG] at e
        cases e
      obtain ⟨e1, e2, e3⟩ := S.fr a u (by rw [upd_ne q]; exact e)
      refine ⟨e1, e2, fun z => ?_⟩
      rcases List.mem_append.mp z with z | z
      · exact e3 z
      · exact q (List.mem_singleton.mp z)
    · rcases List.mem_append.mp ha with z | z
      · exact S.here a z
      · rw [List.mem_singleton.mp z]
        exact ⟨_, d1⟩
    · refine List.nodup_append.mpr ⟨S.nd, by simp, fun a ha b hb e => ?_⟩
      rw [List.mem_singleton.mp hb] at e
      exact d3 (by rw [← e]; exact ha)
    · by_cases hi : i < as.length
      · rw [List.getElem?_append_left hi] at h1
        rw [List.getElem?_append_left (by rw [← S.len]; exact hi)] at h2
        exact (S.obj i a ob h1 h2).mono2 Le.push (fun z => z) rfl
      · have l1 := (List.getElem?_eq_some_iff.mp h1).1
        rw [List.length_append] at l1
        have e : i = as.length := by simp at l1; omega
        subst e
        rw [List.getElem?_concat_length] at h1
        rw [S.len, List.getElem?_concat_length] at h2
        cases h1
        cases h2
        exact ⟨d2, accV, d1, r.mono Le.push⟩
    · rw [← S.len]
      exact List.getElem?_concat_length
end
theorem wipe_in {σ : L2.St} {i : Nat} : ∀ {vs : List Nat}, i ∈ vs → i < σ.length → (wipe σ vs)[i]? = some none
  | v :: vs, h, hl => by
    unfold wipe
    by_cases e : v = i
    · subst e
      rw [List.getElem?_set_self (by rw [wipe_length]; exact hl)]
    · rw [List.getElem?_set_ne e]
      rcases List.mem_cons.mp h with z | z
      · exact absurd z.symm e
      · exact wipe_in z hl
theorem wipe_eq {σ σ' : L2.St} {vs ts : List Nat} (hs : ∀ i ∈ ts, i ∈ vs) (hl : σ'.length = (wipe σ vs).length) (h : ∀ i, i ∉ ts → σ'[i]? = (wipe σ vs)[i]?) : wipe σ' vs = wipe σ vs := by
  apply List.ext_getElem?
  intro i
  rw [wipe_length] at hl
  by_cases hi : i ∈ vs
  · by_cases hz : i < σ.length
    · rw [wipe_in hi (by rw [hl]; exact hz), wipe_in hi hz]
    · rw [List.getElem?_eq_none (by rw [wipe_length, hl]; omega), List.getElem?_eq_none (by rw [wipe_length]; omega)]
  · rw [wipe_out hi]
    exact h i fun z => hi (hs i z)
section
variable {X : Cx} {CL : Cls0} {W : WX} {k : Nat} {elt tg iter : Expr} {ifs : List Expr} {scope : Scope} {own : List (Str × Nat)} {wi : TI} {g : TG} {dg : DG} {ts : List Nat} {dt : DT} {del : DE} {di : DI} {pos spos : Pos}
theorem tD_lc {σ : L2.St} {H : Hp} {Q : VK} (bx : Bool) (hi : RI X CL W tg iter wi di) (hg : ∀ F G as s H x v ε ε' σ Q, Sim X.K F G as s H → Rl X.K F as x v → ER X.K F as ε σ → dg x ε s = some ε' → (∀ σ', ER X.K F as ε' σ' → σ'.length = σ.length → (∀ i, i ∉ ts → σ'[i]? = σ[i]?) → Q σ' H) → g v σ H Q) {vs : List Nat} (hts : ∀ i ∈ ts, i ∈ vs)
    (h : tD X.K CL W (dLc bx di dg dt del vs) σ H Q) : tLc wi g (tDT X.K CL W0 dt) (tD X.K CL W0 del) vs σ H Q := by
  obtain ⟨F, G, as, ε, s, S, E, h⟩ := h
  refine hi.ok σ H _ ⟨F, G, as, ε, s, S, E, Pst.imp (Pst.bind h) fun J H1 ⟨F1, as1, s1, src, l, S1, sr, h1⟩ => ?_⟩
  obtain ⟨ck, xs⟩ := src
  dsimp only at sr h1
  split at h1
  case isFalse => exact h1.elim
  case isTrue hlen =>
  unfold leq at hlen
  intro D hD
  have hGD : G D = none := by
    cases q : G D with
    | none => rfl
    | some o =>
      have := (S1.fr D o q).1
      rw [hD] at this
      cases this
  refine ⟨fun i m H => m = xs.length - i ∧ i ≤ xs.length ∧ ∃ F' as' s' acc accV, Le F1 as1 F' as' ∧ Sim X.K F' (upd G D (.lst accV)) as' s' H ∧ Rls X.K F' as' acc accV ∧ acc.length ≤ i ∧
    Pst X.K CL (fun c d H => W c d σ H) F' G as' (Rl X.K) ((cl ck dg dt del (wip ε vs) (xs.drop i) acc s').bind fun acc s2 => mkL bx acc s2) Q,
    ⟨xs.length, by simp, Nat.zero_le _, F1, as1, s1, [], [], Le.refl, S1.hide hD, .nil, Nat.le_refl _, h1⟩, ?_⟩
  rintro i m H2 ⟨rfl, hi2, F', as', s', acc, accV, l', S', ra, hacc, h'⟩
  have ok' : okk ck s' := by
    cases q : xs.drop i with
    | nil =>
      rw [q] at h'
      unfold cl at h'
      split at h'
      · assumption
      · exact h'.elim
    | cons y r =>
      rw [q] at h'
      unfold cl at h'
      split at h'
      · assumption
      · exact h'.elim
  by_cases hlt : i < xs.length
  · refine .inr ⟨sr.go i F' _ as' s' H2 hlt l' S' ok', fun H3 => i + 1 ≤ xs.length ∧ ∃ F' as' s' acc accV, Le F1 as1 F' as' ∧ Sim X.K F' (upd G D (.lst accV)) as' s' H3 ∧ Rls X.K F' as' acc accV ∧ acc.length ≤ i + 1 ∧
      Pst X.K CL (fun c d H => W c d σ H) F' G as' (Rl X.K) ((cl ck dg dt del (wip ε vs) (xs.drop (i + 1)) acc s').bind fun acc s2 => mkL bx acc s2) Q, fun H3 p3 => ⟨xs.length - (i + 1), by omega, rfl, p3⟩, fun v H3 y => ?_⟩
    obtain ⟨z, F2, e, l2, S2, r⟩ := sr.yl i F' _ as' s' H2 v H3 hlt l' S' ok' y
    have ed : xs.drop i = z :: xs.drop (i + 1) := by
      obtain ⟨q1, q2⟩ := List.getElem?_eq_some_iff.mp e
      rw [List.drop_eq_getElem_cons q1, q2]
    rw [ed] at h'
    unfold cl at h'
    rw [if_pos ok'] at h'
    have EW : ER X.K F2 as' (wip ε vs) (wipe σ vs) := ER.wipe (E.mono ((l.trans l').trans l2)) vs
    cases q : dg z (wip ε vs) s' with
    | none =>
      rw [q] at h'
      exact h'.elim
    | some ε2 =>
      rw [q] at h'
      dsimp only at h'
      refine hg F2 _ as' s' H3 z v _ ε2 _ _ S2 r EW q fun σ2 E2 hl2 ho2 => ⟨wipe_eq hts hl2 ho2, ?_⟩
      refine ⟨F2, _, as', ε2, s', S2, E2, ?_⟩
      have h' := Pst.le l2 h'
      cases q3 : dt ε2 s' with
      | exc c s3 =>
        rw [q3] at h'
        exact h'.elim
      | bad =>
        rw [q3] at h'
        exact h'.elim
      | ok b s3 =>
        rw [q3] at h'
        intro F3 as3 H4 b' l3 S3 eb
        subst eb
        cases b with
        | true =>
          rw [if_pos rfl]
          dsimp only [Rs.noexc, Rs.bind] at h'
          rw [if_pos rfl] at h'
          refine ⟨F3, _, as3, ε2, s3, S3, E2.mono l3, ?_⟩
          cases q4 : del ε2 s3 with
          | exc c s4 =>
            rw [q4] at h'
            exact h'.elim
          | bad =>
            rw [q4] at h'
            exact h'.elim
          | ok y s4 =>
            rw [q4] at h'
            intro F4 as4 H5 w l4 S4 ry
            have la : accV.length ≤ 100000 := by rw [← ra.len]; omega
            refine ⟨accV, (S4.fr D _ upd_same).1, Nat.lt_of_le_of_lt la (by decide), by omega, F4, as4, s4, acc ++ [y], accV ++ [w], ((l'.trans l2).trans l3).trans l4, S4.hidden, ((ra.mono ((l2.trans l3).trans l4)).app (.cons ry .nil)), by rw [List.length_append]; simp; omega, ?_⟩
            exact Pst.le (l3.trans l4) h'
        | false =>
          rw [if_neg (by decide)]
          dsimp only [Rs.noexc, Rs.bind] at h'
          rw [if_neg (by decide)] at h'
          exact ⟨by omega, F3, as3, s3, acc, accV, (l'.trans l2).trans l3, S3, ra.mono (l2.trans l3), by omega, Pst.le l3 h'⟩
  · have ei : i = xs.length := by omega
    subst ei
    refine .inl ⟨sr.stop F' _ as' s' H2 l' S' ok', ?_⟩
    rw [List.drop_length] at h'
    unfold cl at h'
    rw [if_pos ok'] at h'
    exact S'.shown hGD ra h'
abbrev RTs (X : Cx) (CL : Cls0) (W : WX) (ifs : List Expr) (d : DT) : Prop := PTs X ifs (tDT X.K CL W d)
def dYes : DT := fun _ s => .ok true s
theorem rts_nil : RTs X CL W [] dYes := ⟨fun pins s σ H Q I h => pts_nil.run pins s σ H Q I (by
  obtain ⟨F, G, as, ε, s, S, E, h⟩ := h
  exact h.ok Le.refl S rfl)⟩
theorem rts_one {c : Expr} (h : RT X CL W c dt) : RTs X CL W [c] dt := pts_one h
theorem re_lc (O : Okc X W k) (bx : Bool) (hi : RI X CL W tg iter wi di) (ok : BlkOk X.N X.env.scope scope own)
    (hg : ∀ (s : Shared) (H : Hp) (C : Addr) (cl : List (Str × Addr)) (fp : List Addr), Okc (X.blk s H scope (compEnvC scope cl C X.env) fp) W0 k → RG (X.blk s H scope (compEnvC scope cl C X.env) fp) tg g dg ts)
    (ht : ∀ (s : Shared) (H : Hp) (C : Addr) (cl : List (Str × Addr)) (fp : List Addr), Okc (X.blk s H scope (compEnvC scope cl C X.env) fp) W0 k → RTs (X.blk s H scope (compEnvC scope cl C X.env) fp) CL W0 ifs dt)
    (he : ∀ (s : Shared) (H : Hp) (C : Addr) (cl : List (Str × Addr)) (fp : List Addr), Okc (X.blk s H scope (compEnvC scope cl C X.env) fp) W0 k → RE (X.blk s H scope (compEnvC scope cl C X.env) fp) CL W0 elt del)
    (hts : ∀ i ∈ ts, i ∈ own.map (·.2) := by decide) (hs : ∀ x, foldedSetIterable iter X.env x = pure x := by intro _; rfl) :
    RE X CL W (.ListComp elt [⟨tg, iter, ifs, 0⟩] scope pos) (dLc bx di dg dt del (own.map (·.2))) := by
  have OB : ∀ (s : Shared) (H : Hp) (C : Addr) (cl : List (Str × Addr)) (fp : List Addr), Okc (X.blk s H scope (compEnvC scope cl C X.env) fp) W0 k := fun s H C cl fp => ⟨O.calm, takes0, PassesOwn.never, O.room, O.nd⟩
  refine pe_weak (pe_lc (te := tD X.K CL W0 del) (tt := tDT X.K CL W0 dt) (g := g) O.calm O.nd hi.pi ok (fun s H C cl fp => (hg s H C cl fp (OB s H C cl fp)).pg) (fun s H C cl fp => ht s H C cl fp (OB s H C cl fp)) (fun s H C cl fp => he s H C cl fp (OB s H C cl fp)) hs) fun σ H Q h => ?_
  exact tD_lc bx hi (hg X.s_0 (fun _ => none) 0 [] [] (OB _ _ _ _ _)).ok hts h
theorem rs_setLc {i : Nat} {y : Str} {py : Pos} (O : Okc X W k) (hy : X.N[i]? = some y) (hyl : X.env.scope.names.lookup y = some .local) (hsw : swapsWith (.ListComp elt [⟨tg, iter, ifs, 0⟩] scope pos) (some (.Name y py)) spos.line X.env = pure true) (bx : Bool) (hi : RI X CL W tg iter wi di) (ok : BlkOk X.N X.env.scope scope own)
    (hg : ∀ (s : Shared) (H : Hp) (C : Addr) (cl : List (Str × Addr)) (fp : List Addr), Okc (X.blk s H scope (compEnvC scope cl C X.env) fp) W0 k → RG (X.blk s H scope (compEnvC scope cl C X.env) fp) tg g dg ts)
    (ht : ∀ (s : Shared) (H : Hp) (C : Addr) (cl : List (Str × Addr)) (fp : List Addr), Okc (X.blk s H scope (compEnvC scope cl C X.env) fp) W0 k → RTs (X.blk s H scope (compEnvC scope cl C X.env) fp) CL W0 ifs dt)
    (he : ∀ (s : Shared) (H : Hp) (C : Addr) (cl : List (Str × Addr)) (fp : List Addr), Okc (X.blk s H scope (compEnvC scope cl C X.env) fp) W0 k → RE (X.blk s H scope (compEnvC scope cl C X.env) fp) CL W0 elt del)
    (hts : ∀ i ∈ ts, i ∈ own.map (·.2) := by decide) (hs : ∀ x, foldedSetIterable iter X.env x = pure x := by intro _; rfl) :
    RS X CL W (.Assign [.Name y py] (.ListComp elt [⟨tg, iter, ifs, 0⟩] scope pos) spos) (sSet i (dLc bx di dg dt del (own.map (·.2)))) := by
  have OB : ∀ (s : Shared) (H : Hp) (C : Addr) (cl : List (Str × Addr)) (fp : List Addr), Okc (X.blk s H scope (compEnvC scope cl C X.env) fp) W0 k := fun s H C cl fp => ⟨O.calm, takes0, PassesOwn.never, O.room, O.nd⟩
  refine ps_weak (ps_setLc (te := tD X.K CL W0 del) (tt := tDT X.K CL W0 dt) (g := g) O.calm O.nd hy hyl hsw hi.pi ok (fun s H C cl fp => (hg s H C cl fp (OB s H C cl fp)).pg) (fun s H C cl fp => ht s H C cl fp (OB s H C cl fp)) (fun s H C cl fp => he s H C cl fp (OB s H C cl fp)) hs) fun D σ H h => ?_
  exact tDS_set (fun Q q => tD_lc bx hi (hg X.s_0 (fun _ => none) 0 [] [] (OB _ _ _ _ _)).ok hts q) h
end
end Dn

set_option Elab.async false
set_option linter.all false
set_option maxRecDepth 100000
set_option maxHeartbeats 1000000
/-! Dn, part F: calls and defs; freezing; while; raise. -/
namespace Dn
open PySem PySem.Spec PyProof.Rows L2

/-! ### what a def promises -/
def spF (K : PySem.W.Frag) (CL : Cls0) (n : Nat) (F0 : List Va → Sto → Rs Va) : Sp := fun vs H Q E => ∃ F G as s args, Sim K F G as s H ∧ Rls K F as args vs ∧ args.length = n ∧ Pst K CL E F G as (Rl K) (F0 args s) Q
def gFn (n : Nat) (F0 : List Va → Sto → Rs Va) : List Va → Sto → Rs Va := fun xs s => if xs.length = n then F0 xs s else .bad
section
variable {X : Cx} {CL : Cls0} {W : WX} {k j : Nat} {f : Addr} {fd : FuncData} {ps : List Str} {F0 : List Va → Sto → Rs Va} {x : Str} {p pos : Pos} {e : Expr} {es : List Expr} {dr : DA}
theorem re_call (O : Okc X W j) (F : FnOk X.prog X.w X.K X.mg X.base (L2.CX X.prog X.w) k f fd ps (spF X.K CL ps.length F0)) (hk : k ≤ j) (hm : X.mg x = some (.ref f)) (hkp : PySem.W.keepIn X.K (.ref f) = true) (hb : Binds X.K fd ps []) (ha : RA X CL W (e :: es) dr) (hg : Gl X x := by rfl)
    (hdb : (x == ("__debug__" : Str)) = false := by decide) (he : starEach (e :: es) X.env = (false, eval e X.env) :: starEach es X.env := by rfl) (hpl : (backTo pos (starEach es X.env)).any (·.1) = false := by rfl) :
    RE X CL W (.Call (.Name x p) (e :: es) [] pos) (dApp (gFn ps.length F0) dr) :=
  pe_weak (pe_callS (E := WE W) F (O.room.mono hk) hg hm hkp hb (fun σ => passAt O.tk σ) ha hdb he hpl) fun σ H Q h => by
    obtain ⟨F, G, as, ε, s, S, E, h⟩ := h
    refine ⟨F, G, as, ε, s, S, E, Pst.imp (Pst.bind h) fun v H1 ⟨F1, as1, s1, y, l, S1, rx, h1⟩ => ?_⟩
    unfold gFn at h1
    split at h1
    · rename_i hc
      exact ⟨F1, G, as1, s1, y, S1, rx, hc, h1⟩
    · exact h1.elim
end

/-! ### refs below a bound -/
mutual
def vaB (n : Nat) : Va → Prop
  | .ref i => i < n
  | .tup xs => vasB n xs
  | .lst xs => vasB n xs
  | .ext xs => vasB n xs
  | .dicK kvs => vksB n kvs
  | .dicT kvs => vtsB n kvs
  | .non => True
  | .bl _ => True
  | .int _ => True
  | .str _ => True
def vasB (n : Nat) : List Va → Prop
  | [] => True
  | x :: xs => vaB n x ∧ vasB n xs
def vksB (n : Nat) : List (Key × Va) → Prop
  | [] => True
  | (_, x) :: xs => vaB n x ∧ vksB n xs
def vtsB (n : Nat) : List (List Key × Va) → Prop
  | [] => True
  | (_, x) :: xs => vaB n x ∧ vtsB n xs
end
def vfsB (n : Nat) : List (Str × Va) → Prop
  | [] => True
  | (_, x) :: xs => vaB n x ∧ vfsB n xs
def obB (n : Nat) : Ob → Prop
  | .lst xs => vasB n xs
  | .dicK kvs => vksB n kvs
  | .dicT kvs => vtsB n kvs
  | .ins _ fs => vfsB n fs
  | .dead => True
def WFn (n : Nat) (s : Sto) : Prop := ∀ o ∈ s, obB n o
section
variable {K : PySem.W.Frag} {F G H : Hp} {as : List Addr} {s : Sto}
mutual
theorem Rl.bnd : ∀ {x : Va} {v : V}, Rl K F as x v → vaB as.length x
  | _, _, .non => trivial
  | _, _, .bl b => trivial
  | _, _, .int i => trivial
  | _, _, .str x => trivial
  | _, _, .tup _ r => Rls.bnd r
  | _, _, .lst _ r => Rls.bnd r
  | _, _, .ext _ r => Rls.bnd r
  | _, _, .dicK _ r => RlK.bnd r
  | _, _, .dicT _ r => RlT.bnd r
  | _, _, .ref h => (List.getElem?_eq_some_iff.mp h).1
theorem Rls.bnd : ∀ {xs : List Va} {vs : List V}, Rls K F as xs vs → vasB as.length xs
  | _, _, .nil => trivial
  | _, _, .cons h r => ⟨Rl.bnd h, Rls.bnd r⟩
theorem RlK.bnd : ∀ {xs : List (Key × Va)} {vs : List (Key × V)}, RlK K F as xs vs → vksB as.length xs
  | _, _, .nil => trivial
  | _, _, .cons h r => ⟨Rl.bnd h, RlK.bnd r⟩
theorem RlT.bnd : ∀ {xs : List (List Key × Va)} {vs : List (List Key × V)}, RlT K F as xs vs → vtsB as.length xs
  | _, _, .nil => trivial
  | _, _, .cons h r => ⟨Rl.bnd h, RlT.bnd r⟩
end
theorem RlF.bnd : ∀ {xs : List (Str × Va)} {vs : List (Str × V)}, RlF K F as xs vs → vfsB as.length xs
  | _, _, .nil => trivial
  | _, _, .cons h r => ⟨Rl.bnd h, RlF.bnd r⟩
mutual
theorem Rl.cut (n : Nat) : ∀ {x : Va} {v : V}, Rl K F as x v → vaB n x → Rl K F (as.take n) x v
  | _, _, .non, _ => .non
  | _, _, .bl b, _ => .bl b
  | _, _, .int i, _ => .int i
  | _, _, .str x, _ => .str x
  | _, _, .tup h r, b => .tup h (Rls.cut n r b)
  | _, _, .lst h r, b => .lst h (Rls.cut n r b)
  | _, _, .ext h r, b => .ext h (Rls.cut n r b)
  | _, _, .dicK h r, b => .dicK h (RlK.cut n r b)
  | _, _, .dicT h r, b => .dicT h (RlT.cut n r b)
  | _, _, .ref h, b => .ref (by rw [List.getElem?_take_of_lt b]; exact h)
theorem Rls.cut (n : Nat) : ∀ {xs : List Va} {vs : List V}, Rls K F as xs vs → vasB n xs → Rls K F (as.take n) xs vs
  | _, _, .nil, _ => .nil
  | _, _, .cons h r, b => .cons (Rl.cut n h b.1) (Rls.cut n r b.2)
theorem RlK.cut (n : Nat) : ∀ {xs : List (Key × Va)} {vs : List (Key × V)}, RlK K F as xs vs → vksB n xs → RlK K F (as.take n) xs vs
  | _, _, .nil, _ => .nil
  | _, _, .cons h r, b => .cons (Rl.cut n h b.1) (RlK.cut n r b.2)
theorem RlT.cut (n : Nat) : ∀ {xs : List (List Key × Va)} {vs : List (List Key × V)}, RlT K F as xs vs → vtsB n xs → RlT K F (as.take n) xs vs
  | _, _, .nil, _ => .nil
  | _, _, .cons h r, b => .cons (Rl.cut n h b.1) (RlT.cut n r b.2)
end
theorem RlF.cut (n : Nat) : ∀ {xs : List (Str × Va)} {vs : List (Str × V)}, RlF K F as xs vs → vfsB n xs → RlF K F (as.take n) xs vs
  | _, _, .nil, _ => .nil
  | _, _, .cons h r, b => .cons (Rl.cut n h b.1) (RlF.cut n r b.2)
theorem Sim.wf (S : Sim K F G as s H) : WFn s.length s := fun o ho => by
  obtain ⟨i, hi, e⟩ := List.mem_iff_getElem.mp ho
  have e2 : s[i]? = some o := by rw [List.getElem?_eq_getElem hi, e]
  obtain ⟨a, ha⟩ := S.at e2
  have r := S.obj i a o ha e2
  rw [← S.len]
  cases o with
  | lst xs => obtain ⟨_, vs, _, h⟩ := r; exact h.bnd
  | dicK xs => obtain ⟨_, vs, _, h⟩ := r; exact h.bnd
  | dicT xs => obtain ⟨_, vs, _, h⟩ := r; exact h.bnd
  | ins C xs => obtain ⟨_, dx, vs, _, h⟩ := r; exact h.bnd
  | dead => trivial
theorem ObR.cut {a : Addr} {o : Ob} (n : Nat) (h : ObR K F as H a o) (b : obB n o) : ObR K F (as.take n) H a o := by
  cases o with
  | lst xs => obtain ⟨hf, vs, h1, h2⟩ := h; exact ⟨hf, vs, h1, h2.cut n b⟩
  | dicK xs => obtain ⟨hf, vs, h1, h2⟩ := h; exact ⟨hf, vs, h1, h2.cut n b⟩
  | dicT xs => obtain ⟨hf, vs, h1, h2⟩ := h; exact ⟨hf, vs, h1, h2.cut n b⟩
  | ins C xs => obtain ⟨hf, dx, vs, h1, h2⟩ := h; exact ⟨hf, dx, vs, h1, h2.cut n b⟩
  | dead => trivial
theorem Sim.cut (n : Nat) (S : Sim K F G as s H) (w : WFn n (s.take n)) : Sim K F G (as.take n) (s.take n) H where
  sub := S.sub
  fr := fun a o e => by
    obtain ⟨h1, h2, h3⟩ := S.fr a o e
    exact ⟨h1, h2, fun z => h3 (List.mem_of_mem_take z)⟩
  len := by rw [List.length_take, List.length_take, S.len]
  here := fun a ha => S.here a (List.mem_of_mem_take ha)
  nd := S.nd.sublist (List.take_sublist _ _)
  obj := fun i a o h1 h2 => by
    have hi : i < n := by
      have := (List.getElem?_eq_some_iff.mp h2).1
      rw [List.length_take] at this
      omega
    have e2 := h2
    rw [List.getElem?_take_of_lt hi] at h1 h2
    exact (S.obj i a o h1 h2).cut n (w o (List.mem_of_getElem? e2))
/-- .. and one object kept behind them -/
theorem Sim.cutBox (n : Nat) {i : Nat} {a : Addr} {o : Ob} (S : Sim K F G as s H) (w : WFn n (s.take n)) (hn : n ≤ s.length) (hi : n ≤ i) (ha : as[i]? = some a) (ho : s[i]? = some o) (hb : obB n o) : Sim K F G (as.take n ++ [a]) (s.take n ++ [o]) H := by
  have S1 := S.cut n w
  have hm : a ∉ as.take n := fun z => by
    obtain ⟨j, hj, e⟩ := List.mem_iff_getElem.mp z
    rw [List.length_take] at hj
    rw [List.getElem_take] at e
    obtain ⟨l2, e2⟩ := List.getElem?_eq_some_iff.mp ha
    have := (List.getElem_inj S.nd).mp (e.trans e2.symm)
    omega
  refine ⟨S.sub, fun b u e => ?_, by rw [List.length_append, List.length_append, S1.len]; rfl, fun b hb => ?_, ?_, fun j b ob h1 h2 => ?_⟩
  · obtain ⟨h1, h2, h3⟩ := S.fr b u e
    refine ⟨h1, h2, fun z => h3 ?_⟩
    rcases List.mem_append.mp z with z | z
    · exact List.mem_of_mem_take z
    · rw [List.mem_singleton.mp z]
      exact List.mem_of_getElem? ha
  · rcases List.mem_append.mp hb with z | z
    · exact S1.here b z
    · rw [List.mem_singleton.mp z]
      exact S.here a (List.mem_of_getElem? ha)
  · refine List.nodup_append.mpr ⟨S1.nd, by simp, fun b hb c hc e => ?_⟩
    rw [List.mem_singleton.mp hc] at e
    exact hm (by rw [← e]; exact hb)
  · by_cases hj : j < (as.take n).length
    · rw [List.getElem?_append_left hj] at h1
      rw [List.getElem?_append_left (by rw [← S1.len]; exact hj)] at h2
      exact (S1.obj j b ob h1 h2).mono2 Le.push (fun z => z) rfl
    · have l1 := (List.getElem?_eq_some_iff.mp h1).1
      rw [List.length_append] at l1
      have e : j = (as.take n).length := by simp at l1 hj ⊢; omega
      subst e
      rw [List.getElem?_concat_length] at h1
      rw [S1.len, List.getElem?_concat_length] at h2
      cases h1
      cases h2
      exact ((S.obj i a o ha ho).cut n hb).mono2 Le.push (fun z => z) rfl
end

/-! ### freezing -/
mutual
inductive Frz : Va → Sto → Va → Sto → Prop
  | same (x : Va) (s : Sto) : Frz x s x s
  | lst {i : Nat} {xs xs' : List Va} {s s1 : Sto} : s[i]? = some (.lst xs) → Frzs xs s xs' s1 → s1[i]? = some (.lst xs) → Frz (.ref i) s (.lst xs') (s1.set i .dead)
  | dicK {i : Nat} {kvs : List (Key × Va)} {s : Sto} : s[i]? = some (.dicK kvs) → Frz (.ref i) s (.dicK kvs) (s.set i .dead)
  | dicT {i : Nat} {kvs : List (List Key × Va)} {s : Sto} : s[i]? = some (.dicT kvs) → Frz (.ref i) s (.dicT kvs) (s.set i .dead)
  | tup {xs xs' : List Va} {s s' : Sto} : Frzs xs s xs' s' → Frz (.tup xs) s (.tup xs') s'
  | lstI {xs xs' : List Va} {s s' : Sto} : Frzs xs s xs' s' → Frz (.lst xs) s (.lst xs') s'
inductive Frzs : List Va → Sto → List Va → Sto → Prop
  | nil (s : Sto) : Frzs [] s [] s
  | cons {x x' : Va} {xs xs' : List Va} {s s1 s2 : Sto} : Frz x s x' s1 → Frzs xs s1 xs' s2 → Frzs (x :: xs) s (x' :: xs') s2
end
theorem Frzs.same : ∀ (xs : List Va) (s : Sto), Frzs xs s xs s
  | [], s => .nil s
  | x :: xs, s => .cons (.same x s) (Frzs.same xs s)
section
variable {K : PySem.W.Frag} {G H : Hp} {as : List Addr}
mutual
theorem frz_ok : ∀ {x x' : Va} {s s' : Sto}, Frz x s x' s' → ∀ {F : Hp} {v : V}, Sim K F G as s H → Rl K F as x v → ∃ F', Le F as F' as ∧ Sim K F' G as s' H ∧ Rl K F' as x' v
  | _, _, _, _, .same x s, F, v, S, r => ⟨F, Le.refl, S, r⟩
  | _, _, _, _, .lst (i := i) (xs := xs) (xs' := xs') e h e2, F, v, S, r => by
    cases r with
    | ref ha =>
      obtain ⟨hf, vs, h1, h2⟩ := S.ref ha e
      obtain ⟨F1, l1, S1, r1⟩ := frzs_ok h S h2
      obtain ⟨hf1, vs1, h3, h4⟩ := S1.ref ha e2
      exact ⟨_, l1.trans (Le.new hf1), S1.freeze ha h1 hf1, .lst upd_same (r1.mono (Le.new hf1))⟩
  | _, _, _, _, .dicK e, F, v, S, r => by
    cases r with
    | ref ha =>
      obtain ⟨hf, vs, h1, h2⟩ := S.ref ha e
      exact ⟨_, Le.new hf, S.freeze ha h1 hf, .dicK upd_same (h2.mono (Le.new hf))⟩
  | _, _, _, _, .dicT e, F, v, S, r => by
    cases r with
    | ref ha =>
      obtain ⟨hf, vs, h1, h2⟩ := S.ref ha e
      exact ⟨_, Le.new hf, S.freeze ha h1 hf, .dicT upd_same (h2.mono (Le.new hf))⟩
  | _, _, _, _, .tup h, F, v, S, r => by
    cases r with
    | tup hf hr =>
      obtain ⟨F1, l1, S1, r1⟩ := frzs_ok h S hr
      exact ⟨F1, l1, S1, .tup (l1.f _ _ hf) r1⟩
  | _, _, _, _, .lstI h, F, v, S, r => by
    cases r with
    | lst hf hr =>
      obtain ⟨F1, l1, S1, r1⟩ := frzs_ok h S hr
      exact ⟨F1, l1, S1, .lst (l1.f _ _ hf) r1⟩
theorem frzs_ok : ∀ {xs xs' : List Va} {s s' : Sto}, Frzs xs s xs' s' → ∀ {F : Hp} {vs : List V}, Sim K F G as s H → Rls K F as xs vs → ∃ F', Le F as F' as ∧ Sim K F' G as s' H ∧ Rls K F' as xs' vs
  | _, _, _, _, .nil s, F, v, S, r => by
    cases r
    exact ⟨F, Le.refl, S, .nil⟩
  | _, _, _, _, .cons h1 h2, F, v, S, r => by
    cases r with
    | cons q1 q2 =>
      obtain ⟨F1, l1, S1, r1⟩ := frz_ok h1 S q1
      obtain ⟨F2, l2, S2, r2⟩ := frzs_ok h2 S1 (q2.mono l1)
      exact ⟨F2, l1.trans l2, S2, .cons (r1.mono l2) r2⟩
end
end

/-! ### defs -/
/-- how a def's end stands to its mirror's -/
inductive Fin (n : Nat) (raw : Fl) : Rs Va → Prop
  | bad : Fin n raw .bad
  | exc {c : Str} {s0 : Sto} {ε : En} : raw = .exc c ε s0 → WFn n (s0.take n) → Fin n raw (.exc c (s0.take n))
  | ok {v0 v : Va} {s0 s1 : Sto} : (raw = .ret v0 s0 ∨ ∃ ε, raw = .nx ε s0 ∧ v0 = .non) → Frz v0 s0 v s1 → vaB n v → WFn n (s1.take n) → Fin n raw (.ok v (s1.take n))
  | box {v0 : Va} {s0 s1 : Sto} {i : Nat} {o : Ob} : raw = .ret v0 s0 → Frz v0 s0 (.ref i) s1 → n ≤ i → s1[i]? = some o → obB n o → WFn n (s1.take n) → Fin n raw (.ok (.ref n) (s1.take n ++ [o]))
  | keep {v0 : Va} {s0 : Sto} : (raw = .ret v0 s0 ∨ ∃ ε, raw = .nx ε s0 ∧ v0 = .non) → Fin n raw (.ok v0 s0)
def startA (n : Nat) (args : List Va) : En := args.map some ++ List.replicate (n - args.length) none
theorem ER.start {K : PySem.W.Frag} {F : Hp} {as : List Addr} {N : List Str} {args : List Va} {vs : List V} (r : Rls K F as args vs) : ER K F as (startA N.length args) (L2.start N vs) where
  len := by
    unfold startA L2.start
    rw [List.length_append, List.length_append, List.length_map, List.length_map, List.length_replicate, List.length_replicate, r.len]
  get := fun i x h => by
    unfold startA at h
    by_cases hi : i < args.length
    · rw [List.getElem?_append_left (by simpa using hi), List.getElem?_map] at h
      cases e : args[i]? with
      | none =>
        rw [e] at h
        cases h
      | some y =>
        rw [e] at h
        cases h
        obtain ⟨v, h1, h2⟩ := r.get e
        refine ⟨v, ?_, h2⟩
        unfold L2.start
        rw [List.getElem?_append_left (by rw [List.length_map, ← r.len]; exact hi), List.getElem?_map, h1]
        rfl
    · rw [List.getElem?_append_right (by simpa using hi), List.getElem?_replicate] at h
      split at h <;> cases h
section
variable {P : Program} {w : World} {K : PySem.W.Frag} {mg : Str → Option Value} {base : Heap} {CL : Cls0}
theorem take_le {as as' : List Addr} {n : Nat} {F F' : Hp} (l : Le F as F' as') (h : as.length = n) : Le F as F' (as'.take n) := ⟨l.f, fun i p e => by
  have hi := (List.getElem?_eq_some_iff.mp e).1
  rw [List.getElem?_take_of_lt (by omega)]
  exact l.a i p e⟩
theorem fin_ok {W : WX} {E : XK} {F G : Hp} {as : List Addr} {n : Nat} {raw : Fl} {r : Rs Va} {Q : VK} (hW : ∀ c d σ H, E c d H → W c d σ H) (hl : as.length = n) (f : Fin n raw r) (h : Pst K CL E F G as (Rl K) r Q) : PF K CL W F G as raw { nx := fun _ H' => Q .non H', rt := Q } := by
  cases f with
  | bad => exact h.elim
  | exc e w =>
    subst e
    exact fun F' as' σ' H' l S E' => hW _ _ _ _ (h F' (as'.take n) H' (take_le l hl) (S.cut n w))
  | ok e z b w =>
    have go : ∀ F' as' H' v, Le F as F' as' → Sim K F' G as' _ H' → Rl K F' as' _ v → Q v H' := fun F' as' H' v l S r => by
      obtain ⟨F2, l2, S2, r2⟩ := frz_ok z S r
      exact h F2 (as'.take n) H' v (take_le (l.trans l2) hl) (S2.cut n w) (r2.cut n b)
    rcases e with e | ⟨ε, e, e2⟩
    · subst e
      exact go
    · subst e e2
      exact fun F' as' σ' H' l S _ => go F' as' H' .non l S .non
  | box e z hi ho hb w =>
    subst e
    intro F' as' H' v l S r
    obtain ⟨F2, l2, S2, r2⟩ := frz_ok z S r
    cases r2 with
    | @ref _ a ha =>
      have hn : n ≤ as'.length := by
        have := (List.getElem?_eq_some_iff.mp ha).1
        omega
      refine h F2 (as'.take n ++ [a]) H' _ ⟨(l.trans l2).f, fun i p e => ?_⟩ (S2.cutBox n w (by rw [← S2.len]; exact hn) hi ha ho hb) (.ref ?_)
      · have := (take_le (l.trans l2) hl).a i p e
        rw [List.getElem?_append_left (List.getElem?_eq_some_iff.mp this).1]
        exact this
      · have e3 : (as'.take n).length = n := by rw [List.length_take]; omega
        have := List.getElem?_concat_length (l := as'.take n) (a := a)
        rw [e3] at this
        exact this
  | keep e =>
    rcases e with e | ⟨ε, e, e2⟩
    · subst e
      exact h
    · subst e e2
      exact fun F' as' σ' H' l S _ => h F' as' H' .non l S .non
theorem fn_D {x qual : Str} {st : Stmt} {f : Addr} {fd : FuncData} {N ps : List Str} {k : Nat} {b : DS} {F0 : List Va → Sto → Rs Va} (F : Fun K x qual st f fd) (S : FnScope N ps (defScope st))
    (hb : ∀ (cdv : Value) (A : Around) (outer : List Env) (s : Shared) (H : Hp) (E : XK), Okc (cxOf (L2.CX P w) P w K mg base N qual (defScope st) f cdv A outer s H E) (fun cls d _ H => E cls d H) k →
      RSs (cxOf (L2.CX P w) P w K mg base N qual (defScope st) f cdv A outer s H E) CL (fun cls d _ H => E cls d H) (defBody st) b)
    (hfin : ∀ args s, WFn s.length s → vasB s.length args → args.length = ps.length → Fin s.length (b (startA N.length args) s) (F0 args s)) : FnOk P w K mg base (L2.CX P w) (k + 1) f fd ps (spF K CL ps.length F0) := by
  refine F.okX S (fun vs H Q E h => ?_) (fun cdv A outer s H vs Q E hr h => ?_)
  · obtain ⟨_, _, _, _, args, _, r, hl, _⟩ := h
    rw [← r.len]
    exact hl
  · obtain ⟨F1, G, as, st', args, Sm, ra, hl, hp⟩ := h
    refine ⟨_, hb cdv A outer s H E ⟨rfl, takes_of rfl rfl rfl rfl, passes_of rfl, hr, S.nd⟩, F1, G, as, _, st', Sm, ER.start ra, ?_⟩
    exact fin_ok (fun _ _ _ _ h => h) Sm.len (hfin args st' Sm.wf (by rw [← Sm.len]; exact ra.bnd) hl) hp
end

/-! ### raise -/
def sRaise (c : Str) : DS := fun ε s => .exc c ε s
theorem rs_raise {X : Cx} {CL : Cls0} {W : WX} {k : Nat} {e : Expr} {C : Addr} {c : Str} {pos : Pos} (O : Okc X W k) (hC : CL c = .ref C) (he : PMk X e (fun _ H Q => Q (.ref C) none H)) : RS X CL W (.Raise (some e) none pos) (sRaise c) :=
  ps_weak (ps_raise O.calm O.tk he) fun D σ H h => by
    obtain ⟨F, G, as, ε, s, S, E, h⟩ := h
    have := h F as σ H Le.refl S E
    rw [hC] at this
    exact this

/-! ### while -/
def wl (c : DT) (b : DS) : Nat → DS
  | 0, _, _ => .bad
  | n + 1, ε, s => (c ε s).fl ε fun t s1 => if t = true then (match b ε s1 with
    | .nx ε' s' => wl c b n ε' s'
    | .ct ε' s' => wl c b n ε' s'
    | .brk ε' s' => .nx ε' s'
    | o => o) else .nx ε s1
open Classical in
noncomputable def sWhile (c : DT) (b : DS) : DS := fun ε s => if h : ∃ n, wl c b n ε s ≠ .bad then wl c b (Classical.choose h) ε s else .bad
theorem wl_more (c : DT) (b : DS) : ∀ n ε s, wl c b n ε s ≠ .bad → wl c b (n + 1) ε s = wl c b n ε s
  | 0, ε, s, h => absurd rfl h
  | n + 1, ε, s, h => by
    unfold wl at h ⊢
    cases q : c ε s with
    | bad =>
      rw [q] at h
      exact absurd rfl h
    | exc c' s1 => rfl
    | ok t s1 =>
      rw [q] at h
      dsimp only [Rs.fl] at h ⊢
      cases t with
      | false => rfl
      | true =>
        rw [if_pos rfl] at h ⊢
        rw [if_pos rfl]
        cases q2 : b ε s1 with
        | nx ε2 s2 =>
          rw [q2] at h
          exact wl_more c b n ε2 s2 h
        | ct ε2 s2 =>
          rw [q2] at h
          exact wl_more c b n ε2 s2 h
        | brk ε2 s2 => rfl
        | ret x s2 => rfl
        | exc c2 ε2 s2 => rfl
        | bad => rfl
theorem wl_le {c : DT} {b : DS} {ε : En} {s : Sto} {n : Nat} (h : wl c b n ε s ≠ .bad) : ∀ k, wl c b (n + k) ε s = wl c b n ε s
  | 0 => rfl
  | k + 1 => by
    have ih := wl_le h k
    have := wl_more c b (n + k) ε s (by rw [ih]; exact h)
    rw [← Nat.add_assoc, this, ih]
theorem sWhile_eq {c : DT} {b : DS} {ε : En} {s : Sto} {n : Nat} {r : Fl} (h : wl c b n ε s = r) (hr : r ≠ .bad) : sWhile c b ε s = r := by
  have ex : ∃ n, wl c b n ε s ≠ .bad := ⟨n, by rw [h]; exact hr⟩
  unfold sWhile
  rw [dif_pos ex]
  have h2 := Classical.choose_spec ex
  rcases Nat.le_total n (Classical.choose ex) with z | z
  · obtain ⟨k, e⟩ := Nat.exists_eq_add_of_le z
    rw [e, wl_le (by rw [h]; exact hr), h]
  · obtain ⟨k, e⟩ := Nat.exists_eq_add_of_le z
    rw [← wl_le h2 k, ← e, h]
section
variable {X : Cx} {CL : Cls0} {W : WX} {k : Nat} {c : Expr} {body : List Stmt} {dc : DT} {db : DS} {pos : Pos}
theorem rs_while (O : Okc X W k) (hc : RT X CL W c dc) (hb : RSs X CL W body db) : RS X CL W (.While c body [] pos) (sWhile dc db) := ps_weak (ps_while O.hp hc hb) fun D σ H h => by
  obtain ⟨F, G, as, ε, s, S, E, h⟩ := h
  unfold sWhile at h
  split at h
  case isFalse => exact h.elim
  case isTrue ex =>
  generalize Classical.choose ex = n0 at h
  refine ⟨fun m σ H => ∃ F' as' ε' s', Le F as F' as' ∧ Sim X.K F' G as' s' H ∧ ER X.K F' as' ε' σ ∧ PF X.K CL W F' G as' (wl dc db m ε' s') D, ⟨n0, F, as, ε, s, Le.refl, S, E, h⟩, ?_⟩
  rintro m σ1 H1 ⟨F1, as1, ε1, s1, l1, S1, E1, h1⟩
  cases m with
  | zero => exact h1.elim
  | succ m =>
    unfold wl at h1
    refine ⟨F1, G, as1, ε1, s1, S1, E1, Pst.imp (PF.bind E1 h1) fun t H2 ⟨F2, as2, s2, y, l2, S2, rx, h2⟩ => ?_⟩
    subst rx
    cases y with
    | false => exact iteF (h2 F2 as2 σ1 H2 Le.refl S2 (E1.mono l2))
    | true =>
      rw [if_pos rfl] at h2 ⊢
      refine ⟨fun σ3 H3 => ∃ F' as' ε' s', Le F as F' as' ∧ Sim X.K F' G as' s' H3 ∧ ER X.K F' as' ε' σ3 ∧ PF X.K CL W F' G as' (wl dc db m ε' s') D, fun σ3 H3 p3 => ⟨m, Nat.lt_succ_self m, p3⟩, F2, G, as2, ε1, s2, S2, E1.mono l2, ?_⟩
      cases q : db ε1 s2 with
      | nx ε3 s3 =>
        rw [q] at h2
        exact fun F4 as4 σ4 H4 l4 S4 E4 => ⟨F4, as4, ε3, s3, (l1.trans l2).trans l4, S4, E4, PF.le l4 h2⟩
      | ct ε3 s3 =>
        rw [q] at h2
        exact fun F4 as4 σ4 H4 l4 S4 E4 => ⟨F4, as4, ε3, s3, (l1.trans l2).trans l4, S4, E4, PF.le l4 h2⟩
      | brk ε3 s3 =>
        rw [q] at h2
        exact h2
      | ret y s3 =>
        rw [q] at h2
        exact h2
      | exc c2 ε3 s3 =>
        rw [q] at h2
        exact h2
      | bad =>
        rw [q] at h2
        exact h2
end

/-! ### the law -/
theorem law_sp {K : PySem.W.Frag} {CL : Cls0} {F0 : List Va → Sto → Rs Va} {H : Hp} {a : Addr} {ns : List Int} (hS : SqL K H a (ns.map V.int)) (h : F0 [.ext (ns.map .int)] [] = .ok (.bl true) []) :
    spF K CL 1 F0 [.ref a] H (fun v _ => v = .bl true) fun _ _ _ => False := by
  refine ⟨H, fun _ => none, [], [], [.ext (ns.map .int)], ⟨fun _ _ h => h, fun _ _ h => (nomatch h), rfl, fun _ h => (nomatch h), List.nodup_nil, fun i a o h => by simp at h⟩, .cons (.ext (.inl hS) Rls.ofInts) .nil, rfl, ?_⟩
  rw [h]
  intro F' as' H' v l S r
  cases r
  rfl
theorem law_cx {P : Program} {w : World} {H : Hp} {s : Shared} {e : Value} {s' : Shared} (h : L2.CX P w [] H s (fun _ _ _ => False) e s') : False := by
  obtain ⟨_, _, _, _, _, _, _, _, _, _, _, _, z⟩ := h
  exact z.elim
end Dn

set_option Elab.async false
set_option linter.all false
set_option maxRecDepth 100000
set_option maxHeartbeats 1000000
/-! Dn, part G: the text's defs, calls by name; simp sets for evaluation. -/
namespace Dn
open PySem PySem.Spec PyProof.Rows L2

/-- a def of the text -/
def Txt (K : PySem.W.Frag) (mg : Str → Option Value) (x : Str) (st : Stmt) (ps : List Str) : Prop := ∃ f fd, Fun K x x st f fd ∧ mg x = some (.ref f) ∧ Binds K fd ps []
/-- a def that may be called -/
def Cal (P : Program) (w : World) (K : PySem.W.Frag) (mg : Str → Option Value) (base : Heap) (CL : Cls0) (x : Str) (ps : List Str) (k : Nat) (F0 : List Va → Sto → Rs Va) : Prop :=
  ∃ f fd, FnOk P w K mg base (L2.CX P w) k f fd ps (spF K CL ps.length F0) ∧ mg x = some (.ref f) ∧ PySem.W.keepIn K (.ref f) = true ∧ Binds K fd ps []
section
variable {P : Program} {w : World} {K : PySem.W.Frag} {mg : Str → Option Value} {base : Heap} {CL : Cls0}
theorem txt_mk {x : Str} {st : Stmt} {ps : List Str} {f : Addr} {oc : Value} {od an : Option Addr} {osl : Array (Option Value)} {kV doc pm cdv ct : Value} (hm : mg x = some (.ref f)) (l : K.lookup f = some ⟨oc, od, .func (PySem.W.fnOf x x (defArgs st) (defBody st) (defScope st) .none kV doc pm an cdv ct), osl⟩)
    (c : PySem.W.codeIn K cdv x = true) (k : PySem.W.keepIn K (.ref f) = true)
    (b : ∀ (kV doc pm : Value) (an : Option Addr) (cdv ct : Value) (us : List Value), us.length = ps.length → bindArgs (PySem.W.fnOf x x (defArgs st) (defBody st) (defScope st) .none kV doc pm an cdv ct) ⟨us, []⟩ = pure (ps.zip us)) : Txt K mg x st ps :=
  ⟨f, _, fun_mk l c k, hm, (fun_mk l c k).binds b⟩
theorem cal_D {x : Str} {st : Stmt} {N ps : List Str} {k : Nat} {b : DS} {F0 : List Va → Sto → Rs Va} (T : Txt K mg x st ps) (S : FnScope N ps (defScope st))
    (hb : ∀ (f : Addr) (cdv : Value) (A : Around) (outer : List Env) (s : Shared) (H : Hp) (E : XK), Okc (cxOf (L2.CX P w) P w K mg base N x (defScope st) f cdv A outer s H E) (fun cls d _ H => E cls d H) k →
      RSs (cxOf (L2.CX P w) P w K mg base N x (defScope st) f cdv A outer s H E) CL (fun cls d _ H => E cls d H) (defBody st) b)
    (hfin : ∀ args s, WFn s.length s → vasB s.length args → args.length = ps.length → Fin s.length (b (startA N.length args) s) (F0 args s)) : Cal P w K mg base CL x ps (k + 1) F0 := by
  obtain ⟨f, fd, F, hm, hbn⟩ := T
  exact ⟨f, fd, fn_D F S (hb f) hfin, hm, F.kp, hbn⟩
theorem Cal.mono {x : Str} {ps : List Str} {j k : Nat} {F0 : List Va → Sto → Rs Va} (C : Cal P w K mg base CL x ps j F0) (h : j ≤ k) : Cal P w K mg base CL x ps k F0 := by
  obtain ⟨f, fd, F, r⟩ := C
  exact ⟨f, fd, F.mono h, r⟩
/-- another mirror, which answers less -/
theorem Cal.imp {x : Str} {ps : List Str} {k : Nat} {F0 F1 : List Va → Sto → Rs Va} (C : Cal P w K mg base CL x ps k F0) (h : ∀ args s, WFn s.length s → vasB s.length args → args.length = ps.length → F1 args s ≠ .bad → F0 args s = F1 args s) : Cal P w K mg base CL x ps k F1 := by
  obtain ⟨f, fd, F, r⟩ := C
  refine ⟨f, fd, F.imp fun vs H Q E q => ?_, r⟩
  obtain ⟨F2, G, as, s, args, S, ra, hl, hp⟩ := q
  refine ⟨F2, G, as, s, args, S, ra, hl, ?_⟩
  rw [h args s S.wf (by rw [← S.len]; exact ra.bnd) hl (fun z => by rw [z] at hp; exact hp)]
  exact hp
end
section
variable {X : Cx} {CL : Cls0} {W : WX} {k j : Nat} {ps : List Str} {F0 : List Va → Sto → Rs Va} {x : Str} {p pos : Pos} {e : Expr} {es : List Expr} {dr : DA}
theorem re_fn (O : Okc X W j) (C : Cal X.prog X.w X.K X.mg X.base CL x ps k F0) (hk : k ≤ j) (ha : RA X CL W (e :: es) dr) (hg : Gl X x := by rfl)
    (hdb : (x == ("__debug__" : Str)) = false := by decide) (he : starEach (e :: es) X.env = (false, eval e X.env) :: starEach es X.env := by rfl) (hpl : (backTo pos (starEach es X.env)).any (·.1) = false := by rfl) :
    RE X CL W (.Call (.Name x p) (e :: es) [] pos) (dApp (gFn ps.length F0) dr) := by
  obtain ⟨f, fd, F, hm, hkp, hb⟩ := C
  exact re_call O F hk hm hkp hb ha hg hdb he hpl
end
end Dn

set_option Elab.async false
set_option linter.all false
set_option maxRecDepth 100000
set_option maxHeartbeats 1000000
/-! Dn, part I: more built-in calls, methods of lists, chains of comparisons. -/
namespace Dn
open PySem PySem.Spec PyProof.Rows L2
def blsOf : List Va → Option (List Bool)
  | [] => some []
  | .bl i :: xs => (blsOf xs).map (i :: ·)
  | _ :: _ => none
theorem blsOf_eq : ∀ {xs : List Va} {ns : List Bool}, blsOf xs = some ns → xs = ns.map .bl
  | [], ns, h => by
    cases h
    rfl
  | x :: xs, ns, h => by
    cases x <;> simp [blsOf] at h
    obtain ⟨ms, h1, h2⟩ := h
    rw [← h2, blsOf_eq h1]
    rfl
theorem blsOf_map (ns : List Bool) : blsOf (ns.map .bl) = some ns := by
  induction ns with
  | nil => rfl
  | cons n ns ih => rw [List.map_cons, blsOf, ih]; rfl
def intsOf : List Va → Option (List Int)
  | [] => some []
  | .int i :: xs => (intsOf xs).map (i :: ·)
  | _ :: _ => none
theorem intsOf_map (ns : List Int) : intsOf (ns.map .int) = some ns := by
  induction ns with
  | nil => rfl
  | cons n ns ih => rw [List.map_cons, intsOf, ih]; rfl
theorem intsOf_eq : ∀ {xs : List Va} {ns : List Int}, intsOf xs = some ns → xs = ns.map .int
  | [], ns, h => by
    cases h
    rfl
  | x :: xs, ns, h => by
    cases x <;> simp [intsOf] at h
    obtain ⟨ms, h1, h2⟩ := h
    rw [← h2, intsOf_eq h1]
    rfl
section
variable {K : PySem.W.Frag}
def gAll (xs : List Va) (s : Sto) : Rs Va := match xs with
  | [x] => match seqL x s with
    | some ys => match blsOf ys with
      | some bs => .ok (.bl (bs.all id)) s
      | none => .bad
    | none => .bad
  | _ => .bad
def gAny (xs : List Va) (s : Sto) : Rs Va := match xs with
  | [x] => match seqL x s with
    | some ys => match blsOf ys with
      | some bs => .ok (.bl (bs.any id)) s
      | none => .bad
    | none => .bad
  | _ => .bad
def gSum (xs : List Va) (s : Sto) : Rs Va := match xs with
  | [x] => match seqL x s with
    | some ys => match intsOf ys with
      | some ns => .ok (.int ns.sum) s
      | none => .bad
    | none => .bad
  | _ => .bad
theorem opN_all : OpN K (rAll K) gAll := by
  intro CL W F G as s H x v Q S rx q
  unfold gAll at q
  split at q
  · obtain ⟨v, rfl, r⟩ := Rls1 rx
    split at q
    · rename_i ys e
      obtain ⟨a, vs, rfl, h2, h3⟩ := seqL_ok S r e
      split at q
      · rename_i bs e2
        rw [blsOf_eq e2] at h3
        rw [h3.bls] at h2
        exact ⟨a, bs, rfl, SqL.of h2, q.okv S (.bl _)⟩
      · exact q.elim
    · exact q.elim
  · exact q.elim
theorem opN_any : OpN K (rAny K) gAny := by
  intro CL W F G as s H x v Q S rx q
  unfold gAny at q
  split at q
  · obtain ⟨v, rfl, r⟩ := Rls1 rx
    split at q
    · rename_i ys e
      obtain ⟨a, vs, rfl, h2, h3⟩ := seqL_ok S r e
      split at q
      · rename_i bs e2
        rw [blsOf_eq e2] at h3
        rw [h3.bls] at h2
        exact ⟨a, bs, rfl, SqL.of h2, q.okv S (.bl _)⟩
      · exact q.elim
    · exact q.elim
  · exact q.elim
theorem opN_sum : OpN K (rSum K) gSum := by
  intro CL W F G as s H x v Q S rx q
  unfold gSum at q
  split at q
  · obtain ⟨v, rfl, r⟩ := Rls1 rx
    split at q
    · rename_i ys e
      obtain ⟨a, vs, rfl, h2, h3⟩ := seqL_ok S r e
      split at q
      · rename_i bs e2
        rw [intsOf_eq e2] at h3
        rw [h3.ints] at h2
        exact ⟨a, bs, rfl, SqL.of h2, q.okv S (.int _)⟩
      · exact q.elim
    · exact q.elim
  · exact q.elim
end
section
variable {X : Cx} {CL : Cls0} {W : WX} {k : Nat} {x : Str} {p pos apos p2 p1 p3 : Pos} {e e2 o a b c : Expr} {es : List Expr} {dr da : DA} {de d1 d2 d3 : DE}
theorem re_all (O : Okc X W k) (hm : X.mg "all" = none) (ha : RA X CL W [e] dr) (hG : Gl X "all" := by rfl) (he : starEach [e] X.env = (false, eval e X.env) :: starEach [] X.env := by rfl) : RE X CL W (.Call (.Name "all" p) [e] [] pos) (dApp gAll dr) := re_callB (cr_all O.calm) opN_all hG hm (by decide +kernel) ha (he := he)
theorem re_any (O : Okc X W k) (hm : X.mg "any" = none) (ha : RA X CL W [e] dr) (hG : Gl X "any" := by rfl) (he : starEach [e] X.env = (false, eval e X.env) :: starEach [] X.env := by rfl) : RE X CL W (.Call (.Name "any" p) [e] [] pos) (dApp gAny dr) := re_callB (cr_any O.calm) opN_any hG hm (by decide +kernel) ha (he := he)
theorem re_sumc (O : Okc X W k) (hm : X.mg "sum" = none) (ha : RA X CL W [e] dr) (hG : Gl X "sum" := by rfl) (he : starEach [e] X.env = (false, eval e X.env) :: starEach [] X.env := by rfl) : RE X CL W (.Call (.Name "sum" p) [e] [] pos) (dApp gSum dr) := re_callB (cr_sum O.calm) opN_sum hG hm (by decide +kernel) ha (he := he)
/-- list(range(n)), list(range(i, j)) -/
noncomputable def gRg (bx : Bool) (i j : Int) (s : Sto) : Rs Va := if inR i ∧ inR j ∧ leq (j - i).toNat 100000 then mkL bx (rgA i j) s else .bad
noncomputable def dLstRg1 (bx : Bool) (de : DE) : DE := fun ε s => (de ε s).bind fun x s1 => match x with
  | .int j => gRg bx 0 j s1
  | _ => .bad
noncomputable def dLstRg2 (bx : Bool) (d1 d2 : DE) : DE := fun ε s => (d1 ε s).bind fun x s1 => (d2 ε s1).bind fun y s2 => match x, y with
  | .int i, .int j => gRg bx i j s2
  | _, _ => .bad
theorem rgA_rl {K : PySem.W.Frag} {F : Hp} {as : List Addr} {i j : Int} : Rls K F as (rgA i j) (rgV i j) := by
  unfold rgA rgV
  generalize List.range (j - i).toNat = l
  induction l with
  | nil => exact .nil
  | cons n l ih => exact .cons (.int _) ih
theorem gRg_ok {K : PySem.W.Frag} {W : Value → Option Addr → Hp → Prop} {F G H : Hp} {as : List Addr} {s : Sto} {bx : Bool} {i j : Int} {Q : VK} (S : Sim K F G as s H) (h : Pst K CL W F G as (Rl K) (gRg bx i j s) Q) : RgOk i j ∧ ∀ q, H q = none → Q (.ref q) (upd H q (.lst (rgV i j))) := by
  unfold gRg at h
  split at h
  · rename_i hc
    refine ⟨?_, mkL_ok S rgA_rl h⟩
    unfold inR leq at hc
    unfold RgOk
    omega
  · exact h.elim
theorem re_lstRg1 (O : Okc X W k) (bx : Bool) (hm : X.mg "list" = none) (hm2 : X.mg "range" = none) (ha : RE X CL W a d1) (hG : Gl X "list" := by rfl) (hG2 : Gl X "range" := by rfl)
    (na : starEach [a] X.env = (false, eval a X.env) :: starEach [] X.env := by rfl) (na2 : starEach [.Call (.Name "range" p2) [a] [] p3] X.env = (false, eval (.Call (.Name "range" p2) [a] [] p3) X.env) :: starEach [] X.env := by rfl) :
    RE X CL W (.Call (.Name "list" p) [.Call (.Name "range" p2) [a] [] p3] [] pos) (dLstRg1 bx d1) :=
  pe_weak (pe_listRg O.calm hG hm (prg_1 hG2 hm2 ha na) na2) fun σ H Q h => by
    obtain ⟨F, G, as, ε, s, S, E, h⟩ := h
    refine ⟨F, G, as, ε, s, S, E, Pst.imp (Pst.bind h) fun v H1 ⟨F1, as1, s1, y, l, S1, rx, h1⟩ => ?_⟩
    split at h1
    · cases rx
      exact ⟨_, rfl, gRg_ok S1 h1⟩
    · exact h1.elim
theorem re_lstRg2 (O : Okc X W k) (bx : Bool) (hm : X.mg "list" = none) (hm2 : X.mg "range" = none) (ha : RE X CL W a d1) (hb : RE X CL W b d2) (hG : Gl X "list" := by rfl) (hG2 : Gl X "range" := by rfl)
    (na : starEach [a, b] X.env = (false, eval a X.env) :: starEach [b] X.env := by rfl) (nb : starEach [b] X.env = (false, eval b X.env) :: starEach [] X.env := by rfl) (hp : (backTo p3 (starEach [b] X.env)).any (·.1) = false := by rfl) (na2 : starEach [.Call (.Name "range" p2) [a, b] [] p3] X.env = (false, eval (.Call (.Name "range" p2) [a, b] [] p3) X.env) :: starEach [] X.env := by rfl) :
    RE X CL W (.Call (.Name "list" p) [.Call (.Name "range" p2) [a, b] [] p3] [] pos) (dLstRg2 bx d1 d2) :=
  pe_weak (pe_listRg O.calm hG hm (prg_2 hG2 hm2 ha hb na nb hp) na2) fun σ H Q h => by
    obtain ⟨F, G, as, ε, s, S, E, h⟩ := h
    refine ⟨F, G, as, ε, s, S, E, Pst.imp (Pst.bind h) fun v H1 ⟨F1, as1, s1, y, l, S1, rx, h1⟩ => ?_⟩
    refine ⟨F1, G, as1, ε, s1, S1, E.mono l, Pst.imp (Pst.bind h1) fun v2 H2 ⟨F2, as2, s2, y2, l2, S2, rx2, h2⟩ => ?_⟩
    split at h2
    · cases rx
      cases rx2
      exact ⟨_, _, rfl, rfl, gRg_ok S2 h2⟩
    · exact h2.elim

/-! ### methods of lists -/
def Mt1 (K : PySem.W.Frag) (r : V → List V → Hp → VK → Prop) (g : Va → List Va → Sto → Rs Va) : Prop := ∀ (CL : Cls0) (W : Value → Option Addr → Hp → Prop) F G as s H x v xs vs Q, Sim K F G as s H → Rl K F as x v → Rls K F as xs vs → Pst K CL W F G as (Rl K) (g x xs s) Q → r v vs H Q
def isL (x : Va) (s : Sto) : Bool := (seqL x s).isSome
def dMt (g : Va → List Va → Sto → Rs Va) (do_ : DE) (da : DA) : DE := fun ε s => (do_ ε s).bind fun x s1 => if isL x s1 = true then (evA da ε s1).bind fun xs s2 => g x xs s2 else .bad
theorem isL_ok {K : PySem.W.Frag} {F G H : Hp} {as : List Addr} {s : Sto} {x : Va} {v : V} (S : Sim K F G as s H) (r : Rl K F as x v) (h : isL x s = true) : tyV K "list" v H := by
  unfold isL at h
  obtain ⟨ys, e⟩ := Option.isSome_iff_exists.mp h
  obtain ⟨a, vs, rfl, h2, _⟩ := seqL_ok S r e
  exact .inl ⟨rfl, vs, SqL.of h2⟩
theorem re_mt {name : Str} {id : String} {r : V → List V → Hp → VK → Prop} {g : Va → List Va → Sto → Rs Va} (slot : Slot "list" name id) (hty : typeOf (.builtin id) = pure (.type "method_descriptor")) (hm : MtR X id r) (hg : Mt1 X.K r g) (ho : RE X CL W o de) (ha : RA X CL W (e :: es) da)
    (hbase : attributeBase o name X.env (eval o X.env) = eval o X.env := by rfl)
    (hfew : ((backTo pos (starEach (e :: es) X.env)).all (fun x => !x.1) && (backToKw pos (keywordEach [] X.env)).all (fun x => x.1.isSome)
      && decide ((e :: es).length + ([] : List Keyword).length + (if ([] : List Keyword).isEmpty then 0 else 1) < 30)) = true := by rfl)
    (hline : (apos.endLine == pos.line) = true := by rfl) (hs : starEach (e :: es) X.env = (false, eval e X.env) :: starEach es X.env := by rfl) (hplain : (backTo pos (starEach es X.env)).any (·.1) = false := by rfl) :
    RE X CL W (.Call (.Attribute o name apos) (e :: es) [] pos) (dMt g de da) :=
  pe_weak (pe_bm PySem.F.plainAttrs_list slot hty hm ho ha hbase hfew hline hs hplain) fun σ H Q h => by
    obtain ⟨F, G, as, ε, s, S, E, h⟩ := h
    refine ⟨F, G, as, ε, s, S, E, Pst.imp (Pst.bind h) fun v H1 ⟨F1, as1, s1, y, l, S1, rx, h1⟩ => ?_⟩
    split at h1
    · rename_i hL
      refine ⟨isL_ok S1 rx hL, F1, G, as1, ε, s1, S1, E.mono l, Pst.imp (Pst.bind h1) fun vs H2 ⟨F2, as2, s2, ys, l2, S2, rs, h2⟩ => ?_⟩
      exact hg _ _ _ _ _ _ _ _ _ _ _ _ S2 (rx.mono l2) rs h2
    · exact h1.elim
def dMt0 (g : Va → Sto → Rs Va) (do_ : DE) : DE := fun ε s => (do_ ε s).bind fun x s1 => if isL x s1 = true then g x s1 else .bad
theorem re_mt0 {name : Str} {id : String} {r : V → List V → Hp → VK → Prop} {g : Va → Sto → Rs Va} (slot : Slot "list" name id) (hty : typeOf (.builtin id) = pure (.type "method_descriptor")) (hm : MtR X id r) (hg : Op1 X.K (fun v H Q => r v [] H Q) g) (ho : RE X CL W o de)
    (hbase : attributeBase o name X.env (eval o X.env) = eval o X.env := by rfl) (hline : (apos.endLine == pos.line) = true := by rfl) :
    RE X CL W (.Call (.Attribute o name apos) [] [] pos) (dMt0 g de) :=
  pe_weak (pe_bm0 PySem.F.plainAttrs_list slot hty hm ho hbase hline) fun σ H Q h => by
    obtain ⟨F, G, as, ε, s, S, E, h⟩ := h
    refine ⟨F, G, as, ε, s, S, E, Pst.imp (Pst.bind h) fun v H1 ⟨F1, as1, s1, y, l, S1, rx, h1⟩ => ?_⟩
    split at h1
    · rename_i hL
      exact ⟨isL_ok S1 rx hL, hg _ _ _ _ _ _ _ _ _ _ S1 rx h1⟩
    · exact h1.elim
/-- an object of the store that is a list -/
theorem ref_list {K : PySem.W.Frag} {F G H : Hp} {as : List Addr} {s : Sto} {i : Nat} {xs : List Va} {v : V} (S : Sim K F G as s H) (r : Rl K F as (.ref i) v) (e : s[i]? = some (.lst xs)) : ∃ a vs, v = .ref a ∧ as[i]? = some a ∧ F a = none ∧ H a = some (.lst vs) ∧ Rls K F as xs vs := by
  cases r with
  | ref ha =>
    obtain ⟨hf, vs, h1, h2⟩ := S.ref ha e
    exact ⟨_, vs, rfl, ha, hf, h1, h2⟩
noncomputable def gAppend (x : Va) (vs : List Va) (s : Sto) : Rs Va := match x, vs with
  | .ref i, [y] => match s[i]? with
    | some (.lst xs) => if leq xs.length 1000000 then .ok .non (s.set i (.lst (xs ++ [y]))) else .bad
    | _ => .bad
  | _, _ => .bad
theorem lt_line {n : Nat} (h : n ≤ 1000000) : n < sizeLine := Nat.lt_of_le_of_lt h (by decide)
theorem mt1_append {K : PySem.W.Frag} : Mt1 K rAppend gAppend := by
  intro CL W F G as s H x v xs vs Q S rx rs q
  unfold gAppend at q
  split at q
  · obtain ⟨w, rfl, ry⟩ := Rls1 rs
    split at q
    · rename_i xs e
      obtain ⟨a, us, rfl, ha, hf, h1, h2⟩ := ref_list S rx e
      split at q
      · rename_i hc
        refine ⟨a, us, w, rfl, rfl, h1, lt_line (by rw [← h2.len]; exact hc), ?_⟩
        exact q.okv (S.change ha hf ⟨hf, _, upd_same, h2.app (.cons ry .nil)⟩) .non
      · exact q.elim
    · exact q.elim
  · exact q.elim
theorem re_mAppend (ho : RE X CL W o de) (ha : RA X CL W [e] da) (hbase : attributeBase o "append" X.env (eval o X.env) = eval o X.env := by rfl)
    (hfew : ((backTo pos (starEach [e] X.env)).all (fun x => !x.1) && (backToKw pos (keywordEach [] X.env)).all (fun x => x.1.isSome) && decide ([e].length + ([] : List Keyword).length + (if ([] : List Keyword).isEmpty then 0 else 1) < 30)) = true := by rfl)
    (hline : (apos.endLine == pos.line) = true := by rfl) (hs : starEach [e] X.env = (false, eval e X.env) :: starEach [] X.env := by rfl) (hplain : (backTo pos (starEach [] X.env)).any (·.1) = false := by rfl) :
    RE X CL W (.Call (.Attribute o "append" apos) [e] [] pos) (dMt gAppend de da) := re_mt PySem.F.slot_list_append PySem.F.type_list_append mt_append mt1_append ho ha hbase hfew hline hs hplain
noncomputable def gExtend (x : Va) (vs : List Va) (s : Sto) : Rs Va := match x, vs with
  | .ref i, [y] => match s[i]?, seqL y s with
    | some (.lst xs), some ys => if leq (xs.length + ys.length) 1000000 then .ok .non (s.set i (.lst (xs ++ ys))) else .bad
    | _, _ => .bad
  | _, _ => .bad
theorem mt1_extend {K : PySem.W.Frag} : Mt1 K rExtend gExtend := by
  intro CL W F G as s H x v xs vs Q S rx rs q
  unfold gExtend at q
  split at q
  · obtain ⟨w, rfl, ry⟩ := Rls1 rs
    split at q
    · rename_i xs ys e e2
      obtain ⟨a, us, rfl, ha, hf, h1, h2⟩ := ref_list S rx e
      obtain ⟨b, ws, rfl, h3, h4⟩ := seqL_ok S ry e2
      split at q
      · rename_i hc
        refine ⟨a, b, us, ws, rfl, rfl, h1, h3, Nat.le_of_lt (lt_line (by rw [← h2.len, ← h4.len]; exact hc)), ?_⟩
        exact q.okv (S.change ha hf ⟨hf, _, upd_same, h2.app h4⟩) .non
      · exact q.elim
    · exact q.elim
  · exact q.elim
theorem re_mExtend (ho : RE X CL W o de) (ha : RA X CL W [e] da) (hbase : attributeBase o "extend" X.env (eval o X.env) = eval o X.env := by rfl)
    (hfew : ((backTo pos (starEach [e] X.env)).all (fun x => !x.1) && (backToKw pos (keywordEach [] X.env)).all (fun x => x.1.isSome) && decide ([e].length + ([] : List Keyword).length + (if ([] : List Keyword).isEmpty then 0 else 1) < 30)) = true := by rfl)
    (hline : (apos.endLine == pos.line) = true := by rfl) (hs : starEach [e] X.env = (false, eval e X.env) :: starEach [] X.env := by rfl) (hplain : (backTo pos (starEach [] X.env)).any (·.1) = false := by rfl) :
    RE X CL W (.Call (.Attribute o "extend" apos) [e] [] pos) (dMt gExtend de da) := re_mt PySem.F.slot_list_extend PySem.F.type_list_extend mt_extend mt1_extend ho ha hbase hfew hline hs hplain
def gPop (x : Va) (s : Sto) : Rs Va := match x with
  | .ref i => match s[i]? with
    | some (.lst xs) => match xs[xs.length - 1]? with
      | some y => .ok y (s.set i (.lst xs.dropLast))
      | none => .bad
    | _ => .bad
  | _ => .bad
theorem op1_pop {K : PySem.W.Frag} : Op1 K (fun v H Q => rPop v [] H Q) gPop := by
  intro CL W F G as s H x v Q S rx q
  unfold gPop at q
  split at q
  · split at q
    · rename_i xs e
      obtain ⟨a, us, rfl, ha, hf, h1, h2⟩ := ref_list S rx e
      split at q
      · rename_i y e2
        obtain ⟨w, h3, h4⟩ := h2.get e2
        refine ⟨a, us, w, rfl, rfl, h1, by rw [← h2.len]; exact h3, ?_⟩
        exact q.okv (S.change ha hf ⟨hf, _, upd_same, h2.dropLast⟩) h4
      · exact q.elim
    · exact q.elim
  · exact q.elim
theorem re_mPop (ho : RE X CL W o de) (hbase : attributeBase o "pop" X.env (eval o X.env) = eval o X.env := by rfl) (hline : (apos.endLine == pos.line) = true := by rfl) : RE X CL W (.Call (.Attribute o "pop" apos) [] [] pos) (dMt0 gPop de) := re_mt0 PySem.F.slot_list_pop PySem.F.type_list_pop mt_pop op1_pop ho hbase hline
def gReverse (x : Va) (s : Sto) : Rs Va := match x with
  | .ref i => match s[i]? with
    | some (.lst xs) => .ok .non (s.set i (.lst xs.reverse))
    | _ => .bad
  | _ => .bad
theorem op1_reverse {K : PySem.W.Frag} : Op1 K (fun v H Q => rReverse v [] H Q) gReverse := by
  intro CL W F G as s H x v Q S rx q
  unfold gReverse at q
  split at q
  · split at q
    · rename_i xs e
      obtain ⟨a, us, rfl, ha, hf, h1, h2⟩ := ref_list S rx e
      exact ⟨a, us, rfl, rfl, h1, q.okv (S.change ha hf ⟨hf, _, upd_same, h2.reverse⟩) .non⟩
    · exact q.elim
  · exact q.elim
theorem re_mReverse (ho : RE X CL W o de) (hbase : attributeBase o "reverse" X.env (eval o X.env) = eval o X.env := by rfl) (hline : (apos.endLine == pos.line) = true := by rfl) : RE X CL W (.Call (.Attribute o "reverse" apos) [] [] pos) (dMt0 gReverse de) := re_mt0 PySem.F.slot_list_reverse PySem.F.type_list_reverse mt_reverse op1_reverse ho hbase hline

/-! ### chains of comparisons of ints -/
def dCh (g g' : Va → Va → Sto → Rs Va) (da db dc : DE) : DE := fun ε s => (da ε s).bind fun x s1 => (db ε s1).bind fun y s2 => (g x y s2).bind fun z s3 => match z with
  | .bl true => (dc ε s3).bind fun w s4 => g' y w s4
  | .bl false => .ok (.bl false) s3
  | _ => .bad
theorem tD_ch {K : PySem.W.Frag} {σ : L2.St} {H : Hp} {Q : VK} {r r' : R2} {g g' : Va → Va → Sto → Rs Va} (hg : Op2 K r g) (hg' : Op2 K r' g') (h : tD K CL W (dCh g g' d1 d2 d3) σ H Q) : tChain r r' (tD K CL W d1) (tD K CL W d2) (tD K CL W d3) σ H Q := by
  obtain ⟨F, G, as, ε, s, S, E, h⟩ := h
  refine ⟨F, G, as, ε, s, S, E, Pst.imp (Pst.bind h) fun v H1 ⟨F1, as1, s1, x, l, S1, rx, h1⟩ => ?_⟩
  refine ⟨F1, G, as1, ε, s1, S1, E.mono l, Pst.imp (Pst.bind h1) fun u H2 ⟨F2, as2, s2, y, l2, S2, ry, h2⟩ => ?_⟩
  refine hg CL (fun c d H => W c d σ H) F2 G as2 s2 H2 x y v u _ S2 (rx.mono l2) ry (Pst.imp (Pst.bind h2) fun b H3 ⟨F3, as3, s3, z, l3, S3, rz, h3⟩ => ?_)
  split at h3
  · cases rz
    refine ⟨true, rfl, iteT ⟨F3, G, as3, ε, s3, S3, (E.mono l).mono (l2.trans l3), Pst.imp (Pst.bind h3) fun w H4 ⟨F4, as4, s4, w', l4, S4, rw4, h4⟩ => ?_⟩⟩
    exact hg' CL (fun c d H => W c d σ H) F4 G as4 s4 H4 y w' u w Q S4 (ry.mono (l3.trans l4)) rw4 h4
  · cases rz
    exact ⟨false, rfl, iteF (h3.okv S3 (.bl _))⟩
  · exact h3.elim
theorem re_ch {op op' : CmpOp} {r r' : R2} {g g' : Va → Va → Sto → Rs Va} (ho : OpR X (compareOp op) r) (ho' : OpR X (compareOp op') r') (hg : Op2 X.K r g) (hg' : Op2 X.K r' g') (ha : RE X CL W a d1) (hb : RE X CL W b d2) (hc : RE X CL W c d3)
    (hm : lastMarks [op, op'] [b, c] = false := by with_unfolding_all rfl) : RE X CL W (.Compare a [op, op'] [b, c] pos) (dCh g g' d1 d2 d3) := pe_weak (pe_chain ho ho' ha hb hc hm) fun _ _ _ h => tD_ch hg hg' h
theorem rt_ch {op op' : CmpOp} {r r' : R2} {g g' : Va → Va → Sto → Rs Va} (ho : OpR X (compareOp op) r) (ho' : OpR X (compareOp op') r') (hg : Op2 X.K r g) (hg' : Op2 X.K r' g') (ha : RE X CL W a d1) (hb : RE X CL W b d2) (hc : RE X CL W c d3)
    (hm : lastMarks [op, op'] [b, c] = false := by with_unfolding_all rfl) : RT X CL W (.Compare a [op, op'] [b, c] pos) (dTB (dCh g g' d1 d2 d3)) :=
  rt_val (re_ch (pos := pos) ho ho' hg hg' ha hb hc hm) (pt_chain ho ho' ha hb hc hm) fun _ _ _ h => tD_ch hg hg' h
/-- xs[::-1] -/
def dRevL (bx : Bool) (de : DE) : DE := fun ε s => (de ε s).bind fun x s1 => match seqL x s1 with
  | some xs => mkL bx xs.reverse s1
  | none => .bad
theorem re_revL {j : Nat} {q1 q2 q3 : Pos} (bx : Bool) (ha : RE X CL W a de) : RE X CL W (.Subscript a (.Slice none none (some (.UnaryOp .USub (.Constant (.int 1) j q1) q2)) q3) pos) (dRevL bx de) := pe_weak (pe_revL ha) fun σ H Q h => by
  obtain ⟨F, G, as, ε, s, S, E, h⟩ := h
  refine ⟨F, G, as, ε, s, S, E, Pst.imp (Pst.bind h) fun v H1 ⟨F1, as1, s1, y, l, S1, rx, h1⟩ => ?_⟩
  split at h1
  · rename_i xs e
    obtain ⟨p, vs, rfl, h2, h3⟩ := seqL_ok S1 rx e
    exact ⟨p, vs, rfl, SqL.of h2, mkL_ok S1 h3.reverse h1⟩
  · exact h1.elim
end
end Dn

set_option Elab.async false
set_option linter.all false
set_option maxRecDepth 100000
set_option maxHeartbeats 1000000
/-! Dn, part H: equations by which a denotation is reckoned. -/
namespace Dn
open PySem PySem.Spec PyProof.Rows L2
section
variable {α β : Type} {a : α} {s s' : Sto} {c : Str} {k : α → Sto → Rs β} {kf : α → Sto → Fl} {ε ε' : En} {x y : Va}
@[simp] theorem bind_ok : (Rs.ok a s).bind k = k a s := rfl
@[simp] theorem bind_exc : (Rs.exc c s : Rs α).bind k = .exc c s := rfl
@[simp] theorem bind_bad : (Rs.bad : Rs α).bind k = .bad := rfl
@[simp] theorem fl_ok : (Rs.ok a s).fl ε kf = kf a s := rfl
@[simp] theorem fl_exc : (Rs.exc c s : Rs α).fl ε kf = .exc c ε s := rfl
@[simp] theorem fl_bad : (Rs.bad : Rs α).fl ε kf = .bad := rfl
@[simp] theorem noexc_ok : (Rs.ok a s).noexc = .ok a s := rfl
@[simp] theorem noexc_bad : (Rs.bad : Rs α).noexc = .bad := rfl
@[simp] theorem e_C : dC x ε s = .ok x s := rfl
@[simp] theorem e_V {i : Nat} : dV i ε s = match ε[i]? with | some (some x) => .ok x s | _ => .bad := rfl
@[simp] theorem e_Nil : evA [] ε s = .ok [] s := rfl
@[simp] theorem e_Cons {da : DE} {dr : DA} : evA (da :: dr) ε s = (da ε s).bind fun x s1 => (evA dr ε s1).bind fun xs s2 => .ok (x :: xs) s2 := rfl
@[simp] theorem e_Bin {g : Va → Va → Sto → Rs Va} {da db : DE} : dBin g da db ε s = (da ε s).bind fun x s1 => (db ε s1).bind fun y s2 => g x y s2 := rfl
@[simp] theorem e_Un {g : Va → Sto → Rs Va} {da : DE} : dUn g da ε s = (da ε s).bind g := rfl
@[simp] theorem e_App {g : List Va → Sto → Rs Va} {da : DA} : dApp g da ε s = (evA da ε s).bind g := rfl
@[simp] theorem e_Lst {b : Bool} {da : DA} : dLst b da ε s = (evA da ε s).bind fun xs s1 => mkL b xs s1 := rfl
@[simp] theorem e_Tup {da : DA} : dTup da ε s = (evA da ε s).bind fun xs s1 => .ok (.tup xs) s1 := rfl
@[simp] theorem e_Sl {b : Bool} {da : DE} {dl dh : DO} : dSl b da dl dh ε s = (da ε s).bind fun x s1 => (dl ε s1).bind fun l s2 => (dh ε s2).bind fun h s3 => gSl b x l h s3 := rfl
@[simp] theorem e_No : dNo ε s = .ok none s := rfl
@[simp] theorem e_Some {d : DE} : dSome d ε s = (d ε s).bind fun x s1 => match x with | .int i => .ok (some i) s1 | _ => .bad := rfl
@[simp] theorem e_TB {da : DE} : dTB da ε s = (da ε s).bind fun x s1 => match x with | .bl b => .ok b s1 | _ => .bad := rfl
@[simp] theorem e_Tr {da : DE} : dTr da ε s = (da ε s).bind fun x s1 => match truA x s1 with | some b => .ok b s1 | none => .bad := rfl
@[simp] theorem e_And {ta tb : DT} : dAnd ta tb ε s = (ta ε s).bind fun b s1 => if b = true then tb ε s1 else .ok false s1 := rfl
@[simp] theorem e_Or {ta tb : DT} : dOr ta tb ε s = (ta ε s).bind fun b s1 => if b = true then .ok true s1 else tb ε s1 := rfl
@[simp] theorem e_Not {ta : DT} : dNot ta ε s = (ta ε s).bind fun b s1 => .ok (!b) s1 := rfl
@[simp] theorem e_AndV {da db : DE} : dAndV da db ε s = (da ε s).bind fun x s1 => match truA x s1 with | some true => db ε s1 | some false => .ok x s1 | none => .bad := rfl
@[simp] theorem e_OrV {da db : DE} : dOrV da db ε s = (da ε s).bind fun x s1 => match truA x s1 with | some true => .ok x s1 | some false => db ε s1 | none => .bad := rfl
@[simp] theorem e_NotV {da : DE} : dNotV da ε s = (da ε s).bind fun x s1 => match truA x s1 with | some b => .ok (.bl (!b)) s1 | none => .bad := rfl
@[simp] theorem e_If {ta : DT} {da db : DE} : dIf ta da db ε s = (ta ε s).bind fun b s1 => if b = true then da ε s1 else db ε s1 := rfl
@[simp] theorem e_Yes : dYes ε s = .ok true s := rfl
@[simp] theorem e_seq {d1 d2 : DS} : sSeq d1 d2 ε s = match d1 ε s with | .nx ε' s' => d2 ε' s' | r => r := rfl
@[simp] theorem e_next : sNext ε s = .nx ε s := rfl
@[simp] theorem e_brk : sBrk ε s = .brk ε s := rfl
@[simp] theorem e_ct : sCt ε s = .ct ε s := rfl
@[simp] theorem e_set {i : Nat} {de : DE} : sSet i de ε s = (de ε s).fl ε fun x s1 => .nx (ε.set i (some x)) s1 := rfl
@[simp] theorem e_ret {de : DE} : sRet de ε s = (de ε s).fl ε fun x s1 => .ret x s1 := rfl
@[simp] theorem e_retN : sRetN ε s = .ret .non s := rfl
@[simp] theorem e_drop {de : DE} : sDrop de ε s = (de ε s).fl ε fun _ s1 => .nx ε s1 := rfl
@[simp] theorem e_ifS {t : DT} {d1 d2 : DS} : sIf t d1 d2 ε s = (t ε s).fl ε fun b s1 => if b = true then d1 ε s1 else d2 ε s1 := rfl
@[simp] theorem e_setIx {d0 di de : DE} : sSetIx d0 di de ε s = (de ε s).fl ε fun v s1 => (d0 ε s1).fl ε fun o s2 => (di ε s2).fl ε fun i s3 => match gSetIx v o i s3 with | some s4 => .nx ε s4 | none => .bad := rfl
@[simp] theorem e_for {di : DI} {dg : DG} {db : DS} : sFor di dg db ε s = (di ε s).fl ε fun src s1 => lp src.1 (fBody dg db) src.2 ε s1 := rfl
@[simp] theorem e_Mt {g : Va → List Va → Sto → Rs Va} {do_ : DE} {da : DA} : dMt g do_ da ε s = (do_ ε s).bind fun x s1 => if isL x s1 = true then (evA da ε s1).bind fun xs s2 => g x xs s2 else .bad := rfl
@[simp] theorem e_Mt0 {g : Va → Sto → Rs Va} {do_ : DE} : dMt0 g do_ ε s = (do_ ε s).bind fun x s1 => if isL x s1 = true then g x s1 else .bad := rfl
@[simp] theorem e_LstRg1 {bx : Bool} {d1 : DE} : dLstRg1 bx d1 ε s = (d1 ε s).bind fun x s1 => match x with | .int j => gRg bx 0 j s1 | _ => .bad := rfl
@[simp] theorem e_raise : sRaise c ε s = .exc c ε s := rfl
@[simp] theorem e_rg1 {da : DA} : dRg1 da ε s = (evA da ε s).bind fun vs s1 => match vs with | [.int j] => if inR j then .ok (none, rgA 0 j) s1 else .bad | _ => .bad := rfl
@[simp] theorem e_rg2 {da : DA} : dRg2 da ε s = (evA da ε s).bind fun vs s1 => match vs with | [.int i, .int j] => if inR i ∧ inR j then .ok (none, rgA i j) s1 else .bad | _ => .bad := rfl
@[simp] theorem e_dgName {i : Nat} : dgName i x ε s = some (ε.set i (some x)) := rfl
end
@[simp] theorem g_add_int {bx : Bool} {i j : Int} {s : Sto} : gAdd bx (.int i) (.int j) s = .ok (.int (i + j)) s := rfl
@[simp] theorem g_sub {i j : Int} {s : Sto} : gSub (.int i) (.int j) s = .ok (.int (i - j)) s := rfl
@[simp] theorem g_neg {i : Int} {s : Sto} : gNeg (.int i) s = .ok (.int (-i)) s := rfl
@[simp] theorem g_lt {i j : Int} {s : Sto} : gLt (.int i) (.int j) s = .ok (.bl (decide (i < j))) s := rfl
@[simp] theorem g_le {i j : Int} {s : Sto} : gLe (.int i) (.int j) s = .ok (.bl (decide (i ≤ j))) s := rfl
@[simp] theorem g_gt {i j : Int} {s : Sto} : gGt (.int i) (.int j) s = .ok (.bl (decide (j < i))) s := rfl
@[simp] theorem g_ge {i j : Int} {s : Sto} : gGe (.int i) (.int j) s = .ok (.bl (decide (j ≤ i))) s := rfl
@[simp] theorem g_mod {i j : Int} {s : Sto} : gMod (.int i) (.int j) s = if 0 < j then .ok (.int (i % j)) s else .bad := rfl
@[simp] theorem g_fdiv {i j : Int} {s : Sto} : gFdiv (.int i) (.int j) s = if CDiv i j then .ok (.int (i / j)) s else .bad := rfl
@[simp] theorem g_mul {bx : Bool} {i j : Int} {s : Sto} : gMul bx (.int i) (.int j) s = if CMul i j ∨ CMulW i j then .ok (.int (i * j)) s else .bad := rfl
theorem cmul_l {i j : Int} (h : -(2 ^ 64) < i ∧ i < 2 ^ 64) : CMul i j ∨ CMulW i j := .inl (.inl h)
theorem cmul_r {i j : Int} (h : -(2 ^ 64) < j ∧ j < 2 ^ 64) : CMul i j ∨ CMulW i j := .inl (.inr h)
@[simp] theorem g_eq_int {b : Bool} {i j : Int} {s : Sto} : gEq b (.int i) (.int j) s = .ok (.bl (b != decide (i = j))) s := rfl
@[simp] theorem g_eq_bl {b : Bool} {i j : Bool} {s : Sto} : gEq b (.bl i) (.bl j) s = .ok (.bl (b != decide (i = j))) s := rfl
@[simp] theorem g_eq_str {b : Bool} {i j : Str} {s : Sto} : gEq b (.str i) (.str j) s = .ok (.bl (b != decide (i = j))) s := rfl
@[simp] theorem g_len_lst {xs : List Va} {s : Sto} : gLen [.lst xs] s = .ok (.int xs.length) s := rfl
@[simp] theorem g_len_ext {xs : List Va} {s : Sto} : gLen [.ext xs] s = .ok (.int xs.length) s := rfl
@[simp] theorem g_len_tup {xs : List Va} {s : Sto} : gLen [.tup xs] s = .ok (.int xs.length) s := rfl
@[simp] theorem g_int_int {i : Int} {s : Sto} : gInt [.int i] s = .ok (.int i) s := rfl
@[simp] theorem g_int_bl {i : Bool} {s : Sto} : gInt [.bl i] s = .ok (.int (if i then 1 else 0)) s := rfl
@[simp] theorem g_abs {i : Int} {s : Sto} : gAbs [.int i] s = .ok (.int (if i < 0 then -i else i)) s := rfl
@[simp] theorem g_list_ext {xs : List Va} {bx : Bool} {s : Sto} : gList bx [.ext xs] s = mkL bx xs s := rfl
@[simp] theorem g_list_lst {xs : List Va} {bx : Bool} {s : Sto} : gList bx [.lst xs] s = mkL bx xs s := rfl
@[simp] theorem g_list_tup {xs : List Va} {bx : Bool} {s : Sto} : gList bx [.tup xs] s = mkL bx xs s := rfl
@[simp] theorem g_mkL_f {xs : List Va} {s : Sto} : mkL false xs s = .ok (.lst xs) s := rfl
@[simp] theorem g_mkL_t {xs : List Va} {s : Sto} : mkL true xs s = .ok (.ref s.length) (s ++ [.lst xs]) := rfl
@[simp] theorem g_ix_lst {xs : List Va} {i : Int} {s : Sto} : gIx (.lst xs) (.int i) s = match atI xs i with | some z => .ok z s | none => .bad := rfl
@[simp] theorem g_ix_tup {xs : List Va} {i : Int} {s : Sto} : gIx (.tup xs) (.int i) s = match atI xs i with | some z => .ok z s | none => .bad := rfl
theorem g_ix_ref {n : Nat} {xs : List Va} {i : Int} {s : Sto} (h : s[n]? = some (.lst xs)) : gIx (.ref n) (.int i) s = match atI xs i with | some z => .ok z s | none => .bad := by
  have hs : seqA (.ref n) s = some xs := by simp only [seqA, h]
  unfold gIx
  rw [hs]
  all_goals rfl
theorem g_set_ref {n : Nat} {xs : List Va} {i : Int} {v : Va} {s : Sto} {m : Nat} (h : s[n]? = some (.lst xs)) (hi : ixN xs.length i = some m) : gSetIx v (.ref n) (.int i) s = some (s.set n (.lst (xs.set m v))) := by
  unfold gSetIx
  simp only [h, hi]
@[simp] theorem e_gFn {n : Nat} {F : List Va → Sto → Rs Va} {xs : List Va} {s : Sto} (h : xs.length = n) : gFn n F xs s = F xs s := if_pos h
@[simp] theorem e_fBody {dg : DG} {db : DS} {x : Va} {ε : En} {s : Sto} : fBody dg db x ε s = match dg x ε s with | some ε' => db ε' s | none => .bad := rfl
@[simp] theorem lp_nil {body : Va → DS} {ε : En} {s : Sto} : lp none body [] ε s = .nx ε s := by
  rw [lp, if_pos (show okk none s from trivial)]
@[simp] theorem lp_cons {body : Va → DS} {x : Va} {r : List Va} {ε : En} {s : Sto} : lp none body (x :: r) ε s = match body x ε s with
    | .nx ε' s' => lp none body r ε' s'
    | .ct ε' s' => lp none body r ε' s'
    | .brk ε' s' => .nx ε' s'
    | o => o := by
  rw [lp, if_pos (show okk none s from trivial)]
  all_goals (cases body x ε s <;> rfl)
theorem lpS_nil {n : Nat} {all : List Va} {body : Va → DS} {ε : En} {s : Sto} (h : s[n]? = some (.lst all)) : lp (some (n, all)) body [] ε s = .nx ε s := by
  rw [lp, if_pos (show okk (some (n, all)) s from h)]
theorem lpS_cons {n : Nat} {all : List Va} {body : Va → DS} {x : Va} {r : List Va} {ε : En} {s : Sto} (h : s[n]? = some (.lst all)) : lp (some (n, all)) body (x :: r) ε s = match body x ε s with
    | .nx ε' s' => lp (some (n, all)) body r ε' s'
    | .ct ε' s' => lp (some (n, all)) body r ε' s'
    | .brk ε' s' => .nx ε' s'
    | o => o := by
  rw [lp, if_pos (show okk (some (n, all)) s from h)]
  all_goals (cases body x ε s <;> rfl)
@[simp] theorem cl_nil {dg : DG} {dt : DT} {del : DE} {ε : En} {acc : List Va} {s : Sto} : cl none dg dt del ε [] acc s = .ok acc s := by
  rw [cl, if_pos (show okk none s from trivial)]
@[simp] theorem cl_cons {dg : DG} {dt : DT} {del : DE} {ε : En} {x : Va} {r acc : List Va} {s : Sto} : cl none dg dt del ε (x :: r) acc s = match dg x ε s with
    | none => .bad
    | some ε2 => (dt ε2 s).noexc.bind fun b s1 => if b = true then (del ε2 s1).noexc.bind fun y s2 => cl none dg dt del ε r (acc ++ [y]) s2 else cl none dg dt del ε r acc s1 := by
  rw [cl, if_pos (show okk none s from trivial)]
  all_goals (cases dg x ε s <;> rfl)
theorem clS_nil {n : Nat} {all : List Va} {dg : DG} {dt : DT} {del : DE} {ε : En} {acc : List Va} {s : Sto} (h : s[n]? = some (.lst all)) : cl (some (n, all)) dg dt del ε [] acc s = .ok acc s := by
  rw [cl, if_pos (show okk (some (n, all)) s from h)]
theorem clS_cons {n : Nat} {all : List Va} {dg : DG} {dt : DT} {del : DE} {ε : En} {x : Va} {r acc : List Va} {s : Sto} (h : s[n]? = some (.lst all)) : cl (some (n, all)) dg dt del ε (x :: r) acc s = match dg x ε s with
    | none => .bad
    | some ε2 => (dt ε2 s).noexc.bind fun b s1 => if b = true then (del ε2 s1).noexc.bind fun y s2 => cl (some (n, all)) dg dt del ε r (acc ++ [y]) s2 else cl (some (n, all)) dg dt del ε r acc s1 := by
  rw [cl, if_pos (show okk (some (n, all)) s from h)]
  all_goals (cases dg x ε s <;> rfl)
@[simp] theorem e_Lc {bx : Bool} {di : DI} {dg : DG} {dt : DT} {del : DE} {vs : List Nat} {ε : En} {s : Sto} : dLc bx di dg dt del vs ε s = (di ε s).bind fun src s1 => if leq src.2.length 100000 then (cl src.1 dg dt del (wip ε vs) src.2 [] s1).bind fun acc s2 => mkL bx acc s2 else .bad := rfl
theorem cl_map {α : Type} (e f : α → Va) {j : Nat} {dt : DT} {del : DE} {ε : En} {s : Sto} (p : α → Bool) : ∀ (l : List α) (acc : List Va), (∀ a ∈ l, dt (ε.set j (some (e a))) s = .ok (p a) s) → (∀ a ∈ l, p a = true → del (ε.set j (some (e a))) s = .ok (f a) s) →
    cl none (dgName j) dt del ε (l.map e) acc s = .ok (acc ++ (l.filter p).map f) s
  | [], acc, _, _ => by
    rw [List.map_nil, cl_nil, List.filter_nil, List.map_nil, List.append_nil]
  | a :: l, acc, h1, h2 => by
    rw [List.map_cons, cl_cons, e_dgName]
    dsimp only
    rw [h1 a List.mem_cons_self]
    simp only [noexc_ok, bind_ok]
    cases hp : p a with
    | true =>
      rw [if_pos rfl, h2 a List.mem_cons_self hp]
      simp only [noexc_ok, bind_ok]
      rw [cl_map e f p l _ (fun b hb => h1 b (List.mem_cons_of_mem _ hb)) (fun b hb => h2 b (List.mem_cons_of_mem _ hb)), List.filter_cons_of_pos hp, List.map_cons, List.append_assoc]
      rfl
    | false =>
      rw [if_neg (by decide), cl_map e f p l _ (fun b hb => h1 b (List.mem_cons_of_mem _ hb)) (fun b hb => h2 b (List.mem_cons_of_mem _ hb)), List.filter_cons_of_neg (by rw [hp]; decide)]
theorem cl_all {α : Type} (e f : α → Va) {j : Nat} {del : DE} {ε : En} {s : Sto} (l : List α) (acc : List Va) (h2 : ∀ a ∈ l, del (ε.set j (some (e a))) s = .ok (f a) s) :
    cl none (dgName j) dYes del ε (l.map e) acc s = .ok (acc ++ l.map f) s := by
  have := cl_map e f (j := j) (dt := dYes) (del := del) (ε := ε) (s := s) (fun _ => true) l acc (fun _ _ => rfl) (fun a ha _ => h2 a ha)
  rw [List.filter_eq_self.mpr (fun _ _ => rfl)] at this
  exact this
theorem toNat_inj {a b : Char} (h : a.toNat = b.toNat) : a = b := Char.ext (UInt32.toNat_inj.mp h)
@[simp] theorem ofString_inj {a b : String} : (Str.ofString a = Str.ofString b) = (a = b) := by
  apply propext
  constructor
  · intro h
    rw [Str.ofString_eq_toList, Str.ofString_eq_toList] at h
    injection h with h
    have h := congrArg Array.toList h
    have h : a.toList.map Char.toNat = b.toList.map Char.toNat := h
    exact String.toList_inj.mp (List.map_inj_right (fun _ _ => toNat_inj) |>.mp h)
  · intro h
    rw [h]
theorem get_set {s : Sto} {n : Nat} {o o' : Ob} (h : s[n]? = some o) : (s.set n o')[n]? = some o' := List.getElem?_set_self (List.getElem?_eq_some_iff.mp h).1
theorem get_set_ne {s : Sto} {n m : Nat} {o' : Ob} (h : n ≠ m) : (s.set n o')[m]? = s[m]? := List.getElem?_set_ne h
theorem atI_0 {x : Va} {xs : List Va} : atI (x :: xs) 0 = some x := atI_nat (j := 0) rfl
theorem atI_1 {x y : Va} {xs : List Va} : atI (x :: y :: xs) 1 = some y := atI_nat (j := 1) rfl
theorem atI_2 {x y z : Va} {xs : List Va} : atI (x :: y :: z :: xs) 2 = some z := atI_nat (j := 2) rfl
theorem atI_3 {x y z u : Va} {xs : List Va} : atI (x :: y :: z :: u :: xs) 3 = some u := atI_nat (j := 3) rfl
end Dn

set_option Elab.async false
set_option linter.all false
set_option maxRecDepth 100000
set_option maxHeartbeats 1000000
/-! Dn, part L: the laws' own helpers: the stream of draws. -/
namespace Dn
open PySem PySem.Spec PyProof.Rows L2

structure Stm where
  sc : List Int
  x : Int
  y : Nat
  z : Int
def Stm.ob (t : Stm) : Ob := .lst [.lst (t.sc.map .int), .int t.x, .int t.y, .int t.z]
def Stm.of : Ob → Option Stm
  | .lst [.lst sc, .int x, .int y, .int z] => match intsOf sc with
    | some ns => if 0 ≤ y then some ⟨ns, x, y.toNat, z⟩ else none
    | none => none
  | _ => none
theorem Stm.of_ob (t : Stm) : Stm.of t.ob = some t := by
  show (match intsOf (t.sc.map Va.int) with | some ns => if (0 : Int) ≤ (t.y : Int) then some (⟨ns, t.x, (t.y : Int).toNat, t.z⟩ : Stm) else none | none => none) = some t
  rw [intsOf_map]
  simp
theorem Stm.ob_of {o : Ob} {t : Stm} (h : Stm.of o = some t) : o = t.ob := by
  unfold Stm.of at h
  split at h
  · rename_i sc x y z
    split at h
    · rename_i ns e
      split at h
      · rename_i hy
        cases h
        rw [intsOf_eq e]
        show _ = Ob.lst [.lst (ns.map .int), .int x, .int (y.toNat : Nat), .int z]
        rw [Int.toNat_of_nonneg hy]
      · cases h
    · cases h
  · cases h
/-- the stream at a -/
def stAt (s : Sto) (a : Nat) : Option Stm := (s[a]?).bind Stm.of
theorem stAt_get {s : Sto} {a : Nat} {t : Stm} (h : stAt s a = some t) : s[a]? = some t.ob := by
  unfold stAt at h
  cases e : s[a]? with
  | none =>
    rw [e] at h
    cases h
  | some o =>
    rw [e] at h
    rw [Stm.ob_of h]
@[simp] theorem stAt_set {s : Sto} {a : Nat} {t t' : Stm} (h : stAt s a = some t) : stAt (s.set a t'.ob) a = some t' := by
  unfold stAt
  rw [get_set (stAt_get h)]
  exact Stm.of_ob t'
/-- what a draw takes, and the stream behind it -/
def Stm.pull (t : Stm) : Stm := if t.x = 0 ∧ t.y < t.sc.length then { t with x := if t.sc.getD t.y 0 < 0 then -(t.sc.getD t.y 0) else t.sc.getD t.y 0, y := t.y + 1 } else t
def Stm.draw (t : Stm) (m : Int) : Int × Stm :=
  if t.pull.x = 0 then (((t.pull.z * 48271 + 11) % 2147483647 / 97) % m, { t.pull with z := (t.pull.z * 48271 + 11) % 2147483647 }) else (t.pull.x % m, { t.pull with x := t.pull.x / m })
noncomputable def F_l_draw (args : List Va) (s : Sto) : Rs Va := match args with
  | [.ref a, .int m] => match stAt s a with
    | some t => if 0 < m ∧ m < 1073741824 then .ok (.int (t.draw m).1) (s.set a (t.draw m).2.ob) else .bad
    | none => .bad
  | _ => .bad
noncomputable def b_l_draw : DS := (sSeq (sIf (dAnd (dTB (dBin (gEq false) (dBin gIx (dV 0) (dC (.int 1))) (dC (.int 0)))) (dTB (dBin gLt (dBin gIx (dV 0) (dC (.int 2))) (dApp gLen (dCons (dBin gIx (dV 0) (dC (.int 0))) dNil))))) (sSeq (sSetIx (dV 0) (dC (.int 1)) (dApp gAbs (dCons (dApp gInt (dCons (dBin gIx (dBin gIx (dV 0) (dC (.int 0))) (dBin gIx (dV 0) (dC (.int 2)))) dNil)) dNil)))
  (sSetIx (dV 0) (dC (.int 2)) (dBin (gAdd false) (dBin gIx (dV 0) (dC (.int 2))) (dC (.int 1))))) sNext)
  (sSeq (sIf (dTB (dBin (gEq false) (dBin gIx (dV 0) (dC (.int 1))) (dC (.int 0)))) (sSeq (sSetIx (dV 0) (dC (.int 3)) (dBin gMod (dApp gInt (dCons (dBin (gAdd false) (dBin (gMul false) (dBin gIx (dV 0) (dC (.int 3))) (dC (.int 48271))) (dC (.int 11))) dNil)) (dC (.int 2147483647))))
  (sRet (dBin gMod (dApp gInt (dCons (dBin gFdiv (dBin gIx (dV 0) (dC (.int 3))) (dC (.int 97))) dNil)) (dV 1)))) sNext)
  (sSeq (sSet 2 (dBin gMod (dApp gInt (dCons (dBin gIx (dV 0) (dC (.int 1))) dNil)) (dV 1)))
  (sSeq (sSetIx (dV 0) (dC (.int 1)) (dBin gFdiv (dBin gIx (dV 0) (dC (.int 1))) (dV 1)))
  (sRet (dV 2))))))
/-- what stands in a stream's object -/
theorem ob_get {s : Sto} {a : Nat} {t : Stm} (h : s[a]? = some t.ob) : s[a]? = some (.lst [.lst (t.sc.map .int), .int t.x, .int t.y, .int t.z]) := h
theorem at_int {ns : List Int} {y : Nat} (h : y < ns.length) : atI (ns.map Va.int) (y : Int) = some (.int (ns.getD y 0)) := by
  refine atI_nat ?_
  rw [List.getElem?_map, List.getElem?_eq_getElem h, List.getD_eq_getElem?_getD, List.getElem?_eq_getElem h]
  rfl
theorem wf_set {s : Sto} {a n : Nat} {o : Ob} (w : WFn n s) (h : obB n o) : WFn n (s.set a o) := fun u hu => by
  rcases List.mem_or_eq_of_mem_set hu with z | z
  · exact w u z
  · rw [z]
    exact h
theorem vasB_ints {n : Nat} : ∀ {ns : List Int}, vasB n (ns.map .int)
  | [] => trivial
  | _ :: _ => ⟨trivial, vasB_ints⟩
theorem Stm.b (t : Stm) (n : Nat) : obB n t.ob := ⟨vasB_ints, trivial, trivial, trivial, trivial⟩
/-- the end of a def that made nothing that stays -/
theorem Fin.ret0 {raw : Fl} {v : Va} {s s0 : Sto} (h : raw = .ret v s0) (hl : s0.length = s.length) (hv : vaB s.length v) (hw : WFn s.length s0) : Fin s.length raw (.ok v s0) := by
  have e : s0.take s.length = s0 := by rw [← hl]; exact List.take_length
  have := Fin.ok (n := s.length) (raw := raw) (.inl h) (.same v s0) hv (by rw [e]; exact hw)
  rw [e] at this
  exact this
theorem set1 {s : Sto} {n : Nat} {a b c d v : Va} (h : s[n]? = some (.lst [a, b, c, d])) : gSetIx v (.ref n) (.int 1) s = some (s.set n (.lst [a, v, c, d])) := g_set_ref h (show ixN 4 1 = some 1 from rfl)
theorem set2 {s : Sto} {n : Nat} {a b c d v : Va} (h : s[n]? = some (.lst [a, b, c, d])) : gSetIx v (.ref n) (.int 2) s = some (s.set n (.lst [a, b, v, d])) := g_set_ref h (show ixN 4 2 = some 2 from rfl)
theorem set3 {s : Sto} {n : Nat} {a b c d v : Va} (h : s[n]? = some (.lst [a, b, c, d])) : gSetIx v (.ref n) (.int 3) s = some (s.set n (.lst [a, b, c, v])) := g_set_ref h (show ixN 4 3 = some 3 from rfl)
theorem set_same {s : Sto} {n : Nat} {o : Ob} (h : s[n]? = some o) : s.set n o = s := by
  obtain ⟨h1, h2⟩ := List.getElem?_eq_some_iff.mp h
  rw [← h2]
  exact List.set_getElem_self h1
theorem draw_run1 {s : Sto} {a : Nat} {t : Stm} {m : Int} (hs : s[a]? = some t.ob) : sIf (dAnd (dTB (dBin (gEq false) (dBin gIx (dV 0) (dC (.int 1))) (dC (.int 0)))) (dTB (dBin gLt (dBin gIx (dV 0) (dC (.int 2))) (dApp gLen (dCons (dBin gIx (dV 0) (dC (.int 0))) dNil))))) (sSeq (sSetIx (dV 0) (dC (.int 1)) (dApp gAbs (dCons (dApp gInt (dCons (dBin gIx (dBin gIx (dV 0) (dC (.int 0))) (dBin gIx (dV 0) (dC (.int 2)))) dNil)) dNil)))
  (sSetIx (dV 0) (dC (.int 2)) (dBin (gAdd false) (dBin gIx (dV 0) (dC (.int 2))) (dC (.int 1))))) sNext [some (.ref a), some (.int m), none] s = .nx [some (.ref a), some (.int m), none] (s.set a t.pull.ob) := by
  have h0 := set_same hs
  have hs := ob_get hs
  unfold Stm.pull
  by_cases h1 : t.x = 0
  · by_cases h2 : t.y < t.sc.length
    · rw [if_pos ⟨h1, h2⟩]
      simp [g_ix_ref hs, atI_1, atI_2, atI_0, h1, h2, at_int h2, set1 hs, g_ix_ref (get_set hs), set2 (get_set hs), Stm.ob]
    · rw [if_neg (fun h => h2 h.2), h0]
      simp [g_ix_ref hs, atI_1, atI_2, atI_0, h1, h2]
  · rw [if_neg (fun h => h1 h.1), h0]
    simp [g_ix_ref hs, atI_1, h1]
theorem cmul_c {i : Int} : CMul i 48271 ∨ CMulW i 48271 := cmul_r (by decide)
theorem draw_run2 {s2 : Sto} {a : Nat} {u : Stm} {m : Int} (h2 : s2[a]? = some u.ob) (hm : 0 < m ∧ m < 1073741824) : (sSeq (sIf (dTB (dBin (gEq false) (dBin gIx (dV 0) (dC (.int 1))) (dC (.int 0)))) (sSeq (sSetIx (dV 0) (dC (.int 3)) (dBin gMod (dApp gInt (dCons (dBin (gAdd false) (dBin (gMul false) (dBin gIx (dV 0) (dC (.int 3))) (dC (.int 48271))) (dC (.int 11))) dNil)) (dC (.int 2147483647))))
  (sRet (dBin gMod (dApp gInt (dCons (dBin gFdiv (dBin gIx (dV 0) (dC (.int 3))) (dC (.int 97))) dNil)) (dV 1)))) sNext)
  (sSeq (sSet 2 (dBin gMod (dApp gInt (dCons (dBin gIx (dV 0) (dC (.int 1))) dNil)) (dV 1)))
  (sSeq (sSetIx (dV 0) (dC (.int 1)) (dBin gFdiv (dBin gIx (dV 0) (dC (.int 1))) (dV 1)))
  (sRet (dV 2))))) [some (.ref a), some (.int m), none] s2 =
    if u.x = 0 then .ret (.int (((u.z * 48271 + 11) % 2147483647 / 97) % m)) (s2.set a { u with z := (u.z * 48271 + 11) % 2147483647 : Stm }.ob) else .ret (.int (u.x % m)) (s2.set a { u with x := u.x / m : Stm }.ob) := by
  have hm2 : CDiv u.x m := hm
  have h2 := ob_get h2
  by_cases h1 : u.x = 0
  · rw [if_pos h1]
    simp [g_ix_ref h2, atI_1, atI_3, h1, cmul_c, set3 h2, g_ix_ref (get_set h2), Stm.ob, CDiv, hm.1]
  · rw [if_neg h1]
    simp [g_ix_ref h2, atI_1, atI_3, h1, set1 h2, g_ix_ref (get_set h2), Stm.ob, hm2, hm.1]
theorem draw_run {s : Sto} {a : Nat} {t : Stm} {m : Int} (hs : s[a]? = some t.ob) (hm : 0 < m ∧ m < 1073741824) : b_l_draw [some (.ref a), some (.int m), none] s = .ret (.int (t.draw m).1) (s.set a (t.draw m).2.ob) := by
  unfold b_l_draw
  rw [e_seq, draw_run1 hs]
  dsimp only
  rw [draw_run2 (get_set hs) hm]
  unfold Stm.draw
  simp only [List.set_set]
  split <;> rfl
theorem fin_l_draw (args : List Va) (s : Sto) (wf : WFn s.length s) (_ : vasB s.length args) (hl : args.length = 2) : Fin s.length (b_l_draw (startA 3 args) s) (F_l_draw args s) := by
  unfold F_l_draw
  split
  · rename_i a m
    split
    · rename_i t e
      split
      · rename_i hm
        exact Fin.ret0 (draw_run (stAt_get e) hm) (by rw [List.length_set]) trivial (wf_set wf (Stm.b _ _))
      · exact .bad
    · exact .bad
  · exact .bad
end Dn

set_option Elab.async false
set_option linter.all false
set_option maxRecDepth 100000
set_option maxHeartbeats 4000000
/-! Dn, part M: the laws' own helpers: stream, pick, units, other, record, keeps. -/
namespace Dn
open PySem PySem.Spec PyProof.Rows L2

theorem stAt_of {s : Sto} {a : Nat} {t : Stm} (h : s[a]? = some t.ob) : stAt s a = some t := by
  unfold stAt
  rw [h]
  exact Stm.of_ob t
theorem stAt_lt {s : Sto} {a : Nat} {t : Stm} (h : stAt s a = some t) : a < s.length := (List.getElem?_eq_some_iff.mp (stAt_get h)).1
theorem stAt_put {s : Sto} {a : Nat} {t : Stm} (h : a < s.length) : stAt (s.set a t.ob) a = some t := stAt_of (List.getElem?_set_self h)
theorem Stm.draw_in (t : Stm) {m : Int} (h : 0 < m) : 0 ≤ (t.draw m).1 ∧ (t.draw m).1 < m := by
  unfold Stm.draw
  split
  · exact ⟨Int.emod_nonneg _ (by omega), Int.emod_lt_of_pos _ h⟩
  · exact ⟨Int.emod_nonneg _ (by omega), Int.emod_lt_of_pos _ h⟩
theorem atI_in {α : Type} {xs : List α} {i : Int} (d : α) (h0 : 0 ≤ i) (h1 : i < xs.length) : atI xs i = some (xs.getD i.toNat d) := by
  have e : i = (i.toNat : Int) := by omega
  have h2 : i.toNat < xs.length := by omega
  rw [e]
  refine atI_nat ?_
  rw [Int.toNat_natCast, List.getElem?_eq_getElem h2, List.getD_eq_getElem?_getD, List.getElem?_eq_getElem h2]
  rfl
theorem vasB_get {n : Nat} : ∀ {xs : List Va} {i : Nat}, vasB n xs → vaB n (xs.getD i .non)
  | [], i, _ => by
    rw [List.getD_nil]
    trivial
  | x :: xs, 0, h => h.1
  | x :: xs, i + 1, h => by
    rw [List.getD_cons_succ]
    exact vasB_get h.2
theorem getD_map {α β : Type} (f : α → β) (xs : List α) (i : Nat) (d : α) (e : β) (h : i < xs.length) : (xs.map f).getD i e = f (xs.getD i d) := by
  rw [List.getD_eq_getElem?_getD, List.getD_eq_getElem?_getD, List.getElem?_map, List.getElem?_eq_getElem h]
  rfl

/-! ### the stream -/
def mixed : List Int → Int → Int
  | [], m => m
  | c :: cs, m => mixed cs ((m * 48271 + c % 65521 + 1) % 2147483647)
def Stm.mk0 (sc : List Int) : Stm := ⟨sc, 0, 0, mixed sc 17⟩
noncomputable def b_l_stream : DS := (sSeq (sSet 1 (dC (.int 17)))
  (sSeq (sFor (dSeq (dV 0)) (dgName 2)
   (sSet 1 (dBin gMod (dApp gInt (dCons (dBin (gAdd false) (dBin (gAdd false) (dBin (gMul false) (dV 1) (dC (.int 48271))) (dBin gMod (dApp gInt (dCons (dV 2) dNil)) (dC (.int 65521)))) (dC (.int 1))) dNil)) (dC (.int 2147483647)))))
  (sRet (dLst true (dCons (dApp (gList false) (dCons (dV 0) dNil)) (dCons (dC (.int 0)) (dCons (dC (.int 0)) (dCons (dV 1) dNil))))))))
theorem stream_loop (ns all : List Int) (s : Sto) : ∀ (m : Int) (y : Option Va), ∃ y', lp none (fBody (dgName 2) (sSet 1 (dBin gMod (dApp gInt (dCons (dBin (gAdd false) (dBin (gAdd false) (dBin (gMul false) (dV 1) (dC (.int 48271))) (dBin gMod (dApp gInt (dCons (dV 2) dNil)) (dC (.int 65521)))) (dC (.int 1))) dNil)) (dC (.int 2147483647))))) (ns.map .int) [some (.ext (all.map .int)), some (.int m), y] s =
    .nx [some (.ext (all.map .int)), some (.int (mixed ns m)), y'] s := by
  induction ns with
  | nil =>
    intro m y
    refine ⟨y, ?_⟩
    rw [List.map_nil, lp_nil]
    rfl
  | cons c cs ih =>
    intro m y
    obtain ⟨y', e⟩ := ih ((m * 48271 + c % 65521 + 1) % 2147483647) (some (.int c))
    refine ⟨y', ?_⟩
    rw [List.map_cons, lp_cons]
    simp [cmul_c]
    exact e
noncomputable def F_l_stream (args : List Va) (s : Sto) : Rs Va := match args with
  | [.ext xs] => match intsOf xs with
    | some ns => .ok (.ref s.length) (s ++ [(Stm.mk0 ns).ob])
    | none => .bad
  | _ => .bad
/-- the end of a def that hands back a new object and nothing else stays -/
theorem Fin.box0 {raw : Fl} {s : Sto} {o : Ob} (h : raw = .ret (.ref s.length) (s ++ [o])) (ho : obB s.length o) (hw : WFn s.length s) : Fin s.length raw (.ok (.ref s.length) (s ++ [o])) := by
  have e : (s ++ [o]).take s.length = s := by rw [List.take_left]
  have := Fin.box (n := s.length) (raw := raw) (i := s.length) (o := o) h (.same _ _) (Nat.le_refl _) List.getElem?_concat_length ho (by rw [e]; exact hw)
  rw [e] at this
  exact this
theorem fin_l_stream (args : List Va) (s : Sto) (wf : WFn s.length s) (_ : vasB s.length args) (hl : args.length = 1) : Fin s.length (b_l_stream (startA 3 args) s) (F_l_stream args s) := by
  unfold F_l_stream
  split
  · rename_i xs
    split
    · rename_i ns e
      have e2 := intsOf_eq e
      subst e2
      refine Fin.box0 ?_ (Stm.b _ _) wf
      unfold b_l_stream startA
      obtain ⟨y', e3⟩ := stream_loop ns ns s 17 none
      simp [dSeq, e3, Stm.ob, Stm.mk0]
    · exact .bad
  · exact .bad

/-! ### a pick -/
noncomputable def b_l_pick : DS := (sRet (dBin gIx (dV 1) (dApp (gFn 2 F_l_draw) (dCons (dV 0) (dCons (dApp gLen (dCons (dV 1) dNil)) dNil)))))
noncomputable def F_l_pick (args : List Va) (s : Sto) : Rs Va := match args with
  | [.ref a, .lst xs] => match stAt s a with
    | some t => if 0 < xs.length ∧ xs.length < 1073741824 then .ok (xs.getD (t.draw xs.length).1.toNat .non) (s.set a (t.draw xs.length).2.ob) else .bad
    | none => .bad
  | [.ref a, .ref j] => match stAt s a, s[j]? with
    | some t, some (.lst xs) => if 0 < xs.length ∧ xs.length < 1073741824 ∧ j ≠ a then .ok (xs.getD (t.draw xs.length).1.toNat .non) (s.set a (t.draw xs.length).2.ob) else .bad
    | _, _ => .bad
  | _ => .bad
theorem fin_l_pick (args : List Va) (s : Sto) (wf : WFn s.length s) (wa : vasB s.length args) (hl : args.length = 2) : Fin s.length (b_l_pick (startA 2 args) s) (F_l_pick args s) := by
  unfold F_l_pick
  split
  · rename_i a xs
    split
    · rename_i t e
      split
      · rename_i hc
        have hd := t.draw_in (m := xs.length) (by omega)
        have hc2 : (0 : Int) < xs.length ∧ (xs.length : Int) < 1073741824 := by omega
        refine Fin.ret0 ?_ (by rw [List.length_set]) (vasB_get wa.2.1) (wf_set wf (Stm.b _ _))
        unfold b_l_pick startA
        simp [F_l_draw, e, hc2, hc.1, atI_in Va.non hd.1 hd.2]

      · exact .bad
    · exact .bad
  · rename_i a j
    split
    · rename_i t xs e e2
      split
      · rename_i hc
        have hd := t.draw_in (m := xs.length) (by omega)
        have hc2 : (0 : Int) < xs.length ∧ (xs.length : Int) < 1073741824 := by omega
        refine Fin.ret0 ?_ (by rw [List.length_set]) (vasB_get (wf _ (List.mem_of_getElem? e2))) (wf_set wf (Stm.b _ _))
        have e3 : (s.set a (t.draw xs.length).2.ob)[j]? = some (.lst xs) := by rw [get_set_ne (Ne.symm hc.2.2)]; exact e2
        unfold b_l_pick startA
        simp [F_l_draw, e, hc2, hc.1, gLen, seqA, e2, g_ix_ref e3, atI_in Va.non hd.1 hd.2]

      · exact .bad
    · exact .bad
  · exact .bad

/-! ### units, other units -/
noncomputable def b_l_units : DS := (sRet (dBin (gAdd false) (dC (.int 1)) (dApp (gFn 2 F_l_draw) (dCons (dV 0) (dCons (dBin gIx (dLst false (dCons (dC (.int 4)) (dCons (dC (.int 6)) (dCons (dC (.int 12)) dNil)))) (dApp (gFn 2 F_l_draw) (dCons (dV 0) (dCons (dC (.int 3)) dNil)))) dNil)))))
noncomputable def b_l_other : DS := (sRet (dBin gMod (dApp gInt (dCons (dBin (gAdd false) (dBin (gAdd false) (dV 2) (dC (.int 1))) (dApp (gFn 2 F_l_draw) (dCons (dV 0) (dCons (dBin gSub (dV 1) (dC (.int 1))) dNil)))) dNil)) (dV 1)))
theorem at3 {a b c i : Int} (h0 : 0 ≤ i) (h1 : i < 3) : atI [Va.int a, .int b, .int c] i = some (.int ([a, b, c].getD i.toNat 0)) := by
  have e : i = 0 ∨ i = 1 ∨ i = 2 := by omega
  rcases e with rfl | rfl | rfl <;> rfl
theorem at2 {a b i : Int} (h0 : 0 ≤ i) (h1 : i < 2) : atI [Va.int a, .int b] i = some (.int ([a, b].getD i.toNat 0)) := by
  have e : i = 0 ∨ i = 1 := by omega
  rcases e with rfl | rfl <;> rfl
def unitsM (t : Stm) : Int × Stm := (1 + ((t.draw 3).2.draw ([4, 6, 12].getD (t.draw 3).1.toNat 0)).1, ((t.draw 3).2.draw ([4, 6, 12].getD (t.draw 3).1.toNat 0)).2)
theorem pick3_in (t : Stm) : [(4 : Int), 6, 12].getD (t.draw 3).1.toNat 0 = 4 ∨ [(4 : Int), 6, 12].getD (t.draw 3).1.toNat 0 = 6 ∨ [(4 : Int), 6, 12].getD (t.draw 3).1.toNat 0 = 12 := by
  have h := t.draw_in (m := 3) (by decide)
  have e : (t.draw 3).1 = 0 ∨ (t.draw 3).1 = 1 ∨ (t.draw 3).1 = 2 := by omega
  rcases e with e | e | e <;> rw [e] <;> decide
theorem unitsM_in (t : Stm) : 1 ≤ (unitsM t).1 ∧ (unitsM t).1 ≤ 12 := by
  unfold unitsM
  rcases pick3_in t with e | e | e <;> rw [e]
  · have := (t.draw 3).2.draw_in (m := 4) (by decide); dsimp only; omega
  · have := (t.draw 3).2.draw_in (m := 6) (by decide); dsimp only; omega
  · have := (t.draw 3).2.draw_in (m := 12) (by decide); dsimp only; omega
noncomputable def F_l_units (args : List Va) (s : Sto) : Rs Va := match args with
  | [.ref a] => match stAt s a with
    | some t => .ok (.int (unitsM t).1) (s.set a (unitsM t).2.ob)
    | none => .bad
  | _ => .bad
theorem draw_eq {s : Sto} {a : Nat} {t : Stm} {m : Int} (h : stAt s a = some t) (h1 : 0 < m) (h2 : m < 1073741824) : F_l_draw [.ref a, .int m] s = .ok (.int (t.draw m).1) (s.set a (t.draw m).2.ob) := by
  unfold F_l_draw
  simp only [h, h1, h2, and_self, if_true]
theorem fin_l_units (args : List Va) (s : Sto) (wf : WFn s.length s) (wa : vasB s.length args) (hl : args.length = 1) : Fin s.length (b_l_units (startA 1 args) s) (F_l_units args s) := by
  unfold F_l_units
  split
  · rename_i a
    split
    · rename_i t e
      have la := stAt_lt e
      refine Fin.ret0 ?_ (by rw [List.length_set]) trivial (wf_set wf (Stm.b _ _))
      unfold b_l_units startA unitsM
      have h := t.draw_in (m := 3) (by decide)
      have hp : 0 < [(4 : Int), 6, 12].getD (t.draw 3).1.toNat 0 ∧ [(4 : Int), 6, 12].getD (t.draw 3).1.toNat 0 < 1073741824 := by rcases pick3_in t with e | e | e <;> rw [e] <;> decide
      have e2 := stAt_put (t := (t.draw 3).2) la
      have e3 := draw_eq e2 hp.1 hp.2
      simp [draw_eq e, at3 h.1 h.2, -List.getD_eq_getElem?_getD, e3]
    · exact .bad
  · exact .bad
def otherM (t : Stm) (n a : Int) : Int × Stm := ((a + 1 + (t.draw (n - 1)).1) % n, (t.draw (n - 1)).2)
noncomputable def F_l_other (args : List Va) (s : Sto) : Rs Va := match args with
  | [.ref a, .int n, .int u] => match stAt s a with
    | some t => if 2 ≤ n ∧ n < 1073741824 then .ok (.int (otherM t n u).1) (s.set a (otherM t n u).2.ob) else .bad
    | none => .bad
  | _ => .bad
theorem fin_l_other (args : List Va) (s : Sto) (wf : WFn s.length s) (wa : vasB s.length args) (hl : args.length = 3) : Fin s.length (b_l_other (startA 3 args) s) (F_l_other args s) := by
  unfold F_l_other
  split
  · rename_i a n u
    split
    · rename_i t e
      split
      · rename_i hc
        refine Fin.ret0 ?_ (by rw [List.length_set]) trivial (wf_set wf (Stm.b _ _))
        unfold b_l_other startA otherM
        simp [draw_eq e (show 0 < n - 1 by omega) (show n - 1 < 1073741824 by omega), show 0 < n by omega]
      · exact .bad
    · exact .bad
  · exact .bad

/-! ### records -/
inductive Rec where
  | before (a b g : Int) | same (a b : Int) | within (a b g : Int) | since (a y w : Int) | upto (a y w : Int) | kind (a : Int) (k : Str)
def Rec.va : Rec → Va
  | .before a b g => .tup [.str "before", .int a, .int b, .int g]
  | .same a b => .tup [.str "same", .int a, .int b]
  | .within a b g => .tup [.str "within", .int a, .int b, .int g]
  | .since a y w => .tup [.str "since", .int a, .int y, .int w]
  | .upto a y w => .tup [.str "until", .int a, .int y, .int w]
  | .kind a k => .tup [.str "kind", .int a, .str k]
theorem Rec.b (r : Rec) (n : Nat) : vaB n r.va := by
  cases r <;> exact ⟨trivial, trivial, trivial, by first | exact trivial | exact ⟨trivial, trivial⟩⟩
noncomputable def b_l_record : DS := (sSeq (sSet 3 (dApp (gFn 2 F_l_pick) (dCons (dV 0) (dCons (dV 2) dNil))))
  (sSeq (sSet 4 (dApp (gFn 2 F_l_draw) (dCons (dV 0) (dCons (dV 1) dNil))))
  (sSeq (sIf (dOr (dTB (dBin (gEq false) (dV 3) (dC (.str "kind")))) (dAnd (dTB (dBin (gEq false) (dV 1) (dC (.int 1)))) (dTB (dBin (gIn false) (dV 3) (dTup (dCons (dC (.str "before")) (dCons (dC (.str "same")) (dCons (dC (.str "within")) dNil)))))))) (sRet (dTup (dCons (dC (.str "kind")) (dCons (dV 4) (dCons (dBin gIx (dLst false (dCons (dC (.str "a")) (dCons (dC (.str "b")) (dCons (dC (.str "c")) (dCons (dC (.str "pot")) (dCons (dC (.str "zzzzzzzz")) dNil)))))) (dApp (gFn 2 F_l_draw) (dCons (dV 0) (dCons (dC (.int 5)) dNil)))) dNil))))) sNext)
  (sSeq (sIf (dTB (dBin (gIn false) (dV 3) (dTup (dCons (dC (.str "since")) (dCons (dC (.str "until")) dNil))))) (sSeq (sSet 5 (dApp (gFn 2 F_l_pick) (dCons (dV 0) (dCons (dLst false (dCons (dBin gSub (dApp (gFn 2 F_l_draw) (dCons (dV 0) (dCons (dC (.int 40)) dNil))) (dC (.int 20))) (dCons (dBin gSub (dApp (gFn 2 F_l_draw) (dCons (dV 0) (dCons (dC (.int 40001)) dNil))) (dC (.int 20000))) dNil))) dNil))))
  (sRet (dTup (dCons (dV 3) (dCons (dV 4) (dCons (dV 5) (dCons (dApp (gFn 2 F_l_pick) (dCons (dV 0) (dCons (dLst false (dCons (dC (.int 1)) (dCons (dBin (gAdd false) (dC (.int 1)) (dApp (gFn 2 F_l_draw) (dCons (dV 0) (dCons (dC (.int 5)) dNil)))) (dCons (dBin (gAdd false) (dC (.int 1)) (dApp (gFn 2 F_l_draw) (dCons (dV 0) (dCons (dC (.int 100)) dNil)))) dNil)))) dNil))) dNil))))))) sNext)
  (sSeq (sSet 6 (dApp (gFn 3 F_l_other) (dCons (dV 0) (dCons (dV 1) (dCons (dV 4) dNil)))))
  (sSeq (sIf (dTB (dBin (gEq false) (dV 3) (dC (.str "same")))) (sRet (dTup (dCons (dV 3) (dCons (dV 4) (dCons (dV 6) dNil))))) sNext)
  (sRet (dTup (dCons (dV 3) (dCons (dV 4) (dCons (dV 6) (dCons (dApp (gFn 2 F_l_pick) (dCons (dV 0) (dCons (dLst false (dCons (dC (.int 0)) (dCons (dApp (gFn 2 F_l_draw) (dCons (dV 0) (dCons (dC (.int 12)) dNil))) (dCons (dApp (gFn 2 F_l_draw) (dCons (dV 0) (dCons (dC (.int 5001)) dNil))) dNil)))) dNil))) dNil))))))))))))
def strsOf : List Va → Option (List Str)
  | [] => some []
  | .str i :: xs => (strsOf xs).map (i :: ·)
  | _ :: _ => none
theorem strsOf_eq : ∀ {xs : List Va} {ns : List Str}, strsOf xs = some ns → xs = ns.map .str
  | [], ns, h => by
    cases h
    rfl
  | x :: xs, ns, h => by
    cases x <;> simp [strsOf] at h
    obtain ⟨ms, h1, h2⟩ := h
    rw [← h2, strsOf_eq h1]
    rfl
def sixWords : List Str := ["before", "same", "within", "since", "until", "kind"]
def kindNames : List Str := ["a", "b", "c", "pot", "zzzzzzzz"]
def recordW (W : Str) (a : Int) (q : Stm) (n : Int) : Rec × Stm :=
  if W = "kind" ∨ (n = 1 ∧ (W = "before" ∨ W = "same" ∨ W = "within")) then (.kind a (kindNames.getD (q.draw 5).1.toNat ""), (q.draw 5).2)
  else if W = "since" ∨ W = "until" then
    let d1 := q.draw 40
    let d2 := d1.2.draw 40001
    let pk := d2.2.draw 2
    let y := [d1.1 - 20, d2.1 - 20000].getD pk.1.toNat 0
    let e1 := pk.2.draw 5
    let e2 := e1.2.draw 100
    let pl := e2.2.draw 3
    let w := [1, 1 + e1.1, 1 + e2.1].getD pl.1.toNat 0
    (if W = "since" then .since a y w else .upto a y w, pl.2)
  else
    let b := otherM q n a
    if W = "same" then (.same a b.1, b.2) else
    let d1 := b.2.draw 12
    let d2 := d1.2.draw 5001
    let pk := d2.2.draw 3
    let g := [0, d1.1, d2.1].getD pk.1.toNat 0
    (if W = "before" then .before a b.1 g else .within a b.1 g, pk.2)
def recordM (t : Stm) (n : Int) (words : List Str) : Rec × Stm :=
  recordW (words.getD (t.draw words.length).1.toNat "") ((t.draw words.length).2.draw n).1 ((t.draw words.length).2.draw n).2 n
noncomputable def F_l_record (args : List Va) (s : Sto) : Rs Va := match args with
  | [.ref a, .int n, .lst ws] => match stAt s a, strsOf ws with
    | some t, some words => if 1 ≤ n ∧ n ≤ 1000 ∧ 0 < words.length ∧ words.length ≤ 1000 ∧ (∀ x ∈ words, x ∈ sixWords) then .ok (recordM t n words).1.va (s.set a (recordM t n words).2.ob) else .bad
    | _, _ => .bad
  | _ => .bad
theorem pick_eq {s : Sto} {a : Nat} {t : Stm} {xs : List Va} (h : stAt s a = some t) (h1 : 0 < xs.length) (h2 : xs.length < 1073741824) : F_l_pick [.ref a, .lst xs] s = .ok (xs.getD (t.draw xs.length).1.toNat .non) (s.set a (t.draw xs.length).2.ob) := by
  unfold F_l_pick
  simp only [h, h1, h2, and_self, if_true]
theorem at5 {a b c d e : Str} {i : Int} (h0 : 0 ≤ i) (h1 : i < 5) : atI [Va.str a, .str b, .str c, .str d, .str e] i = some (.str ([a, b, c, d, e].getD i.toNat "")) := by
  have e : i = 0 ∨ i = 1 ∨ i = 2 ∨ i = 3 ∨ i = 4 := by omega
  rcases e with rfl | rfl | rfl | rfl | rfl <;> rfl
theorem gd3 {a b c i : Int} (h0 : 0 ≤ i) (h1 : i < 3) : [Va.int a, .int b, .int c].getD i.toNat .non = .int ([a, b, c].getD i.toNat 0) := by
  have e : i = 0 ∨ i = 1 ∨ i = 2 := by omega
  rcases e with rfl | rfl | rfl <;> rfl
theorem gd2 {a b i : Int} (h0 : 0 ≤ i) (h1 : i < 2) : [Va.int a, .int b].getD i.toNat .non = .int ([a, b].getD i.toNat 0) := by
  have e : i = 0 ∨ i = 1 := by omega
  rcases e with rfl | rfl <;> rfl
end Dn

set_option Elab.async false
set_option linter.all false
set_option maxRecDepth 100000
set_option maxHeartbeats 4000000
/-! Dn, part N: a drawn record. -/
namespace Dn
open PySem PySem.Spec PyProof.Rows L2

theorem six_cases {x : Str} (h : x ∈ sixWords) : x = "before" ∨ x = "same" ∨ x = "within" ∨ x = "since" ∨ x = "until" ∨ x = "kind" := by
  unfold sixWords at h
  simp only [List.mem_cons, List.mem_nil_iff, or_false] at h
  exact h
theorem getD_mem {α : Type} {xs : List α} {i : Nat} {d : α} (h : i < xs.length) : xs.getD i d ∈ xs := by
  rw [List.getD_eq_getElem?_getD, List.getElem?_eq_getElem h]
  exact List.getElem_mem h
theorem str_in3 {a b c x : Str} {s : Sto} : gIn false (.str x) (.tup [.str a, .str b, .str c]) s = .ok (.bl (decide (x = a ∨ x = b ∨ x = c))) s := by
  unfold gIn
  simp [gLook, dicK?, dicT?, seqA, flatA, inA, eqFA, eq_comm]
  rw [Bool.eq_iff_iff]
  simp
theorem str_in2 {a b x : Str} {s : Sto} : gIn false (.str x) (.tup [.str a, .str b]) s = .ok (.bl (decide (x = a ∨ x = b))) s := by
  unfold gIn
  simp [gLook, dicK?, dicT?, seqA, flatA, inA, eqFA, eq_comm]
  rw [Bool.eq_iff_iff]
  simp
section
variable {s : Sto} {a : Nat} {u : Stm}
theorem draw_st (la : a < s.length) {m : Int} (h1 : 0 < m) (h2 : m < 1073741824) : F_l_draw [.ref a, .int m] (s.set a u.ob) = .ok (.int (u.draw m).1) (s.set a (u.draw m).2.ob) := by
  rw [draw_eq (stAt_put la) h1 h2, List.set_set]
theorem pick3_st (la : a < s.length) {x y z : Int} : F_l_pick [.ref a, .lst [.int x, .int y, .int z]] (s.set a u.ob) = .ok (.int ([x, y, z].getD (u.draw 3).1.toNat 0)) (s.set a (u.draw 3).2.ob) := by
  have h := u.draw_in (m := 3) (by decide)
  rw [pick_eq (xs := [.int x, .int y, .int z]) (stAt_put la) (by simp) (by simp), List.set_set]
  show Rs.ok ([Va.int x, .int y, .int z].getD (u.draw 3).1.toNat .non) _ = _
  rw [gd3 h.1 h.2]
  rfl
theorem pick2_st (la : a < s.length) {x y : Int} : F_l_pick [.ref a, .lst [.int x, .int y]] (s.set a u.ob) = .ok (.int ([x, y].getD (u.draw 2).1.toNat 0)) (s.set a (u.draw 2).2.ob) := by
  have h := u.draw_in (m := 2) (by decide)
  rw [pick_eq (xs := [.int x, .int y]) (stAt_put la) (by simp) (by simp), List.set_set]
  show Rs.ok ([Va.int x, .int y].getD (u.draw 2).1.toNat .non) _ = _
  rw [gd2 h.1 h.2]
  rfl
theorem other_st (la : a < s.length) {n b : Int} (h1 : 2 ≤ n) (h2 : n < 1073741824) : F_l_other [.ref a, .int n, .int b] (s.set a u.ob) = .ok (.int (otherM u n b).1) (s.set a (otherM u n b).2.ob) := by
  unfold F_l_other
  simp only [stAt_put la, h1, h2, and_self, if_true, List.set_set]
theorem at5_st {b c d e f : Str} : atI [Va.str b, .str c, .str d, .str e, .str f] (u.draw 5).1 = some (.str ([b, c, d, e, f].getD (u.draw 5).1.toNat "")) := by
  have h := u.draw_in (m := 5) (by decide)
  exact at5 h.1 h.2
end
theorem fin_l_record (args : List Va) (s : Sto) (wf : WFn s.length s) (wa : vasB s.length args) (hl : args.length = 3) : Fin s.length (b_l_record (startA 7 args) s) (F_l_record args s) := by
  unfold F_l_record
  split
  · rename_i a n ws
    split
    · rename_i t words e ew
      split
      · rename_i hc
        obtain ⟨c1, c2, c3, c4, c5⟩ := hc
        have ew := strsOf_eq ew
        subst ew
        have la := stAt_lt e
        refine Fin.ret0 ?_ (by rw [List.length_set]) (Rec.b _ _) (wf_set wf (Stm.b _ _))
        have hp := t.draw_in (m := words.length) (by omega)
        have hi : (t.draw words.length).1.toNat < words.length := by omega
        have g1 : (words.map Va.str).getD (t.draw words.length).1.toNat .non = .str (words.getD (t.draw words.length).1.toNat "") := getD_map Va.str words _ "" .non hi
        have hw := six_cases (c5 (words.getD (t.draw words.length).1.toNat "") (getD_mem hi))
        have p1 := pick_eq (xs := words.map Va.str) e (by rw [List.length_map]; exact c3) (by rw [List.length_map]; omega)
        rw [List.length_map, g1] at p1
        unfold b_l_record startA recordM
        generalize words.getD (t.draw words.length).1.toNat "" = W at p1 hw ⊢
        generalize (t.draw words.length).2 = t1 at p1 ⊢
        have n0 : 0 < n := by omega
        have n1 : n < 1073741824 := by omega
        unfold recordW
        rcases hw with rfl | rfl | rfl | rfl | rfl | rfl
        · by_cases hn : n = 1
          · simp [p1, n0, n1, str_in3, draw_st la, at5_st, Rec.va, kindNames, -List.getD_eq_getElem?_getD, hn]
          · simp [p1, n0, n1, str_in3, str_in2, draw_st la, pick3_st la, other_st la (show 2 ≤ n by omega) (show n < 1073741824 by omega), Rec.va, kindNames, -List.getD_eq_getElem?_getD, hn]
        · by_cases hn : n = 1
          · simp [p1, n0, n1, str_in3, draw_st la, at5_st, Rec.va, kindNames, -List.getD_eq_getElem?_getD, hn]
          · simp [p1, n0, n1, str_in3, str_in2, draw_st la, pick3_st la, other_st la (show 2 ≤ n by omega) (show n < 1073741824 by omega), Rec.va, kindNames, -List.getD_eq_getElem?_getD, hn]
        · by_cases hn : n = 1
          · simp [p1, n0, n1, str_in3, draw_st la, at5_st, Rec.va, kindNames, -List.getD_eq_getElem?_getD, hn]
          · simp [p1, n0, n1, str_in3, str_in2, draw_st la, pick3_st la, other_st la (show 2 ≤ n by omega) (show n < 1073741824 by omega), Rec.va, kindNames, -List.getD_eq_getElem?_getD, hn]
        · simp [p1, n0, n1, str_in3, str_in2, draw_st la, pick3_st la, pick2_st la, Rec.va, kindNames, -List.getD_eq_getElem?_getD]
        · simp [p1, n0, n1, str_in3, str_in2, draw_st la, pick3_st la, pick2_st la, Rec.va, kindNames, -List.getD_eq_getElem?_getD]
        · simp [p1, n0, n1, draw_st la, at5_st, Rec.va, kindNames, -List.getD_eq_getElem?_getD]
      · exact .bad
    · exact .bad
  · exact .bad
end Dn

set_option Elab.async false
set_option linter.all false
set_option maxRecDepth 100000
set_option maxHeartbeats 4000000
/-! Dn, part O: a value that is the same as another one; whether a dating keeps a record. -/
namespace Dn
open PySem PySem.Spec PyProof.Rows L2
mutual
def datB : Va → Bool
  | .non => true
  | .bl _ => true
  | .int _ => true
  | .str _ => true
  | .tup xs => decide (xs.length ≤ 100000) && datsB xs
  | .lst xs => decide (xs.length ≤ 100000) && datsB xs
  | _ => false
def datsB : List Va → Bool
  | [] => true
  | x :: xs => datB x && datsB xs
end
mutual
def dep : Va → Nat
  | .tup xs => deps xs + 1
  | .lst xs => deps xs + 1
  | _ => 0
def deps : List Va → Nat
  | [] => 0
  | x :: xs => max (dep x) (deps xs)
end
mutual
def sameB : Va → Va → Bool
  | .non, .non => true
  | .bl a, .bl b => decide (a = b)
  | .int a, .int b => decide (a = b)
  | .str a, .str b => decide (a = b)
  | .tup xs, .tup ys => samesB xs ys
  | .lst xs, .lst ys => samesB xs ys
  | _, _ => false
def samesB : List Va → List Va → Bool
  | [], [] => true
  | x :: xs, y :: ys => sameB x y && samesB xs ys
  | _, _ => false
end
noncomputable def F_l_same (d : Nat) (args : List Va) (s : Sto) : Rs Va := match args with
  | [x, y] => if datB x = true ∧ datB y = true ∧ dep y < d then .ok (.bl (sameB x y)) s else .bad
  | _ => .bad
noncomputable def b_l_same (d : Nat) : DS := (sSeq (sIf (dOr (dTr (dUn (gIsi "tuple") (dV 1))) (dTr (dUn (gIsi "list") (dV 1)))) (sSeq (sIf (dOr (dTB (dBin (gEq true) (dUn (gIsi "tuple") (dV 0)) (dUn (gIsi "tuple") (dV 1)))) (dTB (dBin (gEq true) (dUn (gIsi "list") (dV 0)) (dUn (gIsi "list") (dV 1))))) (sRet (dC (.bl false))) sNext)
  (sRet (dAndV (dBin (gEq false) (dApp gLen (dCons (dV 0) dNil)) (dApp gLen (dCons (dV 1) dNil))) (dApp gAll (dCons (dLc false (dRg1 (dCons (dApp gLen (dCons (dV 1) dNil)) dNil)) (dgName 2) dYes (dApp (gFn 2 (F_l_same d)) (dCons (dBin gIx (dV 0) (dV 2)) (dCons (dBin gIx (dV 1) (dV 2)) dNil))) [2]) dNil))))) sNext)
  (sSeq (sIf (dTB (dBin (gIs false) (dV 1) (dC .non))) (sRet (dBin (gIs false) (dV 0) (dC .non))) sNext)
  (sSeq (sIf (dTr (dUn (gIsi "str") (dV 1))) (sRet (dAndV (dUn (gIsi "str") (dV 0)) (dBin (gEq false) (dV 0) (dV 1)))) sNext)
  (sRet (dAndV (dUn (gIsi "int") (dV 0)) (dAndV (dBin (gEq false) (dUn (gIsi "bool") (dV 0)) (dUn (gIsi "bool") (dV 1))) (dBin (gEq false) (dV 0) (dV 1))))))))
theorem samesB_len : ∀ {xs ys : List Va}, xs.length ≠ ys.length → samesB xs ys = false
  | [], [], h => absurd rfl h
  | [], _ :: _, _ => by unfold samesB; rfl
  | _ :: _, [], _ => by unfold samesB; rfl
  | x :: xs, y :: ys, h => by
    unfold samesB
    rw [samesB_len (xs := xs) (ys := ys) (fun e => h (by rw [List.length_cons, List.length_cons, e]))]
    exact Bool.and_false _
theorem samesB_rg : ∀ {xs ys : List Va}, xs.length = ys.length → ((List.range ys.length).map fun i => sameB (xs.getD i .non) (ys.getD i .non)).all id = samesB xs ys
  | [], [], _ => rfl
  | [], _ :: _, h => by simp at h
  | _ :: _, [], h => by simp at h
  | x :: xs, y :: ys, h => by
    have ih := samesB_rg (xs := xs) (ys := ys) (by simpa using h)
    rw [List.length_cons, List.range_succ_eq_map, List.map_cons, List.all_cons, List.map_map]
    unfold samesB
    rw [← ih]
    rfl
theorem datsB_get : ∀ {xs : List Va} {i : Nat}, datsB xs = true → datB (xs.getD i .non) = true
  | [], _, _ => by rw [List.getD_nil]; rfl
  | x :: xs, 0, h => by
    unfold datsB at h
    rw [Bool.and_eq_true] at h
    exact h.1
  | x :: xs, i + 1, h => by
    unfold datsB at h
    rw [Bool.and_eq_true] at h
    rw [List.getD_cons_succ]
    exact datsB_get h.2
theorem deps_get : ∀ {xs : List Va} {i : Nat}, dep (xs.getD i .non) ≤ deps xs
  | [], _ => by rw [List.getD_nil]; exact Nat.zero_le _
  | x :: xs, 0 => by
    unfold deps
    exact Nat.le_max_left _ _
  | x :: xs, i + 1 => by
    unfold deps
    rw [List.getD_cons_succ]
    exact Nat.le_trans deps_get (Nat.le_max_right _ _)
theorem gIx_at {x : Va} {xs : List Va} {i : Nat} {s : Sto} (h : seqA x s = some xs) (hi : i < xs.length) : gIx x (.int (i : Int)) s = .ok (xs.getD i .non) s := by
  unfold gIx
  rw [h]
  dsimp only
  rw [atI_in .non (by omega) (by omega)]
  rfl
theorem isi_of {T t : String} {x : Va} {s : Sto} {b : Bool} (h : tyA x s = some t) (k : kitB t T = some b) : gIsi T x s = .ok (.bl b) s := by
  unfold gIsi
  rw [h]
  dsimp only
  rw [k]
@[simp] theorem isi_tuple_tuple {xs : List Va} {s : Sto} : gIsi "tuple" (.tup xs) s = .ok (.bl true) s := isi_of (show tyA (.tup xs) s = some "tuple" from rfl) (by decide +kernel)
@[simp] theorem isi_tuple_list {xs : List Va} {s : Sto} : gIsi "tuple" (.lst xs) s = .ok (.bl false) s := isi_of (show tyA (.lst xs) s = some "list" from rfl) (by decide +kernel)
@[simp] theorem isi_tuple_str {x : Str} {s : Sto} : gIsi "tuple" (.str x) s = .ok (.bl false) s := isi_of (show tyA (.str x) s = some "str" from rfl) (by decide +kernel)
@[simp] theorem isi_tuple_int {i : Int} {s : Sto} : gIsi "tuple" (.int i) s = .ok (.bl false) s := isi_of (show tyA (.int i) s = some "int" from rfl) (by decide +kernel)
@[simp] theorem isi_tuple_bool {b : Bool} {s : Sto} : gIsi "tuple" (.bl b) s = .ok (.bl false) s := isi_of (show tyA (.bl b) s = some "bool" from rfl) (by decide +kernel)
@[simp] theorem isi_tuple_NoneType  {s : Sto} : gIsi "tuple" (.non) s = .ok (.bl false) s := isi_of (show tyA (.non) s = some "NoneType" from rfl) (by decide +kernel)
@[simp] theorem isi_list_tuple {xs : List Va} {s : Sto} : gIsi "list" (.tup xs) s = .ok (.bl false) s := isi_of (show tyA (.tup xs) s = some "tuple" from rfl) (by decide +kernel)
@[simp] theorem isi_list_list {xs : List Va} {s : Sto} : gIsi "list" (.lst xs) s = .ok (.bl true) s := isi_of (show tyA (.lst xs) s = some "list" from rfl) (by decide +kernel)
@[simp] theorem isi_list_str {x : Str} {s : Sto} : gIsi "list" (.str x) s = .ok (.bl false) s := isi_of (show tyA (.str x) s = some "str" from rfl) (by decide +kernel)
@[simp] theorem isi_list_int {i : Int} {s : Sto} : gIsi "list" (.int i) s = .ok (.bl false) s := isi_of (show tyA (.int i) s = some "int" from rfl) (by decide +kernel)
@[simp] theorem isi_list_bool {b : Bool} {s : Sto} : gIsi "list" (.bl b) s = .ok (.bl false) s := isi_of (show tyA (.bl b) s = some "bool" from rfl) (by decide +kernel)
@[simp] theorem isi_list_NoneType  {s : Sto} : gIsi "list" (.non) s = .ok (.bl false) s := isi_of (show tyA (.non) s = some "NoneType" from rfl) (by decide +kernel)
@[simp] theorem isi_str_tuple {xs : List Va} {s : Sto} : gIsi "str" (.tup xs) s = .ok (.bl false) s := isi_of (show tyA (.tup xs) s = some "tuple" from rfl) (by decide +kernel)
@[simp] theorem isi_str_list {xs : List Va} {s : Sto} : gIsi "str" (.lst xs) s = .ok (.bl false) s := isi_of (show tyA (.lst xs) s = some "list" from rfl) (by decide +kernel)
@[simp] theorem isi_str_str {x : Str} {s : Sto} : gIsi "str" (.str x) s = .ok (.bl true) s := isi_of (show tyA (.str x) s = some "str" from rfl) (by decide +kernel)
@[simp] theorem isi_str_int {i : Int} {s : Sto} : gIsi "str" (.int i) s = .ok (.bl false) s := isi_of (show tyA (.int i) s = some "int" from rfl) (by decide +kernel)
@[simp] theorem isi_str_bool {b : Bool} {s : Sto} : gIsi "str" (.bl b) s = .ok (.bl false) s := isi_of (show tyA (.bl b) s = some "bool" from rfl) (by decide +kernel)
@[simp] theorem isi_str_NoneType  {s : Sto} : gIsi "str" (.non) s = .ok (.bl false) s := isi_of (show tyA (.non) s = some "NoneType" from rfl) (by decide +kernel)
@[simp] theorem isi_int_tuple {xs : List Va} {s : Sto} : gIsi "int" (.tup xs) s = .ok (.bl false) s := isi_of (show tyA (.tup xs) s = some "tuple" from rfl) (by decide +kernel)
@[simp] theorem isi_int_list {xs : List Va} {s : Sto} : gIsi "int" (.lst xs) s = .ok (.bl false) s := isi_of (show tyA (.lst xs) s = some "list" from rfl) (by decide +kernel)
@[simp] theorem isi_int_str {x : Str} {s : Sto} : gIsi "int" (.str x) s = .ok (.bl false) s := isi_of (show tyA (.str x) s = some "str" from rfl) (by decide +kernel)
@[simp] theorem isi_int_int {i : Int} {s : Sto} : gIsi "int" (.int i) s = .ok (.bl true) s := isi_of (show tyA (.int i) s = some "int" from rfl) (by decide +kernel)
@[simp] theorem isi_int_bool {b : Bool} {s : Sto} : gIsi "int" (.bl b) s = .ok (.bl true) s := isi_of (show tyA (.bl b) s = some "bool" from rfl) (by decide +kernel)
@[simp] theorem isi_int_NoneType  {s : Sto} : gIsi "int" (.non) s = .ok (.bl false) s := isi_of (show tyA (.non) s = some "NoneType" from rfl) (by decide +kernel)
@[simp] theorem isi_bool_tuple {xs : List Va} {s : Sto} : gIsi "bool" (.tup xs) s = .ok (.bl false) s := isi_of (show tyA (.tup xs) s = some "tuple" from rfl) (by decide +kernel)
@[simp] theorem isi_bool_list {xs : List Va} {s : Sto} : gIsi "bool" (.lst xs) s = .ok (.bl false) s := isi_of (show tyA (.lst xs) s = some "list" from rfl) (by decide +kernel)
@[simp] theorem isi_bool_str {x : Str} {s : Sto} : gIsi "bool" (.str x) s = .ok (.bl false) s := isi_of (show tyA (.str x) s = some "str" from rfl) (by decide +kernel)
@[simp] theorem isi_bool_int {i : Int} {s : Sto} : gIsi "bool" (.int i) s = .ok (.bl false) s := isi_of (show tyA (.int i) s = some "int" from rfl) (by decide +kernel)
@[simp] theorem isi_bool_bool {b : Bool} {s : Sto} : gIsi "bool" (.bl b) s = .ok (.bl true) s := isi_of (show tyA (.bl b) s = some "bool" from rfl) (by decide +kernel)
@[simp] theorem isi_bool_NoneType  {s : Sto} : gIsi "bool" (.non) s = .ok (.bl false) s := isi_of (show tyA (.non) s = some "NoneType" from rfl) (by decide +kernel)
theorem Fin.ret1 {raw : Fl} {v : Va} {s : Sto} (h : raw = .ret v s) (hv : vaB s.length v) (hw : WFn s.length s) : Fin s.length raw (.ok v s) := Fin.ret0 h rfl hv hw
theorem same_eq {d : Nat} {x y : Va} {s : Sto} : F_l_same d [x, y] s = if datB x = true ∧ datB y = true ∧ dep y < d then .ok (.bl (sameB x y)) s else .bad := rfl
theorem same_loop {d : Nat} {x y : Va} {xs ys : List Va} {s : Sto} (hx : seqA x s = some xs) (hy : seqA y s = some ys) (hl : xs.length = ys.length) (dx : datsB xs = true) (dy : datsB ys = true) (hd : deps ys < d) :
    cl none (dgName 2) dYes (dApp (gFn 2 (F_l_same d)) (dCons (dBin gIx (dV 0) (dV 2)) (dCons (dBin gIx (dV 1) (dV 2)) dNil))) [some x, some y, none] (rgA 0 ys.length) [] s = .ok (((List.range ys.length).map fun i => sameB (xs.getD i .non) (ys.getD i .non)).map .bl) s := by
  unfold rgA
  rw [Int.sub_zero, Int.toNat_natCast]
  rw [cl_all (fun i : Nat => Va.int (0 + (i : Int))) (fun i : Nat => Va.bl (sameB (xs.getD i .non) (ys.getD i .non))), List.nil_append, List.map_map]
  · rfl
  · intro i hi
    have hi := List.mem_range.mp hi
    have q1 := gIx_at (s := s) hx (by rw [hl]; exact hi)
    have q2 := gIx_at (s := s) hy hi
    have c1 := datsB_get (i := i) dx
    have c2 := datsB_get (i := i) dy
    have c3 := deps_get (xs := ys) (i := i)
    rw [Int.zero_add]
    simp only [e_App, e_Cons, e_Bin, e_V, e_Nil, List.set, List.getElem?_cons_zero, List.getElem?_cons_succ, bind_ok, q1, q2, e_gFn, List.length_cons, List.length_nil]
    rw [same_eq, if_pos ⟨c1, c2, by omega⟩]
end Dn

set_option Elab.async false
set_option linter.all false
set_option maxRecDepth 100000
set_option maxHeartbeats 4000000
/-! Dn, part P: the same value: the body. -/
namespace Dn
open PySem PySem.Spec PyProof.Rows L2
theorem same_tup_eq {d : Nat} {xs ys : List Va} {s : Sto} (hq : xs.length = ys.length) (d1 : xs.length ≤ 100000 ∧ datsB xs = true) (d2 : ys.length ≤ 100000 ∧ datsB ys = true) (d3 : deps ys < d) : b_l_same d [some (.tup xs), some (.tup ys), none] s = .ret (.bl (samesB xs ys)) s := by
  unfold b_l_same
  have L := same_loop (s := s) (x := .tup xs) (y := .tup ys) rfl rfl hq d1.2 d2.2 d3
  rw [← samesB_rg hq]
  have hr : inR (ys.length : Int) := ⟨by omega, by omega⟩
  have hl : leq (rgA 0 (ys.length : Int)).length 100000 := by unfold leq; rw [rgA_len]; omega
  generalize (List.range ys.length).map (fun i => sameB (xs.getD i .non) (ys.getD i .non)) = bs at L ⊢
  simp only [e_seq, e_ifS, e_Or, e_Tr, e_Un, e_V, List.getElem?_cons_zero, List.getElem?_cons_succ, bind_ok, isi_tuple_tuple, isi_list_tuple, truA, fl_ok, if_true, if_false, e_TB, e_Bin, g_eq_bl, Bool.false_eq_true, decide_true, decide_false, bne_self_eq_false, e_ret, e_AndV, e_App, e_Cons, e_Nil, g_len_tup, g_len_lst, g_eq_int, hq, e_next, e_C]
  simp only [e_Lc, e_rg1, e_Cons, e_Nil, e_App, e_V, List.getElem?_cons_zero, List.getElem?_cons_succ, bind_ok, g_len_tup, g_len_lst, hr, and_self, if_true, hl, wip, List.set, L, g_mkL_f, gAll, seqL, blsOf_map, fl_ok, Bool.false_bne]
theorem same_tup_ne {d : Nat} {xs ys : List Va} {s : Sto} (hq : xs.length ≠ ys.length) : b_l_same d [some (.tup xs), some (.tup ys), none] s = .ret (.bl (samesB xs ys)) s := by
  unfold b_l_same
  rw [samesB_len hq]
  have hq2 : ¬ (xs.length : Int) = (ys.length : Int) := fun e => hq (by omega)
  simp only [e_seq, e_ifS, e_Or, e_Tr, e_Un, e_V, List.getElem?_cons_zero, List.getElem?_cons_succ, bind_ok, isi_tuple_tuple, isi_list_tuple, truA, fl_ok, if_true, if_false, e_TB, e_Bin, g_eq_bl, Bool.false_eq_true, decide_true, decide_false, bne_self_eq_false, e_ret, e_AndV, e_App, e_Cons, e_Nil, g_len_tup, g_len_lst, g_eq_int, hq2, e_next, e_C]
theorem same_lst_eq {d : Nat} {xs ys : List Va} {s : Sto} (hq : xs.length = ys.length) (d1 : xs.length ≤ 100000 ∧ datsB xs = true) (d2 : ys.length ≤ 100000 ∧ datsB ys = true) (d3 : deps ys < d) : b_l_same d [some (.lst xs), some (.lst ys), none] s = .ret (.bl (samesB xs ys)) s := by
  unfold b_l_same
  have L := same_loop (s := s) (x := .lst xs) (y := .lst ys) rfl rfl hq d1.2 d2.2 d3
  rw [← samesB_rg hq]
  have hr : inR (ys.length : Int) := ⟨by omega, by omega⟩
  have hl : leq (rgA 0 (ys.length : Int)).length 100000 := by unfold leq; rw [rgA_len]; omega
  generalize (List.range ys.length).map (fun i => sameB (xs.getD i .non) (ys.getD i .non)) = bs at L ⊢
  simp only [e_seq, e_ifS, e_Or, e_Tr, e_Un, e_V, List.getElem?_cons_zero, List.getElem?_cons_succ, bind_ok, isi_tuple_list, isi_list_list, truA, fl_ok, if_true, if_false, e_TB, e_Bin, g_eq_bl, Bool.false_eq_true, decide_true, decide_false, bne_self_eq_false, e_ret, e_AndV, e_App, e_Cons, e_Nil, g_len_tup, g_len_lst, g_eq_int, hq, e_next, e_C]
  simp only [e_Lc, e_rg1, e_Cons, e_Nil, e_App, e_V, List.getElem?_cons_zero, List.getElem?_cons_succ, bind_ok, g_len_tup, g_len_lst, hr, and_self, if_true, hl, wip, List.set, L, g_mkL_f, gAll, seqL, blsOf_map, fl_ok, Bool.false_bne]
theorem same_lst_ne {d : Nat} {xs ys : List Va} {s : Sto} (hq : xs.length ≠ ys.length) : b_l_same d [some (.lst xs), some (.lst ys), none] s = .ret (.bl (samesB xs ys)) s := by
  unfold b_l_same
  rw [samesB_len hq]
  have hq2 : ¬ (xs.length : Int) = (ys.length : Int) := fun e => hq (by omega)
  simp only [e_seq, e_ifS, e_Or, e_Tr, e_Un, e_V, List.getElem?_cons_zero, List.getElem?_cons_succ, bind_ok, isi_tuple_list, isi_list_list, truA, fl_ok, if_true, if_false, e_TB, e_Bin, g_eq_bl, Bool.false_eq_true, decide_true, decide_false, bne_self_eq_false, e_ret, e_AndV, e_App, e_Cons, e_Nil, g_len_tup, g_len_lst, g_eq_int, hq2, e_next, e_C]
theorem same_at {d : Nat} {x y : Va} {s : Sto} (c1 : datB x = true) (c2 : flatA y = true) : b_l_same d [some x, some y, none] s = .ret (.bl (sameB x y)) s := by
  unfold b_l_same
  cases y with
  | non => cases x <;> first | (simp [sameB, truA, gIs]; done) | (simp [datB] at c1; done)
  | bl b => cases x <;> first | (simp [sameB, truA, gIs]; done) | (simp [datB] at c1; done)
  | int i => cases x <;> first | (simp [sameB, truA, gIs]; done) | (simp [datB] at c1; done)
  | str z => cases x <;> first | (simp [sameB, truA, gIs]; done) | (simp [datB] at c1; done)
  | _ => simp [flatA] at c2
theorem same_no {d : Nat} {x : Va} {ys : List Va} {s : Sto} (c1 : datB x = true) : ((∀ xs, x ≠ .tup xs) → b_l_same d [some x, some (.tup ys), none] s = .ret (.bl false) s) ∧ ((∀ xs, x ≠ .lst xs) → b_l_same d [some x, some (.lst ys), none] s = .ret (.bl false) s) := by
  unfold b_l_same
  constructor
  · intro h
    cases x <;> first | (exact absurd rfl (h _)) | (simp [truA]; done) | (simp [datB] at c1; done)
  · intro h
    cases x <;> first | (exact absurd rfl (h _)) | (simp [truA]; done) | (simp [datB] at c1; done)
theorem datB_seq {xs : List Va} : (datB (.tup xs) = true → xs.length ≤ 100000 ∧ datsB xs = true) ∧ (datB (.lst xs) = true → xs.length ≤ 100000 ∧ datsB xs = true) := by
  constructor
  · intro h
    unfold datB at h
    rw [Bool.and_eq_true] at h
    exact ⟨of_decide_eq_true h.1, h.2⟩
  · intro h
    unfold datB at h
    rw [Bool.and_eq_true] at h
    exact ⟨of_decide_eq_true h.1, h.2⟩
theorem same_run {d : Nat} {x y : Va} {s : Sto} (c1 : datB x = true) (c2 : datB y = true) (c3 : dep y < d + 1) : b_l_same d [some x, some y, none] s = .ret (.bl (sameB x y)) s := by
  cases y with
  | non => exact same_at c1 rfl
  | bl b => exact same_at c1 rfl
  | int i => exact same_at c1 rfl
  | str z => exact same_at c1 rfl
  | tup ys =>
    have d2 := datB_seq.1 c2
    have d3 : deps ys < d := by
      unfold dep at c3
      omega
    cases x with
    | tup xs =>
      have d1 := datB_seq.1 c1
      unfold sameB
      by_cases hq : xs.length = ys.length
      · exact same_tup_eq hq d1 d2 d3
      · exact same_tup_ne hq
    | _ =>
      rw [(same_no c1).1 (fun _ h => nomatch h)]
      unfold sameB
      rfl
  | lst ys =>
    have d2 := datB_seq.2 c2
    have d3 : deps ys < d := by
      unfold dep at c3
      omega
    cases x with
    | lst xs =>
      have d1 := datB_seq.2 c1
      unfold sameB
      by_cases hq : xs.length = ys.length
      · exact same_lst_eq hq d1 d2 d3
      · exact same_lst_ne hq
    | _ =>
      rw [(same_no c1).2 (fun _ h => nomatch h)]
      unfold sameB
      rfl
  | _ => simp [datB] at c2
theorem fin_l_same {d : Nat} (args : List Va) (s : Sto) (wf : WFn s.length s) (wa : vasB s.length args) (hl : args.length = 2) : Fin s.length (b_l_same d (startA 3 args) s) (F_l_same (d + 1) args s) := by
  unfold F_l_same
  split
  · rename_i x y
    split
    · rename_i hc
      exact Fin.ret1 (same_run hc.1 hc.2.1 hc.2.2) trivial wf
    · exact .bad
  · exact .bad
end Dn

set_option Elab.async false
set_option linter.all false
set_option maxRecDepth 100000
set_option maxHeartbeats 4000000
/-! Dn, part Q: whether a dating keeps a record: the law's helper and the program's def. -/
namespace Dn
open PySem PySem.Spec PyProof.Rows L2
/-- a value that is a record's -/
def recOf : Va → Option Rec
  | .tup [.str w, .int a, .int b, .int g] => if w = "before" then some (.before a b g) else if w = "within" then some (.within a b g) else if w = "since" then some (.since a b g) else if w = "until" then some (.upto a b g) else none
  | .tup [.str w, .int a, .int b] => if w = "same" then some (.same a b) else none
  | .tup [.str w, .int a, .str k] => if w = "kind" then some (.kind a k) else none
  | _ => none
theorem recOf_va (r : Rec) : recOf r.va = some r := by
  cases r <;> simp [recOf, Rec.va]
theorem recOf_eq {x : Va} {r : Rec} (h : recOf x = some r) : x = r.va := by
  unfold recOf at h
  split at h
  · split at h
    · rename_i e
      cases h
      rw [e]
      rfl
    · split at h
      · rename_i e
        cases h
        rw [e]
        rfl
      · split at h
        · rename_i e
          cases h
          rw [e]
          rfl
        · split at h
          · rename_i e
            cases h
            rw [e]
            rfl
          · cases h
  · split at h
    · rename_i e
      cases h
      rw [e]
      rfl
    · cases h
  · split at h
    · rename_i e
      cases h
      rw [e]
      rfl
    · cases h
  · cases h
/-- the year of a unit -/
def yr (ys : List Int) (a : Int) : Int := ys.getD a.toNat 0
def Rec.keeps (ys : List Int) : Rec → Bool
  | .before a b g => decide (yr ys a + g ≤ yr ys b)
  | .same a b => decide (yr ys a = yr ys b)
  | .within a b g => decide (yr ys b ≤ yr ys a + g)
  | .since a y _ => decide (y ≤ yr ys a)
  | .upto a y _ => decide (yr ys a ≤ y)
  | .kind _ _ => true
/-- its units are below n -/
def Rec.fits (n : Int) : Rec → Prop
  | .before a b _ => (0 ≤ a ∧ a < n) ∧ (0 ≤ b ∧ b < n)
  | .same a b => (0 ≤ a ∧ a < n) ∧ (0 ≤ b ∧ b < n)
  | .within a b _ => (0 ≤ a ∧ a < n) ∧ (0 ≤ b ∧ b < n)
  | .since a _ _ => 0 ≤ a ∧ a < n
  | .upto a _ _ => 0 ≤ a ∧ a < n
  | .kind a _ => 0 ≤ a ∧ a < n
noncomputable instance (n : Int) (r : Rec) : Decidable (r.fits n) := Classical.propDecidable _
noncomputable def F_keeps (args : List Va) (s : Sto) : Rs Va := match args with
  | [x, d] => match recOf x, seqL d s with
    | some r, some xs => match intsOf xs with
      | some ys => if r.fits ys.length then .ok (.bl (r.keeps ys)) s else .bad
      | none => .bad
    | _, _ => .bad
  | _ => .bad
noncomputable abbrev F_l_keeps := F_keeps
noncomputable def b_l_keeps : DS := (sSeq (sSet 2 (dBin gIx (dV 0) (dC (.int 0))))
  (sSeq (sIf (dTB (dBin (gEq false) (dV 2) (dC (.str "kind")))) (sRet (dC (.bl true))) sNext)
  (sSeq (sIf (dTB (dBin (gEq false) (dV 2) (dC (.str "since")))) (sRet (dBin gGe (dBin gIx (dV 1) (dBin gIx (dV 0) (dC (.int 1)))) (dBin gIx (dV 0) (dC (.int 2))))) sNext)
  (sSeq (sIf (dTB (dBin (gEq false) (dV 2) (dC (.str "until")))) (sRet (dBin gLe (dBin gIx (dV 1) (dBin gIx (dV 0) (dC (.int 1)))) (dBin gIx (dV 0) (dC (.int 2))))) sNext)
  (sSeq (sSet 3 (dBin gSub (dBin gIx (dV 1) (dBin gIx (dV 0) (dC (.int 2)))) (dBin gIx (dV 1) (dBin gIx (dV 0) (dC (.int 1))))))
  (sSeq (sIf (dTB (dBin (gEq false) (dV 2) (dC (.str "same")))) (sRet (dBin (gEq false) (dV 3) (dC (.int 0)))) sNext)
  (sSeq (sIf (dTB (dBin (gEq false) (dV 2) (dC (.str "before")))) (sRet (dBin gGe (dV 3) (dBin gIx (dV 0) (dC (.int 3))))) sNext)
  (sRet (dBin gLe (dV 3) (dBin gIx (dV 0) (dC (.int 3))))))))))))
noncomputable def b_keeps : DS := (sSeq (sSet 2 (dBin gIx (dV 0) (dC (.int 0))))
  (sSeq (sIf (dTB (dBin (gEq false) (dV 2) (dC (.str "kind")))) (sRet (dC (.bl true))) sNext)
  (sSeq (sSet 3 (dBin gIx (dV 1) (dBin gIx (dV 0) (dC (.int 1)))))
  (sSeq (sIf (dTB (dBin (gEq false) (dV 2) (dC (.str "since")))) (sRet (dBin gGe (dV 3) (dBin gIx (dV 0) (dC (.int 2))))) sNext)
  (sSeq (sIf (dTB (dBin (gEq false) (dV 2) (dC (.str "until")))) (sRet (dBin gLe (dV 3) (dBin gIx (dV 0) (dC (.int 2))))) sNext)
  (sSeq (sSet 4 (dBin gIx (dV 1) (dBin gIx (dV 0) (dC (.int 2)))))
  (sSeq (sIf (dTB (dBin (gEq false) (dV 2) (dC (.str "before")))) (sRet (dBin gLe (dBin (gAdd false) (dV 3) (dBin gIx (dV 0) (dC (.int 3)))) (dV 4))) sNext)
  (sRet (dIf (dTB (dBin (gEq false) (dV 2) (dC (.str "same")))) (dBin (gEq false) (dV 3) (dV 4)) (dBin gLe (dV 4) (dBin (gAdd false) (dV 3) (dBin gIx (dV 0) (dC (.int 3))))))))))))))
theorem ix_yr {d : Va} {ys : List Int} {s : Sto} {a : Int} (h : seqL d s = some (ys.map .int)) (h0 : 0 ≤ a) (h1 : a < ys.length) : gIx d (.int a) s = .ok (.int (yr ys a)) s := by
  have h2 : seqA d s = some (ys.map .int) := by
    cases d <;> simp [seqL] at h <;> simp [seqA, h]
  unfold gIx
  rw [h2]
  dsimp only
  rw [atI_in .non h0 (by rw [List.length_map]; exact h1), getD_map Va.int ys a.toNat 0 .non (by omega)]
  rfl
theorem keeps_run {r : Rec} {d : Va} {ys : List Int} {s : Sto} (h : seqL d s = some (ys.map .int)) (hf : r.fits ys.length) : b_keeps [some r.va, some d, none, none, none] s = .ret (.bl (r.keeps ys)) s := by
  unfold b_keeps
  cases r with
  | before a b g =>
    obtain ⟨⟨a0, a1⟩, b0, b1⟩ := hf
    simp [Rec.va, atI_0, atI_1, atI_2, atI_3, ix_yr h a0 a1, ix_yr h b0 b1, Rec.keeps]
  | same a b =>
    obtain ⟨⟨a0, a1⟩, b0, b1⟩ := hf
    simp [Rec.va, atI_0, atI_1, atI_2, ix_yr h a0 a1, ix_yr h b0 b1, Rec.keeps]
  | within a b g =>
    obtain ⟨⟨a0, a1⟩, b0, b1⟩ := hf
    simp [Rec.va, atI_0, atI_1, atI_2, atI_3, ix_yr h a0 a1, ix_yr h b0 b1, Rec.keeps]
  | since a y w =>
    obtain ⟨a0, a1⟩ := hf
    simp [Rec.va, atI_0, atI_1, atI_2, ix_yr h a0 a1, Rec.keeps]
  | upto a y w =>
    obtain ⟨a0, a1⟩ := hf
    simp [Rec.va, atI_0, atI_1, atI_2, ix_yr h a0 a1, Rec.keeps]
  | kind a k => simp [Rec.va, atI_0, Rec.keeps]
theorem l_keeps_run {r : Rec} {d : Va} {ys : List Int} {s : Sto} (h : seqL d s = some (ys.map .int)) (hf : r.fits ys.length) : b_l_keeps [some r.va, some d, none, none] s = .ret (.bl (r.keeps ys)) s := by
  unfold b_l_keeps
  cases r with
  | before a b g =>
    obtain ⟨⟨a0, a1⟩, b0, b1⟩ := hf
    simp [Rec.va, atI_0, atI_1, atI_2, atI_3, ix_yr h a0 a1, ix_yr h b0 b1, Rec.keeps]
    omega
  | same a b =>
    obtain ⟨⟨a0, a1⟩, b0, b1⟩ := hf
    simp [Rec.va, atI_0, atI_1, atI_2, ix_yr h a0 a1, ix_yr h b0 b1, Rec.keeps]
    omega
  | within a b g =>
    obtain ⟨⟨a0, a1⟩, b0, b1⟩ := hf
    simp [Rec.va, atI_0, atI_1, atI_2, atI_3, ix_yr h a0 a1, ix_yr h b0 b1, Rec.keeps]
    omega
  | since a y w =>
    obtain ⟨a0, a1⟩ := hf
    simp [Rec.va, atI_0, atI_1, atI_2, ix_yr h a0 a1, Rec.keeps]
  | upto a y w =>
    obtain ⟨a0, a1⟩ := hf
    simp [Rec.va, atI_0, atI_1, atI_2, ix_yr h a0 a1, Rec.keeps]
  | kind a k => simp [Rec.va, atI_0, Rec.keeps]
theorem fin_keeps (args : List Va) (s : Sto) (wf : WFn s.length s) (wa : vasB s.length args) (hl : args.length = 2) : Fin s.length (b_keeps (startA 5 args) s) (F_keeps args s) := by
  unfold F_keeps
  split
  · split
    · rename_i r xs e1 e2
      split
      · rename_i ys e3
        split
        · rename_i hc
          rw [recOf_eq e1]
          rw [intsOf_eq e3] at e2
          exact Fin.ret1 (keeps_run e2 hc) trivial wf
        · exact .bad
      · exact .bad
    · exact .bad
  · exact .bad
theorem fin_l_keeps (args : List Va) (s : Sto) (wf : WFn s.length s) (wa : vasB s.length args) (hl : args.length = 2) : Fin s.length (b_l_keeps (startA 4 args) s) (F_keeps args s) := by
  unfold F_keeps
  split
  · split
    · rename_i r xs e1 e2
      split
      · rename_i ys e3
        split
        · rename_i hc
          rw [recOf_eq e1]
          rw [intsOf_eq e3] at e2
          exact Fin.ret1 (l_keeps_run e2 hc) trivial wf
        · exact .bad
      · exact .bad
    · exact .bad
  · exact .bad
end Dn

set_option Elab.async false
set_option linter.all false
set_option maxRecDepth 100000
set_option maxHeartbeats 1000000
/-! Dn, part R: dicts that are written: those of the module, displays; tuples of the module. -/
namespace Dn
open PySem PySem.Spec PyProof.Rows L2
def entIs : List DictEntry → List (Str × Int) → Prop
  | [], [] => True
  | e :: r, p :: q => (∃ t t', e.key = .str p.1 t ∧ e.val = .int p.2 t') ∧ entIs r q
  | _, _ => False
/-- a dict of the module, texts to numbers -/
def KSI (K : PySem.W.Frag) (w : World) (d : Addr) (kvs : List (Str × Int)) : Prop := ∃ es n, KDict K w d es n ∧ entIs es.toList kvs
theorem ksi_mk {K : PySem.W.Frag} {w : World} {d : Addr} {es : Array DictEntry} {n : Nat} {kvs : List (Str × Int)} (l : K.lookup d = some ⟨.type "dict", none, .dict es n, #[]⟩) (k : PySem.W.KeysLit w.params es.toList) (b : (d == sysModules) = false) (v : entIs es.toList kvs) : KSI K w d kvs := ⟨es, n, ⟨l, k, b⟩, v⟩
def lkS : List (Str × Int) → Str → Option Int
  | [], _ => none
  | (k, i) :: r, z => if k = z then some i else lkS r z
theorem isStr_key {x z : Str} {t : Tok} : (Value.str x t).isStr z = decide (x = z) := by
  rw [PySem.W.isStr_of]
  by_cases h : x = z
  · subst h
    simp [Value.isStrOf]
  · rw [decide_eq_false h]
    simp [Value.isStrOf, h]
    try exact fun e => h e.symm
theorem ent_find : ∀ {l : List DictEntry} {kvs : List (Str × Int)} {z : Str}, entIs l kvs → (match lkS kvs z with
    | some i => ∃ e t, l.find? (·.key.isStr z) = some e ∧ e.val = .int i t
    | none => l.find? (·.key.isStr z) = none)
  | [], [], z, _ => rfl
  | [], _ :: _, _, h => h.elim
  | _ :: _, [], _, h => h.elim
  | e :: r, (k, i) :: q, z, h => by
    obtain ⟨⟨t, t', h1, h2⟩, h3⟩ := h
    have ih := ent_find (z := z) h3
    unfold lkS
    by_cases hk : k = z
    · rw [if_pos hk]
      refine ⟨e, t', ?_, h2⟩
      rw [List.find?_cons_of_pos (by rw [h1, isStr_key]; exact decide_eq_true hk)]
    · rw [if_neg hk, List.find?_cons_of_neg (by rw [h1, isStr_key, decide_eq_false hk]; decide)]
      exact ih
theorem ent_ref : ∀ {l : List DictEntry} {kvs : List (Str × Int)}, entIs l kvs → l.any (·.refKey) = false
  | [], [], _ => rfl
  | [], _ :: _, h => h.elim
  | _ :: _, [], h => h.elim
  | e :: r, (k, i) :: q, h => by
    obtain ⟨⟨t, t', h1, h2⟩, h3⟩ := h
    rw [List.any_cons, ent_ref h3]
    simp [DictEntry.refKey, h1]
theorem KSI.ns {K : PySem.W.Frag} {w : World} {d : Addr} {es : Array DictEntry} {n : Nat} {kvs : List (Str × Int)} (D : KDict K w d es n) (h : entIs es.toList kvs) (z : Str) : (match lkS kvs z with
    | some i => ∃ t, PySem.W.nsIn K d z = some (some (.int i t))
    | none => PySem.W.nsIn K d z = some none) := by
  have f := ent_find (z := z) h
  have r := ent_ref h
  unfold PySem.W.nsIn
  rw [D.at_]
  dsimp only
  cases e : lkS kvs z with
  | some i =>
    rw [e] at f
    obtain ⟨u, t, f1, f2⟩ := f
    exact ⟨t, by rw [f1, ← f2]⟩
  | none =>
    rw [e] at f
    dsimp only at f ⊢
    rw [f, r]
    rfl
def gKin (neg : Bool) (kvs : List (Str × Int)) : Va → Sto → Rs Va
  | .str z, s => .ok (.bl (neg != (lkS kvs z).isSome)) s
  | _, _ => .bad
def gKix (kvs : List (Str × Int)) : Va → Sto → Rs Va
  | .str z, s => match lkS kvs z with | some i => .ok (.int i) s | none => .bad
  | _, _ => .bad
section
variable {X : Cx} {CL : Cls0} {W : WX} {a b : Expr} {da db : DE} {pos p : Pos} {d : Addr} {kvs : List (Str × Int)} {x : Str}
theorem pe_kin {op : CmpOp} {r : R2} {neg : Bool} (ho : OpR X (compareOp op) r) (hr : ∀ z H Q, Q (.bl (neg != (lkS kvs z).isSome)) H → r (.str z) (.ref d) H Q) (hm : X.mg x = some (.ref d)) (ha : RE X CL W a da) (hg : Gl X x) (hb : behindInMarks op (.Name x p) = false) (hd : (x == ("__debug__" : Str)) = false) :
    RE X CL W (.Compare a [op] [.Name x p] pos) (dUn (gKin neg kvs) da) ∧ RT X CL W (.Compare a [op] [.Name x p] pos) (dTB (dUn (gKin neg kvs) da)) := by
  have hx : PE X (.Name x p) (tC (.ref d)) := pe_glob hg hm (v := .ref d) rfl hd
  have key : ∀ σ H Q, tD X.K CL W (dUn (gKin neg kvs) da) σ H Q → tOp r (tD X.K CL W da) (tC (.ref d)) σ H Q := by
    intro σ H Q h
    obtain ⟨F, G, as, ε, s, S, E, h⟩ := h
    refine ⟨F, G, as, ε, s, S, E, Pst.imp (Pst.bind h) fun v H1 ⟨F1, as1, s1, y, l, S1, rx, h1⟩ => ?_⟩
    unfold gKin at h1
    split at h1
    · cases rx
      exact hr _ _ _ (h1.okv S1 (.bl _))
    · exact h1.elim
  have h1 : RE X CL W (.Compare a [op] [.Name x p] pos) (dUn (gKin neg kvs) da) := pe_weak (pe_cmpR ho ha hx hb) key
  exact ⟨h1, rt_val h1 (pt_cmpR ho ha hx hb) key⟩
theorem ko_in (D : KSI X.K X.w d kvs) : ∃ r, OpR X (compareOp .In) r ∧ ∀ z H Q, Q (.bl (false != (lkS kvs z).isSome)) H → r (.str z) (.ref d) H Q := by
  obtain ⟨es, n, D, v⟩ := D
  refine ⟨_, op_in_kd D, fun z H Q q => ?_⟩
  have f := KSI.ns D v z
  cases e : lkS kvs z with
  | some i =>
    rw [e] at f q
    obtain ⟨t, f⟩ := f
    exact ⟨z, _, rfl, rfl, f, q⟩
  | none =>
    rw [e] at f q
    exact ⟨z, _, rfl, rfl, f, q⟩
theorem ko_notIn (D : KSI X.K X.w d kvs) : ∃ r, OpR X (compareOp .NotIn) r ∧ ∀ z H Q, Q (.bl (true != (lkS kvs z).isSome)) H → r (.str z) (.ref d) H Q := by
  obtain ⟨es, n, D, v⟩ := D
  refine ⟨_, op_notIn_kd D, fun z H Q q => ?_⟩
  have f := KSI.ns D v z
  cases e : lkS kvs z with
  | some i =>
    rw [e] at f q
    obtain ⟨t, f⟩ := f
    exact ⟨z, _, rfl, rfl, f, q⟩
  | none =>
    rw [e] at f q
    exact ⟨z, _, rfl, rfl, f, q⟩
theorem re_kin (D : KSI X.K X.w d kvs) (hm : X.mg x = some (.ref d)) (ha : RE X CL W a da) (hg : Gl X x := by rfl) (hd : (x == ("__debug__" : Str)) = false := by decide) (hb : behindInMarks .In (.Name x p) = false := by rfl) : RE X CL W (.Compare a [.In] [.Name x p] pos) (dUn (gKin false kvs) da) := by
  obtain ⟨r, h1, h2⟩ := ko_in D
  exact (pe_kin h1 h2 hm ha hg hb hd).1
theorem rt_kin (D : KSI X.K X.w d kvs) (hm : X.mg x = some (.ref d)) (ha : RE X CL W a da) (hg : Gl X x := by rfl) (hd : (x == ("__debug__" : Str)) = false := by decide) (hb : behindInMarks .In (.Name x p) = false := by rfl) : RT X CL W (.Compare a [.In] [.Name x p] pos) (dTB (dUn (gKin false kvs) da)) := by
  obtain ⟨r, h1, h2⟩ := ko_in D
  exact (pe_kin h1 h2 hm ha hg hb hd).2
theorem rt_knotin (D : KSI X.K X.w d kvs) (hm : X.mg x = some (.ref d)) (ha : RE X CL W a da) (hg : Gl X x := by rfl) (hd : (x == ("__debug__" : Str)) = false := by decide) (hb : behindInMarks .NotIn (.Name x p) = false := by rfl) : RT X CL W (.Compare a [.NotIn] [.Name x p] pos) (dTB (dUn (gKin true kvs) da)) := by
  obtain ⟨r, h1, h2⟩ := ko_notIn D
  exact (pe_kin h1 h2 hm ha hg hb hd).2
theorem re_kix (D : KSI X.K X.w d kvs) (hm : X.mg x = some (.ref d)) (hb : RE X CL W b db) (hg : Gl X x := by rfl) (hd : (x == ("__debug__" : Str)) = false := by decide) (hp : PlainIx b := by exact fun _ _ => rfl) : RE X CL W (.Subscript (.Name x p) b pos) (dUn (gKix kvs) db) := by
  have hx : PE X (.Name x p) (tC (.ref d)) := pe_glob hg hm (v := .ref d) rfl hd
  refine pe_weak (pe_ix ix_kdict hx hb hp) fun σ H Q h => ?_
  show tD X.K CL W db σ H _
  obtain ⟨F, G, as, ε, s, S, E, h⟩ := h
  refine ⟨F, G, as, ε, s, S, E, Pst.imp (Pst.bind h) fun v H1 ⟨F1, as1, s1, y, l, S1, rx, h1⟩ => ?_⟩
  unfold gKix at h1
  split at h1
  · rename_i z
    cases rx
    have f : (match lkS kvs z with
      | some i => ∃ t, PySem.W.nsIn X.K d z = some (some (.int i t))
      | none => PySem.W.nsIn X.K d z = some none) := by
      obtain ⟨es, n, D, v⟩ := D
      exact KSI.ns D v z
    split at h1
    · rename_i i e
      rw [e] at f
      obtain ⟨t, f⟩ := f
      obtain ⟨es, n, D, v⟩ := D
      exact ⟨d, z, .int i, rfl, rfl, ⟨es, n, _, D.at_, D.lit, f, ⟨t, rfl⟩⟩, h1.okv S1 (.int i)⟩
    · exact h1.elim
  · exact h1.elim
/-- a tuple of texts of the module -/
def KTS (K : PySem.W.Frag) (d : Addr) (xs : List Str) : Prop := ∃ (o : Obj) (its : Array Value) (n : Nat), K.lookup d = some o ∧ o.cls = .type "tuple" ∧ o.data = .seq its n ∧ its.size ≤ sizeLine ∧ Vals (xs.map V.str) its.toList
theorem re_gTup {xs : List Str} (D : KTS X.K d xs) (hg : Gl X x) (hm : X.mg x = some (.ref d)) (hd : (x == ("__debug__" : Str)) = false := by decide) : RE X CL W (.Name x pos) (dC (.ext (xs.map .str))) :=
  re_c (pe_glob (v := .ref d) hg hm rfl hd) fun F as => .ext (.inr (.inr D)) Rls.ofStrs
end
/-! ### displays -/
def mkD (bx : Bool) (kvs : List (Key × Va)) (s : Sto) : Rs Va := if bx then .ok (.ref s.length) (s ++ [.dicK kvs]) else .ok (.dicK kvs) s
inductive CPs : List (Option Expr) → List Expr → List (Str × Int) → Prop
  | nil : CPs [] [] []
  | cons {k : Str} {i : Int} {j1 j2 : _} {p1 p2 : Pos} {ks : List (Option Expr)} {vs : List Expr} {kvs : List (Str × Int)} : CPs ks vs kvs → CPs (some (.Constant (.str k) j1 p1) :: ks) (.Constant (.int i) j2 p2 :: vs) ((k, i) :: kvs)
def siVa (kvs : List (Str × Int)) : List (Key × Va) := kvs.map fun p => (.inr p.1, .int p.2)
def siV (kvs : List (Str × Int)) : List (Key × V) := kvs.map fun p => (.inr p.1, .int p.2)
theorem si_rl {K : PySem.W.Frag} {F : Hp} {as : List Addr} : ∀ {kvs : List (Str × Int)}, RlK K F as (siVa kvs) (siV kvs)
  | [] => .nil
  | _ :: _ => .cons (.int _) si_rl
theorem cps_pps {X : Cx} {pos : Pos} {ks : List (Option Expr)} {vs : List Expr} {kvs : List (Str × Int)} (h : CPs ks vs kvs) : PPs X pos ks vs (kvs.map fun p => (tC (.str p.1), tC (.int p.2))) := by
  induction h with
  | nil => exact pps_nil
  | cons _ ih => exact pps_cons pe_str pe_int ih
theorem cps_all {ks : List (Option Expr)} {vs : List Expr} {kvs : List (Str × Int)} (h : CPs ks vs kvs) : ks.all (·.isSome) = true ∧ ks.length = vs.length ∧ ks.length = kvs.length := by
  induction h with
  | nil => exact ⟨rfl, rfl, rfl⟩
  | cons _ ih => exact ⟨by rw [List.all_cons, ih.1]; rfl, by rw [List.length_cons, List.length_cons, ih.2.1], by rw [List.length_cons, List.length_cons, ih.2.2]⟩
theorem tPairs_c {σ : L2.St} {H : Hp} : ∀ {kvs : List (Str × Int)} {Q : List (V × V) → Hp → Prop}, Q ((siV kvs).map fun kv => (kV kv.1, kv.2)) H → tPairs (kvs.map fun p => (tC (.str p.1), tC (.int p.2))) σ H Q
  | [], _, q => q
  | p :: r, _, q => tPairs_c (kvs := r) q
def dDisp (bx : Bool) (kvs : List (Str × Int)) : DE := fun _ s => mkD bx (siVa kvs) s
section
variable {K : PySem.W.Frag} {CL : Cls0} {W : Value → Option Addr → Hp → Prop} {F H G : Hp} {as : List Addr} {s : Sto}
theorem mkD_ok {bx : Bool} {kvs : List (Key × Va)} {ks : List (Key × V)} {Q : VK} (S : Sim K F G as s H) (r : RlK K F as kvs ks) (h : Pst K CL W F G as (Rl K) (mkD bx kvs s) Q) : ∀ p, H p = none → Q (.ref p) (upd H p (.dK ks)) := by
  intro p hp
  cases bx with
  | false => exact h.ok (Le.new (S.fnone hp)) (S.froz hp) (.dicK upd_same (r.mono (Le.new (S.fnone hp))))
  | true =>
    refine h.ok (Le.push (p := p)) (S.push (o := .dicK kvs) hp (fun a u e => by rw [upd_ne (ne_of_none e hp)]; exact e) ⟨S.fnone hp, ks, upd_same, r.mono Le.push⟩ ⟨_, upd_same⟩) (.ref ?_)
    rw [← S.len, List.getElem?_concat_length]
end
theorem upd_upd {H : Hp} {p : Addr} {a b : HO} : upd (upd H p a) p b = upd H p b := by
  funext q
  by_cases h : q = p
  · subst h
    rw [upd_same, upd_same]
  · rw [upd_ne h, upd_ne h, upd_ne h]
theorem re_dispC {X : Cx} {CL : Cls0} {W : WX} {pos : Pos} {ks : List (Option Expr)} {vs : List Expr} {kvs : List (Str × Int)} (bx : Bool) (h : CPs ks vs kvs) (hm : mergeK [] (siV kvs) = siV kvs := by rfl) (h0 : kvs ≠ [] := by exact fun e => nomatch e) (h15 : kvs.length ≤ 15 := by decide) : RE X CL W (.Dict ks vs pos) (dDisp bx kvs) := by
  obtain ⟨c1, c2, c3⟩ := cps_all h
  refine pe_weak (pe_disp (cps_pps h) c1 c2 (fun e => h0 (List.length_eq_zero_iff.mp (by rw [← c3, e]; rfl))) (by omega)) fun σ H Q q => ?_
  obtain ⟨F, G, as, ε, s, S, E, q⟩ := q
  intro p hp
  refine tPairs_c ⟨upd_same, siV kvs, rfl, by unfold siV; rw [List.length_map]; exact h15, ?_⟩
  rw [hm, upd_upd]
  exact mkD_ok S si_rl q p hp
/-! ### sources: a text, enumerate -/
def signsV (x : Str) : List Va := x.cps.toList.map fun c => .str ⟨#[c]⟩
def dStr (de : DE) : DI := fun ε s => (de ε s).bind fun x s1 => match x with
  | .str z => .ok (none, signsV z) s1
  | _ => .bad
theorem src_s {K : PySem.W.Frag} {F : Hp} {as : List Addr} {x : Str} : Src K (Its x) F as none (signsV x) where
  stop := fun F' G as' s' H l S o => by
    show x.cps.size ≤ _
    unfold signsV
    rw [List.length_map, Array.length_toList]
    exact Nat.le_refl _
  go := fun i F' G as' s' H hi l S o => by
    unfold signsV at hi
    rw [List.length_map, Array.length_toList] at hi
    exact hi
  yl := fun i F' G as' s' H y H' hi l S o h => by
    obtain ⟨e, c, h1, h2⟩ := h
    subst e h2
    refine ⟨.str ⟨#[c]⟩, F', ?_, Le.refl, S, .str _⟩
    unfold signsV
    rw [List.getElem?_map, Array.getElem?_toList, h1]
    rfl
theorem ri_str {X : Cx} {CL : Cls0} {W : WX} {tg iter : Expr} {de : DE} (h : RE X CL W iter de) : RI X CL W tg iter (iStr (tD X.K CL W de)) (dStr de) where
  pi := pi_str h
  ok := fun σ H R q => by
    obtain ⟨F, G, as, ε, s, S, E, q⟩ := q
    refine ⟨F, G, as, ε, s, S, E, Pst.imp (Pst.bind q) fun v H1 ⟨F1, as1, s1, y, l, S1, rx, h1⟩ => ?_⟩
    split at h1
    · cases rx
      exact ⟨_, rfl, h1.ok Le.refl S1 src_s⟩
    · exact h1.elim
def enumV (xs : List Va) : List Va := (List.range xs.length).map fun i => .tup [.int (i : Nat), xs.getD i .non]
def dEnum (da : DA) : DI := fun ε s => (evA da ε s).bind fun vs s1 => match vs with
  | [x] => match x with
    | .ref n => match s1[n]? with
      | some (.lst xs) => .ok (some (n, xs), enumV xs) s1
      | _ => .bad
    | .lst xs => .ok (none, enumV xs) s1
    | _ => .bad
  | _ => .bad
theorem enumV_len {xs : List Va} : (enumV xs).length = xs.length := by
  unfold enumV
  rw [List.length_map, List.length_range]
theorem enumV_get {xs : List Va} {i : Nat} {x : Va} (h : xs[i]? = some x) : (enumV xs)[i]? = some (.tup [.int (i : Nat), x]) := by
  have hi := (List.getElem?_eq_some_iff.mp h).1
  unfold enumV
  rw [List.getElem?_map, List.getElem?_range hi, Option.map_some, List.getD_eq_getElem?_getD, h]
  rfl
theorem src_e {K : PySem.W.Frag} {F : Hp} {as : List Addr} {a : Addr} {ck : Option (Nat × List Va)} {xs : List Va} (h : ∀ F' G as' s' H, Le F as F' as' → Sim K F' G as' s' H → okk ck s' → ∃ vs, SqL K H a vs ∧ Rls K F' as' xs vs) : Src K (Ite K a) F as ck (enumV xs) where
  stop := fun F' G as' s' H l S o => by
    obtain ⟨vs, h1, h2⟩ := h F' G as' s' H l S o
    exact ⟨vs, h1, by rw [← h2.len, enumV_len]; exact Nat.le_refl _⟩
  go := fun i F' G as' s' H hi l S o => by
    rw [enumV_len] at hi
    obtain ⟨vs, h1, h2⟩ := h F' G as' s' H l S o
    obtain ⟨v, h3, h4⟩ := h2.get (List.getElem?_eq_getElem hi)
    exact ⟨vs, v, h1, h3⟩
  yl := fun i F' G as' s' H y H' hi l S o q => by
    obtain ⟨T, x, e1, hT, e2, e3⟩ := q
    subst e1 e2
    obtain ⟨vs, h1, h2⟩ := h F' G as' s' H l S o
    obtain ⟨z, z1, z2⟩ := h2.getV (e3 vs h1)
    have n := S.fnone hT
    exact ⟨.tup [.int (i : Nat), z], upd F' T (.tup [.int (i : Nat), x]), enumV_get z1, Le.new n, S.froz hT, .tup upd_same (.cons (.int _) (.cons (z2.mono (Le.new n)) .nil))⟩
theorem ri_enum {X : Cx} {CL : Cls0} {W : WX} {elts : List Expr} {kk : Nat} {tpos p pos : Pos} {e : Expr} {da : DA} (hm : X.mg "enumerate" = none) (ha : RA X CL W [e] da) (hg : Gl X "enumerate" := by rfl) (hs : starEach [e] X.env = [(false, eval e X.env)] := by rfl) : RI X CL W (.Tuple elts kk tpos) (.Call (.Name "enumerate" p) [e] [] pos) (iEnum X.K (tDA X.K CL W da)) (dEnum da) where
  pi := pi_enum hg hm ha hs
  ok := fun σ H R q => by
    obtain ⟨F, G, as, ε, s, S, E, q⟩ := q
    refine ⟨F, G, as, ε, s, S, E, Pst.imp (Pst.bind q) fun v H1 ⟨F1, as1, s1, y, l, S1, rx, h1⟩ => ?_⟩
    split at h1
    · obtain ⟨v, rfl, ry⟩ := Rls1 rx
      split at h1
      · cases ry with
        | ref ha =>
          split at h1
          · rename_i e
            obtain ⟨hf, vs, q1, q2⟩ := S1.ref ha e
            exact ⟨_, _, rfl, SqL.of q1, h1.ok Le.refl S1 (src_e fun F' G as' s' H l S o => by
              obtain ⟨_, vs, h1, h2⟩ := S.ref (l.a _ _ ha) o
              exact ⟨vs, SqL.of h1, h2⟩)⟩
          · exact h1.elim
      · cases ry with
        | lst hf hr => exact ⟨_, _, rfl, SqL.of (S1.sub _ _ hf), h1.ok Le.refl S1 (src_e fun F' G as' s' H l S _ => ⟨_, SqL.of (S.sub _ _ (l.f _ _ hf)), hr.mono l⟩)⟩
      · exact h1.elim
    · exact h1.elim
end Dn

set_option Elab.async false
set_option linter.all false
set_option maxRecDepth 100000
set_option maxHeartbeats 1000000
/-! Dn, part S: assignments to several names. -/
namespace Dn
open PySem PySem.Spec PyProof.Rows L2
def sPar (i j : Nat) (da : DA) : DS := fun ε s => (evA da ε s).fl ε fun xs s1 => match xs with
  | [x, y] => .nx ((ε.set i (some x)).set j (some y)) s1
  | _ => .bad
def sAsg (dg : DG) (de : DE) : DS := fun ε s => (de ε s).fl ε fun x s1 => match dg x ε s1 with
  | some ε' => .nx ε' s1
  | none => .bad
section
variable {X : Cx} {CL : Cls0} {W : WX} {k : Nat} {a b e tg : Expr} {da : DA} {de : DE} {pos px py pt pt2 : Pos} {kt k2 : Nat} {x y : Str}
theorem rs_par {i j : Nat} (O : Okc X W k) (hi : X.N[i]? = some x) (hj : X.N[j]? = some y) (hij : i ≠ j) (hx : X.env.scope.names.lookup x = some .local) (hy : X.env.scope.names.lookup y = some .local) (ha : RA X CL W [a, b] da)
    (hw : swappedStores [.Tuple [.Name x px, .Name y py] kt pt] (.Tuple [a, b] k2 pt2) X.env = pure (some [x, y])) (hs : swapsWithSole [.Tuple [.Name x px, .Name y py] kt pt] (.Tuple [a, b] k2 pt2) pos.line X.env = pure false := by rfl) :
    RS X CL W (.Assign [.Tuple [.Name x px, .Name y py] kt pt] (.Tuple [a, b] k2 pt2) pos) (sPar i j da) := ps_weak (ps_par O.calm O.nd hi hj hij hx hy ha hw hs) fun D σ H h => by
  obtain ⟨F, G, as, ε, s, S, E, h⟩ := h
  refine ⟨F, G, as, ε, s, S, E, Pst.imp (PF.bind E h) fun v H1 ⟨F1, as1, s1, y, l, S1, rx, h1⟩ => ?_⟩
  split at h1
  · rename_i xs p q
    obtain ⟨v1, v2, e, r1, r2⟩ : ∃ v1 v2, v = [v1, v2] ∧ Rl X.K F1 as1 p v1 ∧ Rl X.K F1 as1 q v2 := by
      cases rx with
      | cons r1 t => cases t with
        | cons r2 t => cases t with
          | nil => exact ⟨_, _, rfl, r1, r2⟩
    exact ⟨v1, v2, e, h1 F1 as1 _ H1 Le.refl S1 (((E.mono l).set i r1).set j r2)⟩
  · exact h1.elim
theorem rs_asg {g : TG} {dg : DG} {ts : List Nat} (O : Okc X W k) (hg : RG X tg g dg ts) (he : RE X CL W e de) (hs : swapsWithSole [tg] e pos.line X.env = pure false := by rfl) (hw : swappedStores [tg] e X.env = pure none := by rfl)
    (h1 : (assignEach [tg] X.env).map (·.2) = [assign tg X.env] := by rfl) : RS X CL W (.Assign [tg] e pos) (sAsg dg de) := ps_weak (ps_asg he hg.pg hs hw h1) fun D σ H h => by
  obtain ⟨F, G, as, ε, s, S, E, h⟩ := h
  refine ⟨F, G, as, ε, s, S, E, Pst.imp (PF.bind E h) fun v H1 ⟨F1, as1, s1, y, l, S1, rx, h1⟩ => ?_⟩
  split at h1
  · rename_i ε' q
    exact hg.ok F1 G as1 s1 H1 y v ε ε' σ _ S1 rx (E.mono l) q fun σ' E' _ _ => h1 F1 as1 σ' H1 Le.refl S1 E'
  · exact h1.elim
end
@[simp] theorem e_par {i j : Nat} {da : DA} {ε : En} {s : Sto} : sPar i j da ε s = (evA da ε s).fl ε fun xs s1 => match xs with
  | [x, y] => .nx ((ε.set i (some x)).set j (some y)) s1
  | _ => .bad := rfl
@[simp] theorem e_asg {dg : DG} {de : DE} {ε : En} {s : Sto} : sAsg dg de ε s = (de ε s).fl ε fun x s1 => match dg x ε s1 with
  | some ε' => .nx ε' s1
  | none => .bad := rfl
end Dn

set_option Elab.async false
set_option linter.all false
set_option maxRecDepth 100000
set_option maxHeartbeats 1000000
/-! Dn, part T: mirrors by what is told of them; lists that are frozen at a return. -/
namespace Dn
open PySem PySem.Spec PyProof.Rows L2
/-- a def's mirror, of which P alone is known -/
noncomputable def mir (nb : Nat) (b : DS) (P : List Va → Sto → Rs Va → Prop) (args : List Va) (s : Sto) : Rs Va := open Classical in
  if h : ∃ r, P args s r ∧ Fin s.length (b (startA nb args) s) r then h.choose else .bad
theorem fin_mir {nb : Nat} {b : DS} {P : List Va → Sto → Rs Va → Prop} (args : List Va) (s : Sto) : Fin s.length (b (startA nb args) s) (mir nb b P args s) := by
  unfold mir
  split
  · rename_i h
    exact h.choose_spec.2
  · exact .bad
theorem mir_p {nb : Nat} {b : DS} {P : List Va → Sto → Rs Va → Prop} {args : List Va} {s : Sto} {r : Rs Va} (h1 : P args s r) (h2 : Fin s.length (b (startA nb args) s) r) : P args s (mir nb b P args s) := by
  have h : ∃ r, P args s r ∧ Fin s.length (b (startA nb args) s) r := ⟨r, h1, h2⟩
  unfold mir
  rw [dif_pos h]
  exact h.choose_spec.1
theorem take_set {s : Sto} {n i : Nat} {o : Ob} (h : n ≤ i) : (s.set i o).take n = s.take n := by
  apply List.ext_getElem?
  intro j
  by_cases hj : j < n
  · rw [List.getElem?_take_of_lt hj, List.getElem?_take_of_lt hj, List.getElem?_set_ne (by omega)]
  · rw [List.getElem?_take_eq_none (by omega), List.getElem?_take_eq_none (by omega)]
theorem Fin.frz1 {n i : Nat} {raw : Fl} {s0 : Sto} {xs : List Va} (h : raw = .ret (.ref i) s0) (hi : n ≤ i) (ho : s0[i]? = some (.lst xs)) (hx : vasB n xs) (hw : WFn n (s0.take n)) : Fin n raw (.ok (.lst xs) (s0.take n)) := by
  have := Fin.ok (n := n) (raw := raw) (v := .lst xs) (.inl h) (.lst ho (Frzs.same xs s0) ho) hx (by rw [take_set hi]; exact hw)
  rw [take_set hi] at this
  exact this
/-- the new object behind the store is what is handed back -/
theorem Fin.frzS {raw : Fl} {s s1 : Sto} {xs : List Va} (h : raw = .ret (.ref s.length) (s1 ++ [.lst xs])) (hl : s1.length = s.length) (hx : vasB s.length xs) (hw : WFn s.length s1) : Fin s.length raw (.ok (.lst xs) s1) := by
  have e : (s1 ++ [Ob.lst xs]).take s.length = s1 := by rw [← hl, List.take_left]
  have := Fin.frz1 (n := s.length) (i := s.length) h (Nat.le_refl _) (by rw [← hl]; exact List.getElem?_concat_length) hx (by rw [e]; exact hw)
  rw [e] at this
  exact this
/-- rows of a table, frozen one by one -/
theorem frz_rows (k : Nat) : ∀ (rows : List (List Va)) (j : Nat) (s : Sto), (∀ i, (h : i < rows.length) → s[j + i]? = some (.lst (rows[i]))) → j + rows.length ≤ k → ∃ s', Frzs ((List.range rows.length).map fun i => .ref (j + i)) s (rows.map .lst) s' ∧ (∀ i, k ≤ i → s'[i]? = s[i]?) ∧ ∀ n, n ≤ j → s'.take n = s.take n
  | [], j, s, _, _ => ⟨s, .nil s, fun _ _ => rfl, fun _ _ => rfl⟩
  | r :: rows, j, s, h, hk => by
    rw [List.length_cons] at hk
    have h0 := h 0 (by rw [List.length_cons]; omega)
    obtain ⟨s', g1, g2, g3⟩ := frz_rows k rows (j + 1) (s.set j .dead) (fun i hi => by
      rw [List.getElem?_set_ne (by omega)]
      have := h (i + 1) (by rw [List.length_cons]; omega)
      rw [show j + 1 + i = j + (i + 1) by omega, this]
      rfl) (by omega)
    refine ⟨s', ?_, fun i hi => by rw [g2 i hi, List.getElem?_set_ne (by omega)], fun n hn => by rw [g3 n (by omega), take_set hn]⟩
    rw [List.length_cons, List.range_succ_eq_map, List.map_cons, List.map_map, List.map_cons]
    refine .cons (.lst h0 (Frzs.same _ _) h0) ?_
    have e : ((fun i => Va.ref (j + i)) ∘ Nat.succ) = fun i => Va.ref (j + 1 + i) := by
      funext i
      show Va.ref (j + (i + 1)) = _
      rw [show j + (i + 1) = j + 1 + i by omega]
    rw [e]
    exact g1
theorem vasB_rows {n : Nat} : ∀ {rows : List (List Va)}, (∀ r ∈ rows, vasB n r) → vasB n (rows.map .lst)
  | [], _ => trivial
  | r :: rows, h => ⟨h r List.mem_cons_self, vasB_rows fun x hx => h x (List.mem_cons_of_mem _ hx)⟩
theorem Fin.frzT {raw : Fl} {s s1 : Sto} {rows : List (List Va)} (h : raw = .ret (.ref (s.length + rows.length)) (s1 ++ rows.map .lst ++ [.lst ((List.range rows.length).map fun i => .ref (s.length + i))])) (hl : s1.length = s.length) (hx : ∀ r ∈ rows, vasB s.length r) (hw : WFn s.length s1) : Fin s.length raw (.ok (.lst (rows.map .lst)) s1) := by
  have ho : (s1 ++ rows.map Ob.lst ++ [Ob.lst ((List.range rows.length).map fun i => Va.ref (s.length + i))])[s.length + rows.length]? = some (.lst ((List.range rows.length).map fun i => .ref (s.length + i))) := by
    rw [show s.length + rows.length = (s1 ++ rows.map Ob.lst).length by rw [List.length_append, List.length_map, hl]]
    exact List.getElem?_concat_length
  obtain ⟨s', g1, g2, g3⟩ := frz_rows (s.length + rows.length) rows s.length (s1 ++ rows.map Ob.lst ++ [Ob.lst ((List.range rows.length).map fun i => Va.ref (s.length + i))]) (fun i hi => by
    rw [List.append_assoc, List.getElem?_append_right (by omega), hl, show s.length + i - s.length = i by omega, List.getElem?_append_left (by rw [List.length_map]; exact hi), List.getElem?_map, List.getElem?_eq_getElem hi]
    rfl) (Nat.le_refl _)
  have e : (s'.set (s.length + rows.length) .dead).take s.length = s1 := by
    rw [take_set (by omega), g3 _ (Nat.le_refl _), List.append_assoc, ← hl, List.take_left]
  have := Fin.ok (n := s.length) (raw := raw) (v := .lst (rows.map .lst)) (.inl h) (.lst ho g1 (by rw [g2 _ (Nat.le_refl _)]; exact ho)) (vasB_rows hx) (by rw [e]; exact hw)
  rw [e] at this
  exact this
end Dn

set_option Elab.async false
set_option linter.all false
set_option maxRecDepth 100000
set_option maxHeartbeats 1000000
/-! Dn, part Ex: own exceptions raised; try with one clause. -/
namespace Dn
open PySem PySem.Spec PyProof.Rows L2
abbrev veTail : List Value := [.type "ValueError", .type "Exception", .type "BaseException", .type "object"]
/-- an own exception class below ValueError -/
def Xcl (K : PySem.W.Frag) (mg : Str → Option Value) (CL : Cls0) (x : Str) : Prop := ∃ C : Addr, CL x = .ref C ∧ mg x = some (.ref C) ∧ PySem.W.excIn K C veTail "ValueError.__new__" = true ∧ PySem.W.keepIn K (.ref C) = true ∧
  PySem.W.subIn K (.ref C) (.type "BaseException") = some true ∧ PySem.W.typeIn K (.ref C) = some (.type "type")
/-- a clause's class, and which of the raised it takes -/
def Xtb (K : PySem.W.Frag) (mg : Str → Option Value) (CL : Cls0) (x : Str) (tbl : List (Str × Bool)) : Prop := ∃ C : Addr, mg x = some (.ref C) ∧ ∀ e ∈ tbl, PySem.W.exmOne K (CL e.1) (.ref C) = some e.2
def lkC : List (Str × Bool) → Str → Option Bool
  | [], _ => none
  | (c, b) :: r, x => if c = x then some b else lkC r x
theorem lkC_mem : ∀ {tbl : List (Str × Bool)} {x : Str} {b : Bool}, lkC tbl x = some b → (x, b) ∈ tbl
  | [], _, _, h => by cases h
  | (c, b') :: r, x, b, h => by
    unfold lkC at h
    split at h
    · rename_i e
      cases h
      rw [e]
      exact List.mem_cons_self
    · exact List.mem_cons_of_mem _ (lkC_mem h)
def noEx : Fl → Fl
  | .exc _ _ _ => .bad
  | r => r
def sTry (d1 : DS) (tbl : List (Str × Bool)) (d2 : DS) : DS := fun ε s => match d1 ε s with
  | .exc c ε' s' => match lkC tbl c with
    | some true => noEx (d2 ε' s')
    | some false => .exc c ε' s'
    | none => .bad
  | r => r
theorem PF.noEx {K : PySem.W.Frag} {CL : Cls0} {W W' : WX} {F G : Hp} {as : List Addr} {r : Fl} {D : Ends} (h : PF K CL W F G as (Dn.noEx r) D) : PF K CL W' F G as r D := by
  cases r with
  | exc c ε s => exact h.elim
  | nx ε s => exact h
  | ret x s => exact h
  | brk ε s => exact h
  | ct ε s => exact h
  | bad => exact h
/-- in a suite behind except -/
structure Okh (X : Cx) : Prop where
  hu : X.A.units + 65 < cLine
  nd : X.N.Nodup
section
variable {X : Cx} {CL : Cls0} {W : WX} {k : Nat} {x m : Str} {j : Nat} {p p2 pos pos' np : Pos} {body suite : List Stmt} {b₀ : Stmt} {tbl : List (Str × Bool)} {d1 d2 : DS}
theorem rs_raiseX (O : Okc X W k) (T : Xcl X.K X.mg CL x) (hg : Gl X x := by rfl) (hdb : (x == ("__debug__" : Str)) = false := by decide) : RS X CL W (.Raise (some (.Call (.Name x p) [.Constant (.str m) j p2] [] pos)) none pos') (sRaise x) := by
  obtain ⟨C, h1, h2, h3, h4, h5, h6⟩ := T
  exact rs_raise O h1 (pmk_own PySem.F.excBase_ValueError h3 h2 h4 (raises_own h5 h6) hg hdb)
theorem rs_try (O : Okc X W k) (T : Xtb X.K X.mg CL x tbl) (hb : ∀ (W' : WX) (pn : List (Addr × Obj)) (xe : Value → Shared → Prop), Okc (X.tr pn xe) W' k → RSs (X.tr pn xe) CL W' body d1)
    (hsu : ∀ (a : Addr) (oe : Obj) (pn : List (Addr × Obj)), Okh (X.suite a ((a, oe) :: pn)) → RSs (X.suite a ((a, oe) :: pn)) CL W0 (b₀ :: suite) d2)
    (hs : X.stack = X.env :: X.outer := by rfl) (hf : X.env.frame = some X.env.locals := by rfl) (hg : Gl X x := by rfl) (hdb : (x == ("__debug__" : Str)) = false := by decide) :
    RS X CL W (.Try body [.ExceptHandler (some (.Name x np)) none (b₀ :: suite) pos'] [] [] pos) (sTry d1 tbl d2) := by
  obtain ⟨C, h1, h2⟩ := T
  have hu : ∀ (a : Addr) (oe : Obj) (pn : List (Addr × Obj)), Okh (X.suite a ((a, oe) :: pn)) := fun a oe pn => ⟨O.hu, O.nd⟩
  refine ps_weak (ps_try_only (tb := fun W' => tDS X.K CL W' d1) (ts := fun _ _ _ => tDS X.K CL W0 d2) (Wout := W) hs hf ⟨hg, hdb, .inl h1⟩ O.tk (fun W' pn xe tk hp => hb W' pn xe ⟨O.calm, tk, hp, O.room, O.nd⟩) (fun a oe cls d pn _ _ => hsu a oe pn (hu a oe pn))) fun D σ H h => ?_
  obtain ⟨F, G, as, ε, s, S, E, h⟩ := h
  refine ⟨F, G, as, ε, s, S, E, ?_⟩
  unfold sTry at h
  cases q : d1 ε s with
  | exc c ε' s' =>
    rw [q] at h
    dsimp only at h
    intro F' as' σ' H' l S' E'
    cases q2 : lkC tbl c with
    | none =>
      rw [q2] at h
      exact h.elim
    | some b =>
      rw [q2] at h
      refine ⟨b, h2 _ (lkC_mem q2), fun hb a _ => ?_, fun hb => ?_⟩
      · subst hb
        exact ⟨F', G, as', ε', s', S', E', PF.noEx (PF.le l h)⟩
      · subst hb
        exact h F' as' σ' H' l S' E'
  | nx ε' s' =>
    rw [q] at h
    exact h
  | ret x s' =>
    rw [q] at h
    exact h
  | brk ε' s' =>
    rw [q] at h
    exact h
  | ct ε' s' =>
    rw [q] at h
    exact h
  | bad =>
    rw [q] at h
    exact h
end
section
variable {X : Cx} {CL : Cls0} {W : WX} {p pos pos' : Pos} {e o i : Expr} {de d0 di : DE}
theorem rs_setIxH (O : Okh X) (ho : RE X CL W o d0) (hi : RE X CL W i di) (he : RE X CL W e de) (hs : swapsWithSole [.Subscript o i pos'] e pos.line X.env = pure false := by rfl) (hw : swappedStores [.Subscript o i pos'] e X.env = pure none := by rfl)
    (h1 : (assignEach [.Subscript o i pos'] X.env).map (·.2) = [assign (.Subscript o i pos') X.env] := by rfl)
    (ha : ∀ v, assign (.Subscript o i pos') X.env v = (do
      let ov ← holding [v] (eval o X.env)
      let iv ← holding [v, ov] (eval i X.env)
      standAt pos'
      holding [v, ov, iv] (setItem ov iv v)
      release [v, ov, iv] []) := by intro _; rfl) : RS X CL W (.Assign [.Subscript o i pos'] e pos) (sSetIx d0 di de) :=
  ps_weak (ps_asg he (pg_sub ho hi (set_any O.hu) ha) hs hw h1) fun D σ H h => by
    obtain ⟨F, G, as, ε, s, S, E, h⟩ := h
    refine ⟨F, G, as, ε, s, S, E, Pst.imp (PF.bind E h) fun v H1 ⟨F1, as1, s1, y, l, S1, rx, h1⟩ => ?_⟩
    refine ⟨F1, G, as1, ε, s1, S1, E.mono l, Pst.imp (PF.bind (E.mono l) h1) fun v2 H2 ⟨F2, as2, s2, y2, l2, S2, rx2, h2⟩ => ?_⟩
    refine ⟨F2, G, as2, ε, s2, S2, (E.mono l).mono l2, Pst.imp (PF.bind ((E.mono l).mono l2) h2) fun v3 H3 ⟨F3, as3, s3, y3, l3, S3, rx3, h3⟩ => ?_⟩
    split at h3
    · rename_i s4 e4
      exact gSetIx_ok S3 ((rx.mono l2).mono l3) (rx2.mono l3) rx3 e4 fun H' S4 => h3 F3 as3 σ H' Le.refl S4 (((E.mono l).mono l2).mono l3)
    · exact h3.elim
end
@[simp] theorem e_try {d1 d2 : DS} {tbl : List (Str × Bool)} {ε : En} {s : Sto} : sTry d1 tbl d2 ε s = match d1 ε s with
  | .exc c ε' s' => match lkC tbl c with
    | some true => noEx (d2 ε' s')
    | some false => .exc c ε' s'
    | none => .bad
  | r => r := rfl
end Dn

set_option linter.all false
set_option maxRecDepth 100000
/-! Dm, part A: greatest ways between places, in plain Lean: a table that is closed place by place. -/
namespace Dm
abbrev Edge := Nat × Nat × Int
abbrev Tb := Nat → Nat → Option Int
/-- a dating keeps all steps -/
def Feas (E : List Edge) (y : Nat → Int) : Prop := ∀ e ∈ E, y e.1 + e.2.2 ≤ y e.2.1
def Holds (E : List Edge) : Prop := ∃ y, Feas E y
def InN (n : Nat) (E : List Edge) : Prop := ∀ e ∈ E, e.1 ≤ n ∧ e.2.1 ≤ n
/-- a way, with its sum -/
inductive Wk (E : List Edge) (i : Nat) : Nat → Int → Prop
  | nil : Wk E i i 0
  | snoc {u v : Nat} {w c : Int} : Wk E i u w → (u, v, c) ∈ E → Wk E i v (w + c)
theorem Wk.trans {E : List Edge} {i j k : Nat} {w c : Int} (a : Wk E i j w) (b : Wk E j k c) : Wk E i k (w + c) := by
  induction b with
  | nil =>
    rw [Int.add_zero]
    exact a
  | snoc _ h ih =>
    rw [← Int.add_assoc]
    exact .snoc ih h
theorem Wk.one {E : List Edge} {i j : Nat} {c : Int} (h : (i, j, c) ∈ E) : Wk E i j c := by
  have := Wk.snoc .nil h
  rw [Int.zero_add] at this
  exact this
theorem Wk.feas {E : List Edge} {y : Nat → Int} (h : Feas E y) {i j : Nat} {w : Int} (k : Wk E i j w) : y i + w ≤ y j := by
  induction k with
  | nil => omega
  | snoc _ e ih =>
    have := h _ e
    dsimp only at this
    omega
def ltO : Option Int → Int → Bool
  | none, _ => true
  | some v, w => decide (v < w)
def relax (T : Tb) (i j : Nat) (w : Int) : Tb := if ltO (T i j) w = true then fun a b => if a = i ∧ b = j then some w else T a b else T
def tb0 : Tb := fun i j => if i = j then some 0 else none
def addE (E : List Edge) (T : Tb) : Tb := E.foldl (fun T e => relax T e.1 e.2.1 e.2.2) T
def rowF (k i : Nat) (f : Int) (T : Tb) (j : Nat) : Tb := match T k j with | none => T | some s => relax T i j (f + s)
def fwRow (k i : Nat) (f : Int) (js : List Nat) (T : Tb) : Tb := js.foldl (rowF k i f) T
def stF (js : List Nat) (k : Nat) (T : Tb) (i : Nat) : Tb := match T i k with | none => T | some f => fwRow k i f js T
def fwStage (js : List Nat) (is : List Nat) (k : Nat) (T : Tb) : Tb := is.foldl (stF js k) T
theorem rowF_none {k i j : Nat} {f : Int} {T : Tb} (h : T k j = none) : rowF k i f T j = T := by
  unfold rowF
  rw [h]
theorem rowF_some {k i j : Nat} {f s : Int} {T : Tb} (h : T k j = some s) : rowF k i f T j = relax T i j (f + s) := by
  unfold rowF
  rw [h]
theorem stF_none {js : List Nat} {k i : Nat} {T : Tb} (h : T i k = none) : stF js k T i = T := by
  unfold stF
  rw [h]
theorem stF_some {js : List Nat} {k i : Nat} {f : Int} {T : Tb} (h : T i k = some f) : stF js k T i = fwRow k i f js T := by
  unfold stF
  rw [h]
def fwAll (js is ks : List Nat) (T : Tb) : Tb := ks.foldl (fun T k => fwStage js is k T) T
def fw (n : Nat) (E : List Edge) : Tb := fwAll (List.range (n + 1)) (List.range (n + 1)) (List.range (n + 1)) (addE E tb0)
/-- a table grows -/
def Grow (T U : Tb) : Prop := ∀ i j v, T i j = some v → ∃ v', U i j = some v' ∧ v ≤ v'
theorem Grow.refl {T : Tb} : Grow T T := fun _ _ v h => ⟨v, h, Int.le_refl _⟩
theorem Grow.trans {T U V : Tb} (a : Grow T U) (b : Grow U V) : Grow T V := fun i j v h => by
  obtain ⟨v1, h1, l1⟩ := a i j v h
  obtain ⟨v2, h2, l2⟩ := b i j v1 h1
  exact ⟨v2, h2, by omega⟩
theorem relax_ne {T : Tb} {i j a b : Nat} {w : Int} (h : ¬ (a = i ∧ b = j)) : relax T i j w a b = T a b := by
  unfold relax
  split
  · exact if_neg h
  · rfl
theorem relax_at {T : Tb} {i j : Nat} {w : Int} : ∃ v, relax T i j w i j = some v ∧ w ≤ v := by
  unfold relax
  split
  · exact ⟨w, if_pos ⟨rfl, rfl⟩, Int.le_refl _⟩
  · rename_i h
    cases e : T i j with
    | none =>
      rw [e] at h
      exact absurd rfl h
    | some v =>
      rw [e] at h
      exact ⟨v, rfl, by
        have : ¬ v < w := fun q => h (decide_eq_true q)
        omega⟩
theorem relax_or {T : Tb} {i j a b : Nat} {w v : Int} (h : relax T i j w a b = some v) : T a b = some v ∨ (a = i ∧ b = j ∧ v = w) := by
  by_cases hc : a = i ∧ b = j
  · unfold relax at h
    split at h
    · have h : (if a = i ∧ b = j then some w else T a b) = some v := h
      rw [if_pos hc] at h
      exact .inr ⟨hc.1, hc.2, (Option.some.inj h).symm⟩
    · exact .inl h
  · rw [relax_ne hc] at h
    exact .inl h
theorem relax_grow {T : Tb} {i j : Nat} {w : Int} : Grow T (relax T i j w) := fun a b v h => by
  by_cases hc : a = i ∧ b = j
  · obtain ⟨e1, e2⟩ := hc
    subst e1 e2
    unfold relax
    split
    · rename_i hl
      rw [h] at hl
      exact ⟨w, if_pos ⟨rfl, rfl⟩, Int.le_of_lt (of_decide_eq_true hl)⟩
    · exact ⟨v, h, Int.le_refl _⟩
  · exact ⟨v, by rw [relax_ne hc]; exact h, Int.le_refl _⟩
theorem foldl_grow {α : Type} {f : Tb → α → Tb} (hf : ∀ T a, Grow T (f T a)) : ∀ (l : List α) (T : Tb), Grow T (l.foldl f T)
  | [], T => .refl
  | a :: l, T => (hf T a).trans (foldl_grow hf l (f T a))
theorem fwRow_grow {k i : Nat} {f : Int} {js : List Nat} {T : Tb} : Grow T (fwRow k i f js T) := foldl_grow (fun T j => by
  unfold rowF
  split
  · exact .refl
  · exact relax_grow) js T
theorem fwStage_grow {js is : List Nat} {k : Nat} {T : Tb} : Grow T (fwStage js is k T) := foldl_grow (fun T i => by
  unfold stF
  split
  · exact .refl
  · exact fwRow_grow) is T
theorem fwAll_grow {js is ks : List Nat} {T : Tb} : Grow T (fwAll js is ks T) := foldl_grow (fun T k => fwStage_grow) ks T
theorem addE_grow {E : List Edge} {T : Tb} : Grow T (addE E T) := foldl_grow (fun T e => relax_grow) E T
/-! every entry is a way's sum -/
def Snd (E : List Edge) (T : Tb) : Prop := ∀ i j w, T i j = some w → Wk E i j w
theorem foldl_inv {α : Type} {P : Tb → Prop} {f : Tb → α → Tb} : ∀ (l : List α) (T : Tb), P T → (∀ T a, a ∈ l → P T → P (f T a)) → P (l.foldl f T)
  | [], T, h, _ => h
  | a :: l, T, h, hf => foldl_inv l (f T a) (hf T a List.mem_cons_self h) (fun T b hb => hf T b (List.mem_cons_of_mem _ hb))
theorem relax_snd {E : List Edge} {T : Tb} {i j : Nat} {w : Int} (h : Snd E T) (hw : Wk E i j w) : Snd E (relax T i j w) := fun a b v e => by
  rcases relax_or e with e | ⟨e1, e2, e3⟩
  · exact h a b v e
  · subst e1 e2 e3
    exact hw
theorem fw_snd {E : List Edge} {n : Nat} : Snd E (fw n E) := by
  unfold fw fwAll
  refine foldl_inv _ _ ?_ (fun T k _ hT => ?_)
  · unfold addE
    refine foldl_inv _ _ (fun i j w e => ?_) (fun T e he hT => relax_snd hT (.one he))
    unfold tb0 at e
    split at e
    · rename_i hij
      subst hij
      cases e
      exact .nil
    · cases e
  · unfold fwStage
    refine foldl_inv (P := Snd E) _ _ hT (fun U i _ hU => ?_)
    unfold stF
    split
    · exact hU
    · rename_i f hf
      have hw := hU _ _ _ hf
      unfold fwRow
      refine foldl_inv (P := Snd E) _ _ hU (fun V j _ hV => ?_)
      unfold rowF
      split
      · exact hV
      · rename_i s hs
        exact relax_snd hV (hw.trans (hV _ _ _ hs))
/-! closed through a place -/
def Tri (n : Nat) (T : Tb) (m : Nat) : Prop := ∀ i j f s, i ≤ n → j ≤ n → T i m = some f → T m j = some s → ∃ v, T i j = some v ∧ f + s ≤ v
theorem row_same {k : Nat} {js : List Nat} {U : Tb} (h : U k k = some 0) : fwRow k k 0 js U = U := by
  unfold fwRow
  induction js with
  | nil => rfl
  | cons j js ih =>
    rw [List.foldl_cons]
    have e : rowF k k 0 U j = U := by
      cases hs : U k j with
      | none => exact rowF_none hs
      | some s =>
        rw [rowF_some hs]
        unfold relax
        rw [hs, if_neg]
        intro q
        have : s < 0 + s := of_decide_eq_true q
        omega
    rw [e]
    exact ih
structure RowP (k i : Nat) (f : Int) (js : List Nat) (U V : Tb) : Prop where
  ne : ∀ a b, a ≠ i → V a b = U a b
  ge : ∀ b s, b ∈ js → U k b = some s → ∃ v, V i b = some v ∧ f + s ≤ v
  or : ∀ b v, V i b = some v → U i b = some v ∨ ∃ s, U k b = some s ∧ v = f + s
theorem row_p {k i : Nat} {f : Int} (hi : i ≠ k) : ∀ (js : List Nat) (U : Tb), RowP k i f js U (fwRow k i f js U)
  | [], U => ⟨fun _ _ _ => rfl, fun _ _ h => absurd h (List.not_mem_nil), fun _ _ h => .inl h⟩
  | j :: js, U => by
    have key : ∃ U1, rowF k i f U j = U1 ∧ (∀ a b, a ≠ i → U1 a b = U a b) ∧ Grow U U1 ∧ (∀ s, U k j = some s → ∃ v, U1 i j = some v ∧ f + s ≤ v) ∧ (∀ b v, U1 i b = some v → U i b = some v ∨ ∃ s, U k b = some s ∧ v = f + s) := by
      cases e : U k j with
      | none => exact ⟨U, rowF_none e, fun _ _ _ => rfl, .refl, fun _ h => (by cases h), fun _ _ h => Or.inl h⟩
      | some s =>
        refine ⟨_, rowF_some e, fun a b ha => relax_ne (fun q => ha q.1), relax_grow, fun s' hs => ?_, fun b v h => ?_⟩
        · cases hs
          exact relax_at
        · rcases relax_or h with h | ⟨_, e2, e3⟩
          · exact .inl h
          · subst e2
            exact .inr ⟨s, e, e3⟩
    obtain ⟨U1, e1, n1, g1, a1, o1⟩ := key
    have ih := row_p (f := f) hi js U1
    have eq : fwRow k i f (j :: js) U = fwRow k i f js U1 := by
      unfold fwRow
      rw [List.foldl_cons, e1]
    rw [eq]
    have g2 : Grow U1 (fwRow k i f js U1) := fwRow_grow
    refine ⟨fun a b ha => (ih.ne a b ha).trans (n1 a b ha), fun b s hb hs => ?_, fun b v h => ?_⟩
    · rcases List.mem_cons.mp hb with hb | hb
      · subst hb
        obtain ⟨v, h1, h2⟩ := a1 s hs
        obtain ⟨v', h3, h4⟩ := g2 _ _ _ h1
        exact ⟨v', h3, by omega⟩
      · exact ih.ge b s hb (by rw [n1 k b (Ne.symm hi)]; exact hs)
    · rcases ih.or b v h with h | ⟨s, h, e⟩
      · exact o1 b v h
      · rw [n1 k b (Ne.symm hi)] at h
        exact .inr ⟨s, h, e⟩
/-- what a stage keeps -/
structure StP (T : Tb) (k : Nat) (U : Tb) : Prop where
  row : ∀ j, U k j = T k j
  col : ∀ i, U i k = T i k
  or : ∀ i j v, U i j = some v → T i j = some v ∨ ∃ f s, T i k = some f ∧ T k j = some s ∧ v = f + s
theorem stage_p {T : Tb} {k : Nat} {js : List Nat} (h0 : T k k = some 0) : ∀ (is : List Nat) (U : Tb), StP T k U → StP T k (fwStage js is k U) ∧ ∀ i ∈ is, ∀ j ∈ js, ∀ f s, T i k = some f → T k j = some s → ∃ v, fwStage js is k U i j = some v ∧ f + s ≤ v
  | [], U, S => ⟨S, fun _ h => absurd h (List.not_mem_nil)⟩
  | i :: is, U, S => by
    have key : ∃ U1, stF js k U i = U1 ∧ StP T k U1 ∧ ∀ j ∈ js, ∀ f s, T i k = some f → T k j = some s → ∃ v, U1 i j = some v ∧ f + s ≤ v := by
      cases e : U i k with
      | none =>
        refine ⟨U, stF_none e, S, fun j hj f s hf => ?_⟩
        rw [S.col, hf] at e
        cases e
      | some f =>
        by_cases hi : i = k
        · subst hi
          have e2 : U i i = some 0 := by rw [S.row]; exact h0
          have ef : f = 0 := by
            rw [e2] at e
            exact (Option.some.inj e).symm
          subst ef
          refine ⟨U, by rw [stF_some e, row_same e2], S, fun j hj f s hf hs => ?_⟩
          rw [h0] at hf
          cases hf
          exact ⟨s, by rw [S.row]; exact hs, by omega⟩
        · have R := row_p (f := f) hi js U
          have ek : ∀ b, U k b = T k b := S.row
          refine ⟨_, stF_some e, ⟨fun j => ?_, fun a => ?_, fun a b v h => ?_⟩, fun j hj f' s hf hs => ?_⟩
          · rw [R.ne k j (Ne.symm hi)]
            exact S.row j
          · by_cases ha : a = i
            · subst ha
              have ⟨v, hv, _⟩ : ∃ v', fwRow k a f js U a k = some v' ∧ f ≤ v' := fwRow_grow a k f e
              rcases R.or k v hv with q | ⟨s, q, e3⟩
              · rw [hv, ← q]
                exact S.col a
              · rw [ek, h0] at q
                cases q
                rw [hv, e3, Int.add_zero, ← S.col, e]
            · rw [R.ne a k ha]
              exact S.col a
          · by_cases ha : a = i
            · subst ha
              rcases R.or b v h with q | ⟨s, q, e3⟩
              · exact S.or a b v q
              · exact .inr ⟨f, s, by rw [← S.col]; exact e, by rw [← ek]; exact q, e3⟩
            · rw [R.ne a b ha] at h
              exact S.or a b v h
          · rw [← S.col, e] at hf
            cases hf
            exact R.ge j s hj (by rw [ek]; exact hs)
    obtain ⟨U1, e1, S1, b1⟩ := key
    have eq : fwStage js (i :: is) k U = fwStage js is k U1 := by
      unfold fwStage
      rw [List.foldl_cons, e1]
    rw [eq]
    obtain ⟨S2, b2⟩ := stage_p (js := js) h0 is U1 S1
    refine ⟨S2, fun a ha j hj f s hf hs => ?_⟩
    rcases List.mem_cons.mp ha with ha | ha
    · subst ha
      obtain ⟨v, h1, h2⟩ := b1 j hj f s hf hs
      obtain ⟨v', h3, h4⟩ := (fwStage_grow (js := js) (is := is) (k := k) (T := U1)) _ _ _ h1
      exact ⟨v', h3, by omega⟩
    · exact b2 a ha j hj f s hf hs
theorem stage_tri {n : Nat} {T : Tb} {k m : Nat} (hk : k ≤ n) (hm : m ≤ n) (h0 : T k k = some 0) (t : Tri n T m) : Tri n (fwStage (List.range (n + 1)) (List.range (n + 1)) k T) m := by
  obtain ⟨S, b⟩ := stage_p (js := List.range (n + 1)) h0 (List.range (n + 1)) T ⟨fun _ => rfl, fun _ => rfl, fun _ _ _ h => .inl h⟩
  have g : Grow T (fwStage (List.range (n + 1)) (List.range (n + 1)) k T) := fwStage_grow
  generalize fwStage (List.range (n + 1)) (List.range (n + 1)) k T = U at S b g
  have bb : ∀ i j f s, i ≤ n → j ≤ n → T i k = some f → T k j = some s → ∃ v, U i j = some v ∧ f + s ≤ v := fun i j f s hi hj => b i (List.mem_range.mpr (by omega)) j (List.mem_range.mpr (by omega)) f s
  intro i j f s hi hj hf hs
  rcases S.or i m f hf with hf | ⟨f1, f2, p1, p2, e1⟩
  · rcases S.or m j s hs with hs | ⟨s1, s2, q1, q2, e2⟩
    · obtain ⟨v, h1, h2⟩ := t i j f s hi hj hf hs
      obtain ⟨v', h3, h4⟩ := g _ _ _ h1
      exact ⟨v', h3, by omega⟩
    · obtain ⟨v, h1, h2⟩ := t i k f s1 hi hk hf q1
      obtain ⟨v', h3, h4⟩ := bb i j v s2 hi hj h1 q2
      exact ⟨v', h3, by omega⟩
  · rcases S.or m j s hs with hs | ⟨s1, s2, q1, q2, e2⟩
    · obtain ⟨v, h1, h2⟩ := t k j f2 s hk hj p2 hs
      obtain ⟨v', h3, h4⟩ := bb i j f1 v hi hj p1 h1
      exact ⟨v', h3, by omega⟩
    · obtain ⟨v, h1, h2⟩ := t k k f2 s1 hk hk p2 q1
      rw [h0] at h1
      cases h1
      obtain ⟨v', h3, h4⟩ := bb i j f1 s2 hi hj p1 q2
      exact ⟨v', h3, by omega⟩
theorem stage_new {n : Nat} {T : Tb} {k : Nat} (hk : k ≤ n) (h0 : T k k = some 0) : Tri n (fwStage (List.range (n + 1)) (List.range (n + 1)) k T) k := by
  obtain ⟨S, b⟩ := stage_p (js := List.range (n + 1)) h0 (List.range (n + 1)) T ⟨fun _ => rfl, fun _ => rfl, fun _ _ _ h => .inl h⟩
  intro i j f s hi hj hf hs
  rw [S.col] at hf
  rw [S.row] at hs
  exact b i (List.mem_range.mpr (by omega)) j (List.mem_range.mpr (by omega)) f s hf hs
/-- nothing above 0 stands in the diagonal -/
def Calm (n : Nat) (T : Tb) : Prop := ∀ i v, i ≤ n → T i i = some v → v ≤ 0
def Diag (n : Nat) (T : Tb) : Prop := ∀ i, i ≤ n → ∃ v, T i i = some v ∧ 0 ≤ v
theorem Diag.grow {n : Nat} {T U : Tb} (d : Diag n T) (g : Grow T U) : Diag n U := fun i hi => by
  obtain ⟨v, h1, h2⟩ := d i hi
  obtain ⟨v', h3, h4⟩ := g _ _ _ h1
  exact ⟨v', h3, by omega⟩
theorem Calm.back {n : Nat} {T U : Tb} (c : Calm n U) (g : Grow T U) : Calm n T := fun i v hi h => by
  obtain ⟨v', h3, h4⟩ := g _ _ _ h
  have := c i v' hi h3
  omega
theorem diag0 {n : Nat} {T : Tb} (d : Diag n T) (c : Calm n T) {i : Nat} (hi : i ≤ n) : T i i = some 0 := by
  obtain ⟨v, h1, h2⟩ := d i hi
  have := c i v hi h1
  rw [h1, show v = 0 by omega]
theorem all_tri {n : Nat} : ∀ (ks : List Nat) (T : Tb) (done : List Nat), (∀ k ∈ ks, k ≤ n) → (∀ k ∈ done, k ≤ n) → Diag n T → Calm n (fwAll (List.range (n + 1)) (List.range (n + 1)) ks T) → (∀ m ∈ done, Tri n T m) → ∀ m, m ∈ done ∨ m ∈ ks → Tri n (fwAll (List.range (n + 1)) (List.range (n + 1)) ks T) m
  | [], T, done, _, _, _, _, t, m, hm => hm.elim (t m) (fun h => absurd h (List.not_mem_nil))
  | k :: ks, T, done, hk, hd, d, c, t, m, hm => by
    have eq : fwAll (List.range (n + 1)) (List.range (n + 1)) (k :: ks) T = fwAll (List.range (n + 1)) (List.range (n + 1)) ks (fwStage (List.range (n + 1)) (List.range (n + 1)) k T) := rfl
    rw [eq] at c ⊢
    have g1 : Grow T (fwStage (List.range (n + 1)) (List.range (n + 1)) k T) := fwStage_grow
    have c1 := c.back fwAll_grow
    have kn := hk k List.mem_cons_self
    have h0 := diag0 d (c1.back g1) kn
    refine all_tri ks _ (k :: done) (fun a ha => hk a (List.mem_cons_of_mem _ ha)) (fun a ha => ?_) (d.grow g1) c (fun a ha => ?_) m ?_
    · rcases List.mem_cons.mp ha with ha | ha
      · rw [ha]; exact kn
      · exact hd a ha
    · rcases List.mem_cons.mp ha with ha | ha
      · rw [ha]; exact stage_new kn h0
      · exact stage_tri kn (hd a ha) h0 (t a ha)
    · rcases hm with hm | hm
      · exact .inl (List.mem_cons_of_mem _ hm)
      · rcases List.mem_cons.mp hm with hm | hm
        · exact .inl (by rw [hm]; exact List.mem_cons_self)
        · exact .inr hm
theorem addE_ge : ∀ (E : List Edge) (T : Tb), ∀ e ∈ E, ∃ v, addE E T e.1 e.2.1 = some v ∧ e.2.2 ≤ v
  | [], _, _, h => absurd h (List.not_mem_nil)
  | e :: E, T, e', h => by
    have eq : addE (e :: E) T = addE E (relax T e.1 e.2.1 e.2.2) := rfl
    rw [eq]
    rcases List.mem_cons.mp h with h | h
    · rw [h]
      obtain ⟨v, h1, h2⟩ := relax_at (T := T) (i := e.1) (j := e.2.1) (w := e.2.2)
      obtain ⟨v', h3, h4⟩ := addE_grow (E := E) _ _ _ h1
      exact ⟨v', h3, by omega⟩
    · exact addE_ge E _ e' h
theorem tb0_diag {n : Nat} : Diag n tb0 := fun i _ => ⟨0, if_pos rfl, Int.le_refl _⟩
theorem fw_diag {n : Nat} {E : List Edge} : Diag n (fw n E) := (tb0_diag.grow addE_grow).grow fwAll_grow
theorem fw_edge {n : Nat} {E : List Edge} {e : Edge} (h : e ∈ E) : ∃ v, fw n E e.1 e.2.1 = some v ∧ e.2.2 ≤ v := by
  obtain ⟨v, h1, h2⟩ := addE_ge E tb0 e h
  obtain ⟨v', h3, h4⟩ := (fwAll_grow (js := List.range (n + 1)) (is := List.range (n + 1)) (ks := List.range (n + 1)) (T := addE E tb0)) _ _ _ h1
  exact ⟨v', h3, by omega⟩
theorem fw_tri {n : Nat} {E : List Edge} (c : Calm n (fw n E)) {m : Nat} (hm : m ≤ n) : Tri n (fw n E) m :=
  all_tri (List.range (n + 1)) _ [] (fun k hk => by have := List.mem_range.mp hk; omega) (fun _ h => absurd h (List.not_mem_nil)) (tb0_diag.grow addE_grow) c (fun _ h => absurd h (List.not_mem_nil)) m (.inr (List.mem_range.mpr (by omega)))
/-- where it is calm: each way is below its entry -/
theorem fw_way {n : Nat} {E : List Edge} (hE : InN n E) (c : Calm n (fw n E)) {i j : Nat} {w : Int} (hi : i ≤ n) (h : Wk E i j w) : j ≤ n ∧ ∃ v, fw n E i j = some v ∧ w ≤ v := by
  induction h with
  | nil => exact ⟨hi, 0, diag0 fw_diag c hi, Int.le_refl _⟩
  | @snoc u v w c' _ he ih =>
    obtain ⟨hu, x, h1, h2⟩ := ih
    obtain ⟨y, h3, h4⟩ := fw_edge (n := n) he
    have h4 : c' ≤ y := h4
    have hv := (hE _ he).2
    obtain ⟨z, h5, h6⟩ := fw_tri c hu i v x y hi hv h1 h3
    exact ⟨hv, z, h5, by omega⟩
/-! a dating out of the table -/
def maxO : Option Int → Option Int → Option Int
  | none, b => b
  | some a, none => some a
  | some a, some b => some (max a b)
def top (T : Tb) (j : Nat) : Nat → Option Int
  | 0 => T 0 j
  | i + 1 => maxO (T (i + 1) j) (top T j i)
theorem maxO_l {a : Int} {b : Option Int} : ∃ m, maxO (some a) b = some m ∧ a ≤ m := by
  cases b with
  | none => exact ⟨a, rfl, Int.le_refl _⟩
  | some b => exact ⟨max a b, rfl, by omega⟩
theorem maxO_r {a : Option Int} {b : Int} : ∃ m, maxO a (some b) = some m ∧ b ≤ m := by
  cases a with
  | none => exact ⟨b, rfl, Int.le_refl _⟩
  | some a => exact ⟨max a b, rfl, by omega⟩
theorem maxO_or {a b : Option Int} {m : Int} (h : maxO a b = some m) : a = some m ∨ b = some m := by
  cases a with
  | none => exact .inr h
  | some a =>
    cases b with
    | none => exact .inl h
    | some b =>
      have e : max a b = m := Option.some.inj h
      by_cases q : a ≤ b
      · exact .inr (by rw [← e]; congr 1; omega)
      · exact .inl (by rw [← e]; congr 1; omega)
theorem top_ge {T : Tb} {j : Nat} : ∀ (k i : Nat) (v : Int), i ≤ k → T i j = some v → ∃ m, top T j k = some m ∧ v ≤ m
  | 0, i, v, hi, h => ⟨v, by rw [show i = 0 by omega] at h; exact h, Int.le_refl _⟩
  | k + 1, i, v, hi, h => by
    unfold top
    by_cases e : i = k + 1
    · rw [← e, h]
      exact maxO_l
    · obtain ⟨m, h1, h2⟩ := top_ge k i v (by omega) h
      rw [h1]
      obtain ⟨m', h3, h4⟩ := maxO_r (a := T (k + 1) j) (b := m)
      exact ⟨m', h3, by omega⟩
theorem top_at {T : Tb} {j : Nat} : ∀ (k : Nat) (m : Int), top T j k = some m → ∃ i, i ≤ k ∧ T i j = some m
  | 0, m, h => ⟨0, Nat.le_refl _, h⟩
  | k + 1, m, h => by
    unfold top at h
    rcases maxO_or h with h | h
    · exact ⟨k + 1, Nat.le_refl _, h⟩
    · obtain ⟨i, h1, h2⟩ := top_at k m h
      exact ⟨i, by omega, h2⟩
theorem fw_holds {n : Nat} {E : List Edge} (hE : InN n E) (c : Calm n (fw n E)) : Holds E := by
  refine ⟨fun j => (top (fw n E) j n).getD 0, fun e he => ?_⟩
  obtain ⟨ha, hb⟩ := hE e he
  obtain ⟨m, h1, h2⟩ := top_ge n e.1 0 ha (diag0 fw_diag c ha)
  obtain ⟨i, hi, h3⟩ := top_at n m h1
  obtain ⟨w, h4, h5⟩ := fw_edge (n := n) he
  obtain ⟨v, h6, h7⟩ := fw_tri c ha i e.2.1 m w hi hb h3 h4
  obtain ⟨m', h8, h9⟩ := top_ge n i v hi h6
  dsimp only
  rw [h1, h8]
  show m + e.2.2 ≤ m'
  omega
theorem holds_calm {n : Nat} {E : List Edge} (h : Holds E) : Calm n (fw n E) := fun i v _ e => by
  obtain ⟨y, hy⟩ := h
  have := (fw_snd i i v e).feas hy
  omega
theorem calm_iff {n : Nat} {E : List Edge} (hE : InN n E) : Calm n (fw n E) ↔ Holds E := ⟨fw_holds hE, holds_calm⟩
theorem Holds.sub {E E' : List Edge} (h : Holds E) (s : ∀ e ∈ E', e ∈ E) : Holds E' := by
  obtain ⟨y, hy⟩ := h
  exact ⟨y, fun e he => hy e (s e he)⟩
end Dm

set_option linter.all false
set_option maxRecDepth 100000
/-! Dm, part B: ways that are made longer step by step, until nothing is new. -/
namespace Dm
abbrev Fd := Nat → Option Int
def setF (D : Fd) (i : Nat) (v : Int) : Fd := fun a => if a = i then some v else D a
def bfE (S : Fd × Bool) (e : Edge) : Fd × Bool := match S.1 e.1 with
  | none => S
  | some v => if ltO (S.1 e.2.1) (v + e.2.2) = true then (setF S.1 e.2.1 (v + e.2.2), true) else S
def bfRound (E : List Edge) (D : Fd) : Fd × Bool := E.foldl bfE (D, false)
def far (E : List Edge) : Nat → Fd → Option Fd
  | 0, _ => none
  | k + 1, D => if (bfRound E D).2 = true then far E k (bfRound E D).1 else some (bfRound E D).1
def GrowF (D U : Fd) : Prop := ∀ i v, D i = some v → ∃ v', U i = some v' ∧ v ≤ v'
theorem GrowF.refl {D : Fd} : GrowF D D := fun _ v h => ⟨v, h, Int.le_refl _⟩
theorem GrowF.trans {D U V : Fd} (a : GrowF D U) (b : GrowF U V) : GrowF D V := fun i v h => by
  obtain ⟨v1, h1, l1⟩ := a i v h
  obtain ⟨v2, h2, l2⟩ := b i v1 h1
  exact ⟨v2, h2, by omega⟩
theorem set_at {D : Fd} {i : Nat} {v : Int} : setF D i v i = some v := if_pos rfl
theorem set_ne {D : Fd} {i a : Nat} {v : Int} (h : a ≠ i) : setF D i v a = D a := if_neg h
theorem bfE_cases (S : Fd × Bool) (e : Edge) : (bfE S e = S ∧ (∀ v, S.1 e.1 = some v → ∃ v', S.1 e.2.1 = some v' ∧ v + e.2.2 ≤ v')) ∨ (∃ v, S.1 e.1 = some v ∧ ltO (S.1 e.2.1) (v + e.2.2) = true ∧ bfE S e = (setF S.1 e.2.1 (v + e.2.2), true)) := by
  cases h : S.1 e.1 with
  | none => exact .inl ⟨by unfold bfE; rw [h], fun v q => by cases q⟩
  | some v =>
    by_cases c : ltO (S.1 e.2.1) (v + e.2.2) = true
    · exact .inr ⟨v, rfl, c, by unfold bfE; rw [h]; dsimp only; rw [if_pos c]⟩
    · refine .inl ⟨by unfold bfE; rw [h]; dsimp only; rw [if_neg c], fun v' q => ?_⟩
      cases q
      cases h2 : S.1 e.2.1 with
      | none =>
        rw [h2] at c
        exact absurd rfl c
      | some u =>
        rw [h2] at c
        exact ⟨u, rfl, by
          have : ¬ u < v + e.2.2 := fun q => c (decide_eq_true q)
          omega⟩
theorem bfE_grow (S : Fd × Bool) (e : Edge) : GrowF S.1 (bfE S e).1 := by
  rcases bfE_cases S e with ⟨h, _⟩ | ⟨v, h1, h2, h3⟩
  · rw [h]; exact .refl
  · rw [h3]
    intro i u hu
    by_cases hi : i = e.2.1
    · subst hi
      rw [hu] at h2
      exact ⟨_, set_at, Int.le_of_lt (of_decide_eq_true h2)⟩
    · exact ⟨u, (set_ne hi).trans hu, Int.le_refl _⟩
theorem fold_grow : ∀ (E : List Edge) (S : Fd × Bool), GrowF S.1 (E.foldl bfE S).1
  | [], S => .refl
  | e :: E, S => (bfE_grow S e).trans (fold_grow E (bfE S e))
theorem fold_flag : ∀ (E : List Edge) (S : Fd × Bool), S.2 = true → (E.foldl bfE S).2 = true
  | [], S, h => h
  | e :: E, S, h => fold_flag E (bfE S e) (by
    rcases bfE_cases S e with ⟨q, _⟩ | ⟨v, _, _, q⟩
    · rw [q]; exact h
    · rw [q])
/-- nothing new: nothing was changed, and each step is kept -/
theorem fold_calm : ∀ (E : List Edge) (S : Fd × Bool), (E.foldl bfE S).2 = false → E.foldl bfE S = S ∧ ∀ e ∈ E, ∀ v, S.1 e.1 = some v → ∃ v', S.1 e.2.1 = some v' ∧ v + e.2.2 ≤ v'
  | [], S, _ => ⟨rfl, fun _ h => absurd h (List.not_mem_nil)⟩
  | e :: E, S, h => by
    rw [List.foldl_cons] at h ⊢
    rcases bfE_cases S e with ⟨q, k⟩ | ⟨v, _, _, q⟩
    · rw [q] at h ⊢
      obtain ⟨h1, h2⟩ := fold_calm E S h
      refine ⟨h1, fun e' he => ?_⟩
      rcases List.mem_cons.mp he with he | he
      · rw [he]; exact k
      · exact h2 e' he
    · rw [fold_flag E _ (by rw [q])] at h
      cases h
/-! ways with their places, the last first -/
inductive WL (E : List Edge) (B : Nat → Prop) : List Nat → Int → Prop
  | one {v : Nat} : B v → WL E B [v] 0
  | cons {u v : Nat} {r : List Nat} {w c : Int} : WL E B (u :: r) w → (u, v, c) ∈ E → WL E B (v :: u :: r) (w + c)
section
variable {E : List Edge} {B : Nat → Prop} {y : Nat → Int}
theorem WL.wk {l : List Nat} {w : Int} (h : WL E B l w) : ∃ i, B i ∧ Wk E i (l.headD 0) w := by
  induction h with
  | one h => exact ⟨_, h, .nil⟩
  | cons _ e ih =>
    obtain ⟨i, h1, h2⟩ := ih
    exact ⟨i, h1, .snoc h2 e⟩
theorem Wk.wl {i v : Nat} {w : Int} (hi : B i) (h : Wk E i v w) : ∃ r, WL E B (v :: r) w := by
  induction h with
  | nil => exact ⟨[], .one hi⟩
  | snoc _ e ih =>
    obtain ⟨r, h⟩ := ih
    exact ⟨_, .cons h e⟩
theorem WL.in {n : Nat} (hE : InN n E) (hB : ∀ v, B v → v ≤ n) {l : List Nat} {w : Int} (h : WL E B l w) : ∀ x ∈ l, x ≤ n := by
  induction h with
  | one h =>
    intro x hx
    rw [List.mem_singleton.mp hx]
    exact hB _ h
  | cons _ e ih =>
    intro x hx
    rcases List.mem_cons.mp hx with hx | hx
    · rw [hx]
      exact (hE _ e).2
    · exact ih x hx
theorem WL.drop (hy : Feas E y) {l : List Nat} {w : Int} (h : WL E B l w) : ∀ (xs : List Nat) (u : Nat) (r : List Nat), l = xs ++ u :: r → ∃ w', WL E B (u :: r) w' ∧ y u + w ≤ y (l.headD 0) + w' := by
  induction h with
  | one h =>
    intro xs u r e
    cases xs with
    | nil =>
      obtain ⟨e1, e2⟩ := List.cons.inj e
      subst e1 e2
      exact ⟨0, .one h, Int.le_refl _⟩
    | cons x xs =>
      have := (List.cons.inj e).2
      simp at this
  | @cons u' v r' w c h e ih =>
    intro xs u r q
    cases xs with
    | nil =>
      obtain ⟨e1, e2⟩ := List.cons.inj q
      subst e1 e2
      exact ⟨w + c, .cons h e, Int.le_refl _⟩
    | cons x xs =>
      obtain ⟨w', h1, h2⟩ := ih xs u r (List.cons.inj q).2
      have := hy _ e
      dsimp only [List.headD_cons] at h2 this ⊢
      exact ⟨w', h1, by omega⟩
theorem WL.cut (hy : Feas E y) {l : List Nat} {w : Int} (h : WL E B l w) : ¬ l.Nodup → ∃ l' w', l'.length < l.length ∧ l'.headD 0 = l.headD 0 ∧ w ≤ w' ∧ WL E B l' w' := by
  induction h with
  | one h => exact fun q => absurd (by simp) q
  | @cons u v r w c h e ih =>
    intro q
    by_cases hv : v ∈ u :: r
    · obtain ⟨s, t, hst⟩ := List.append_of_mem hv
      obtain ⟨w', h1, h2⟩ := (WL.cons h e).drop hy (v :: s) v t (by rw [hst]; rfl)
      dsimp only [List.headD_cons] at h2
      refine ⟨v :: t, w', ?_, rfl, by omega, h1⟩
      rw [hst]
      simp
      omega
    · have hn : ¬ (u :: r).Nodup := fun z => q (List.nodup_cons.mpr ⟨hv, z⟩)
      obtain ⟨l', w', h1, h2, h3, h4⟩ := ih hn
      cases h4 with
      | one hb =>
        rename_i v'
        have e2 : v' = u := h2
        subst e2
        refine ⟨[v, v'], 0 + c, ?_, rfl, by omega, .cons (.one hb) e⟩
        simp at h1 ⊢
        exact h1
      | @cons a b t w1 c1 g1 g2 =>
        have e2 : b = u := h2
        subst e2
        refine ⟨v :: b :: a :: t, w1 + c1 + c, by simp at h1 ⊢; omega, rfl, by omega, .cons (.cons g1 g2) e⟩
theorem nodup_len : ∀ (n : Nat) (l : List Nat), l.Nodup → (∀ x ∈ l, x < n) → l.length ≤ n
  | 0, [], _, _ => Nat.le_refl _
  | 0, x :: _, _, h => absurd (h x List.mem_cons_self) (Nat.not_lt_zero _)
  | n + 1, l, hn, h => by
    by_cases hm : n ∈ l
    · have h1 := nodup_len n (l.erase n) (hn.erase n) (fun x hx => by
        have h2 := (hn.mem_erase_iff).mp hx
        have h3 := h x h2.2
        omega)
      rw [List.length_erase_of_mem hm] at h1
      omega
    · have h1 := nodup_len n l hn (fun x hx => by
        have h3 := h x hx
        have : x ≠ n := fun e => hm (by rw [← e]; exact hx)
        omega)
      omega
/-- a way without a place twice, as great -/
theorem WL.short {n : Nat} (hE : InN n E) (hB : ∀ v, B v → v ≤ n) (hy : Feas E y) : ∀ (k : Nat) {l : List Nat} {w : Int}, l.length ≤ k → WL E B l w → ∃ l' w', l'.length ≤ n + 1 ∧ l'.headD 0 = l.headD 0 ∧ w ≤ w' ∧ WL E B l' w'
  | 0, l, w, hl, h => by
    cases h with
    | one h => simp at hl
    | cons h e => simp at hl
  | k + 1, l, w, hl, h => by
    by_cases hn : l.Nodup
    · exact ⟨l, w, nodup_len (n + 1) l hn (fun x hx => by have := h.in hE hB x hx; omega), rfl, Int.le_refl _, h⟩
    · obtain ⟨l', w', h1, h2, h3, h4⟩ := h.cut hy hn
      obtain ⟨l2, w2, g1, g2, g3, g4⟩ := WL.short hE hB hy k (by omega) h4
      exact ⟨l2, w2, g1, g2.trans h2, by omega, g4⟩
/-! the rounds -/
/-- D tells of ways alone -/
def SndF (E : List Edge) (B : Nat → Prop) (D : Fd) : Prop := ∀ v w, D v = some w → ∃ i, B i ∧ Wk E i v w
/-- D is at least each way of at most so many places -/
def Ge (E : List Edge) (B : Nat → Prop) (k : Nat) (D : Fd) : Prop := ∀ l w, l.length ≤ k + 1 → WL E B l w → ∃ d, D (l.headD 0) = some d ∧ w ≤ d
theorem fold_snd : ∀ (L : List Edge) (S : Fd × Bool), (∀ e ∈ L, e ∈ E) → SndF E B S.1 → SndF E B (L.foldl bfE S).1
  | [], S, _, h => h
  | e :: L, S, hL, h => fold_snd L (bfE S e) (fun a ha => hL a (List.mem_cons_of_mem _ ha)) (by
    rcases bfE_cases S e with ⟨q, _⟩ | ⟨v, h1, _, q⟩
    · rw [q]; exact h
    · rw [q]
      intro a w hw
      by_cases ha : a = e.2.1
      · subst ha
        have e2 : v + e.2.2 = w := Option.some.inj (set_at.symm.trans hw)
        subst e2
        obtain ⟨i, g1, g2⟩ := h _ _ h1
        exact ⟨i, g1, .snoc g2 (hL _ List.mem_cons_self)⟩
      · exact h a w ((set_ne ha).symm.trans hw))
theorem fold_ge : ∀ (L : List Edge) (S : Fd × Bool), ∀ e ∈ L, ∀ v, S.1 e.1 = some v → ∃ v', (L.foldl bfE S).1 e.2.1 = some v' ∧ v + e.2.2 ≤ v'
  | [], _, _, h => absurd h (List.not_mem_nil)
  | e :: L, S, e', h => by
    intro v hv
    rw [List.foldl_cons]
    rcases List.mem_cons.mp h with h | h
    · subst h
      have : ∃ v', (bfE S e').1 e'.2.1 = some v' ∧ v + e'.2.2 ≤ v' := by
        rcases bfE_cases S e' with ⟨q, k⟩ | ⟨u, h1, _, q⟩
        · rw [q]; exact k v hv
        · rw [hv] at h1
          cases h1
          rw [q]
          exact ⟨_, set_at, Int.le_refl _⟩
      obtain ⟨v', g1, g2⟩ := this
      obtain ⟨v2, g3, g4⟩ := fold_grow L (bfE S e') _ _ g1
      exact ⟨v2, g3, by omega⟩
    · obtain ⟨v1, g1, g2⟩ := bfE_grow S e _ _ hv
      obtain ⟨v2, g3, g4⟩ := fold_ge L (bfE S e) e' h v1 g1
      exact ⟨v2, g3, by omega⟩
theorem Ge.round {k : Nat} {D : Fd} (h : Ge E B k D) : Ge E B (k + 1) (bfRound E D).1 := by
  intro l w hl hw
  have g := fold_grow E (D, false)
  cases hw with
  | one hb =>
    obtain ⟨d, h1, h2⟩ := h _ _ (by simp) (WL.one hb)
    obtain ⟨d', h3, h4⟩ := g _ _ h1
    exact ⟨d', h3, by omega⟩
  | @cons u v r w c h1 h2 =>
    obtain ⟨d, h3, h4⟩ := h _ _ (by simp at hl ⊢; omega) h1
    obtain ⟨d', h5, h6⟩ := fold_ge E (D, false) _ h2 d h3
    have h6 : d + c ≤ d' := h6
    exact ⟨d', h5, by omega⟩
theorem SndF.round {D : Fd} (h : SndF E B D) : SndF E B (bfRound E D).1 := fold_snd E (D, false) (fun _ h => h) h
/-- so many rounds are enough, where a dating keeps all steps -/
theorem far_some {n : Nat} (hE : InN n E) (hB : ∀ v, B v → v ≤ n) (hy : Feas E y) : ∀ (f k : Nat) (D : Fd), Ge E B k D → SndF E B D → n + 1 ≤ k + f → 1 ≤ f → ∃ D', far E f D = some D'
  | 0, _, _, _, _, _, h => absurd h (by decide)
  | f + 1, k, D, hg, hs, hf, _ => by
    unfold far
    by_cases hb : (bfRound E D).2 = true
    · rw [if_pos hb]
      by_cases hk : n ≤ k
      · exfalso
        have all : ∀ v w, (∃ i, B i ∧ Wk E i v w) → ∃ d, D v = some d ∧ w ≤ d := by
          intro v w ⟨i, hi, hw⟩
          obtain ⟨r, hw⟩ := hw.wl hi
          obtain ⟨l', w', g1, g2, g3, g4⟩ := hw.short hE hB hy _ (Nat.le_refl _)
          obtain ⟨d, h1, h2⟩ := hg l' w' (by omega) g4
          rw [g2] at h1
          exact ⟨d, h1, by omega⟩
        have calm : ∀ (L : List Edge), (∀ e ∈ L, e ∈ E) → L.foldl bfE (D, false) = (D, false) := by
          intro L
          induction L with
          | nil => exact fun _ => rfl
          | cons e L ih =>
            intro hL
            rw [List.foldl_cons]
            rcases bfE_cases (D, false) e with ⟨q, _⟩ | ⟨v, h1, h2, _⟩
            · rw [q]
              exact ih (fun a ha => hL a (List.mem_cons_of_mem _ ha))
            · exfalso
              obtain ⟨i, g1, g2⟩ := hs _ _ h1
              obtain ⟨d, h3, h4⟩ := all e.2.1 (v + e.2.2) ⟨i, g1, .snoc g2 (hL _ List.mem_cons_self)⟩
              have h3 : (D, false).1 e.2.1 = some d := h3
              rw [h3] at h2
              have : d < v + e.2.2 := of_decide_eq_true h2
              omega
        have := calm E (fun _ h => h)
        unfold bfRound at hb
        rw [this] at hb
        cases hb
      · exact far_some hE hB hy f (k + 1) _ hg.round hs.round (by omega) (by omega)
    · exact ⟨_, if_neg hb⟩
/-- what is told at the end -/
structure FarP (E : List Edge) (B : Nat → Prop) (D : Fd) : Prop where
  snd : SndF E B D
  base : ∀ i, B i → ∃ v, D i = some v ∧ 0 ≤ v
  step : ∀ e ∈ E, ∀ v, D e.1 = some v → ∃ v', D e.2.1 = some v' ∧ v + e.2.2 ≤ v'
theorem far_p : ∀ (f : Nat) (D D' : Fd), SndF E B D → (∀ i, B i → ∃ v, D i = some v ∧ 0 ≤ v) → far E f D = some D' → FarP E B D'
  | 0, _, _, _, _, h => by cases h
  | f + 1, D, D', hs, hb, h => by
    unfold far at h
    have base : ∀ i, B i → ∃ v, (bfRound E D).1 i = some v ∧ 0 ≤ v := fun i hi => by
      obtain ⟨v, h1, h2⟩ := hb i hi
      obtain ⟨v', h3, h4⟩ := fold_grow E (D, false) _ _ h1
      exact ⟨v', h3, by omega⟩
    split at h
    · exact far_p f _ D' hs.round base h
    · rename_i hf
      cases h
      have hf : (E.foldl bfE (D, false)).2 = false := by
        cases q : (E.foldl bfE (D, false)).2 with
        | true => exact absurd q hf
        | false => rfl
      obtain ⟨h1, h2⟩ := fold_calm E (D, false) hf
      have e : bfRound E D = (D, false) := h1
      rw [e]
      exact ⟨hs, hb, h2⟩
theorem FarP.way {D : Fd} (p : FarP E B D) {i v : Nat} {w : Int} (hi : B i) (h : Wk E i v w) : ∃ d, D v = some d ∧ w ≤ d := by
  induction h with
  | nil => exact p.base i hi
  | @snoc u v w c _ e ih =>
    obtain ⟨d, h1, h2⟩ := ih
    obtain ⟨d', h3, h4⟩ := p.step _ e d h1
    have h4 : d + c ≤ d' := h4
    exact ⟨d', h3, by omega⟩
end
def start (B : Nat → Prop) [DecidablePred B] : Fd := fun i => if B i then some 0 else none
theorem start_snd {E : List Edge} {B : Nat → Prop} [DecidablePred B] : SndF E B (start B) := fun v w h => by
  unfold start at h
  split at h
  · rename_i hb
    cases h
    exact ⟨v, hb, .nil⟩
  · cases h
theorem start_base {B : Nat → Prop} [DecidablePred B] : ∀ i, B i → ∃ v, start B i = some v ∧ 0 ≤ v := fun i h => ⟨0, if_pos h, Int.le_refl _⟩
theorem start_ge {E : List Edge} {B : Nat → Prop} [DecidablePred B] : Ge E B 0 (start B) := fun l w hl hw => by
  cases hw with
  | one h => exact ⟨0, if_pos h, Int.le_refl _⟩
  | cons h e => simp at hl
/-- from all places at once: it comes to an end exactly if a dating keeps all steps -/
theorem far_holds {n : Nat} {E : List Edge} (hE : InN n E) : (far E (n + 2) (start fun i => i ≤ n)).isSome = true ↔ Holds E := by
  constructor
  · intro h
    obtain ⟨D, hD⟩ := Option.isSome_iff_exists.mp h
    have p := far_p _ _ _ (start_snd (E := E)) start_base hD
    refine ⟨fun i => (D i).getD 0, fun e he => ?_⟩
    obtain ⟨v, h1, _⟩ := p.base e.1 (hE e he).1
    obtain ⟨v', h2, h3⟩ := p.step e he v h1
    dsimp only
    rw [h1, h2]
    exact h3
  · intro ⟨y, hy⟩
    obtain ⟨D, h⟩ := far_some (B := fun i => i ≤ n) hE (fun _ h => h) hy (n + 2) 0 _ start_ge start_snd (by omega) (by omega)
    rw [h]
    rfl
end Dm

set_option Elab.async false
set_option linter.all false
set_option maxRecDepth 100000
set_option maxHeartbeats 4000000
/-! Dn, part U: steps of records; the greatest ways. -/
namespace Dn
open PySem PySem.Spec PyProof.Rows L2
open Dm (Edge Tb fw fwRow fwStage fwAll relax ltO addE tb0 rowF stF InN Calm Holds)
def edV (e : Edge) : Va := .tup [.int e.1, .int e.2.1, .int e.2.2]
theorem edV_inj {e f : Edge} (h : edV e = edV f) : e = f := by
  obtain ⟨a, b, c⟩ := e
  obtain ⟨x, y, z⟩ := f
  unfold edV at h
  injection h with h
  injection h with h1 h
  injection h with h2 h
  injection h with h3 h
  injection h1 with h1
  injection h2 with h2
  injection h3 with h3
  have h1 : (a : Int) = x := h1
  have h2 : (b : Int) = y := h2
  have h3 : c = z := h3
  subst h3
  rw [show a = x by omega, show b = y by omega]
theorem edVs_inj {E E' : List Edge} (h : E.map edV = E'.map edV) : E = E' := (List.map_inj_right fun _ _ => edV_inj).mp h
def Rec.edges (n : Nat) : Rec → List Edge
  | .before a b g => [(a.toNat, b.toNat, g)]
  | .same a b => [(a.toNat, b.toNat, 0), (b.toNat, a.toNat, 0)]
  | .within a b g => [(b.toNat, a.toNat, -g)]
  | .since a y _ => [(n, a.toNat, y)]
  | .upto a y _ => [(a.toNat, n, -y)]
  | .kind _ _ => []
noncomputable def F_least_steps (args : List Va) (s : Sto) : Rs Va := match args with
  | [x, .int n] => match recOf x with
    | some r => if 0 ≤ n ∧ r.fits n then .ok (.lst ((r.edges n.toNat).map edV)) s else .bad
    | none => .bad
  | _ => .bad
noncomputable def b_least_steps : DS := (sSeq (sSet 2 (dBin gIx (dV 0) (dC (.int 0))))
  (sSeq (sIf (dTB (dBin (gEq false) (dV 2) (dC (.str "before")))) (sRet (dLst false (dCons (dTup (dCons (dBin gIx (dV 0) (dC (.int 1))) (dCons (dBin gIx (dV 0) (dC (.int 2))) (dCons (dBin gIx (dV 0) (dC (.int 3))) dNil)))) dNil))) sNext)
  (sSeq (sIf (dTB (dBin (gEq false) (dV 2) (dC (.str "same")))) (sRet (dLst false (dCons (dTup (dCons (dBin gIx (dV 0) (dC (.int 1))) (dCons (dBin gIx (dV 0) (dC (.int 2))) (dCons (dC (.int 0)) dNil)))) (dCons (dTup (dCons (dBin gIx (dV 0) (dC (.int 2))) (dCons (dBin gIx (dV 0) (dC (.int 1))) (dCons (dC (.int 0)) dNil)))) dNil)))) sNext)
  (sSeq (sIf (dTB (dBin (gEq false) (dV 2) (dC (.str "within")))) (sRet (dLst false (dCons (dTup (dCons (dBin gIx (dV 0) (dC (.int 2))) (dCons (dBin gIx (dV 0) (dC (.int 1))) (dCons (dUn gNeg (dBin gIx (dV 0) (dC (.int 3)))) dNil)))) dNil))) sNext)
  (sSeq (sIf (dTB (dBin (gEq false) (dV 2) (dC (.str "since")))) (sRet (dLst false (dCons (dTup (dCons (dV 1) (dCons (dBin gIx (dV 0) (dC (.int 1))) (dCons (dBin gIx (dV 0) (dC (.int 2))) dNil)))) dNil))) sNext)
  (sRet (dIf (dTB (dBin (gEq false) (dV 2) (dC (.str "until")))) (dLst false (dCons (dTup (dCons (dBin gIx (dV 0) (dC (.int 1))) (dCons (dV 1) (dCons (dUn gNeg (dBin gIx (dV 0) (dC (.int 2)))) dNil)))) dNil)) (dLst false dNil))))))))
theorem toNat_of {a n : Int} (h : 0 ≤ a ∧ a < n) : ((a.toNat : Nat) : Int) = a := Int.toNat_of_nonneg h.1
theorem least_steps_run {r : Rec} {n : Int} {s : Sto} (h0 : 0 ≤ n) (hf : r.fits n) : b_least_steps [some r.va, some (.int n), none] s = .ret (.lst ((r.edges n.toNat).map edV)) s := by
  unfold b_least_steps
  have hn : ((n.toNat : Nat) : Int) = n := Int.toNat_of_nonneg h0
  cases r with
  | before a b g =>
    obtain ⟨h1, h2⟩ := hf
    simp [Rec.va, atI_0, atI_1, atI_2, atI_3, Rec.edges, edV, toNat_of h1, toNat_of h2, -Int.ofNat_toNat]
  | same a b =>
    obtain ⟨h1, h2⟩ := hf
    simp [Rec.va, atI_0, atI_1, atI_2, Rec.edges, edV, toNat_of h1, toNat_of h2, -Int.ofNat_toNat]
  | within a b g =>
    obtain ⟨h1, h2⟩ := hf
    simp [Rec.va, atI_0, atI_1, atI_2, atI_3, Rec.edges, edV, toNat_of h1, toNat_of h2, -Int.ofNat_toNat]
  | since a y w => simp [Rec.va, atI_0, atI_1, atI_2, Rec.edges, edV, toNat_of hf, hn, -Int.ofNat_toNat]
  | upto a y w => simp [Rec.va, atI_0, atI_1, atI_2, Rec.edges, edV, toNat_of hf, hn, -Int.ofNat_toNat]
  | kind a k => simp [Rec.va, atI_0, Rec.edges]
theorem vasB_eds {n : Nat} : ∀ {E : List Edge}, vasB n (E.map edV)
  | [] => trivial
  | e :: E => ⟨⟨trivial, trivial, trivial, trivial⟩, vasB_eds⟩
theorem fin_least_steps (args : List Va) (s : Sto) (wf : WFn s.length s) (wa : vasB s.length args) (hl : args.length = 2) : Fin s.length (b_least_steps (startA 3 args) s) (F_least_steps args s) := by
  unfold F_least_steps
  split
  · split
    · rename_i e
      split
      · rename_i hc
        rw [recOf_eq e]
        exact Fin.ret1 (least_steps_run hc.1 hc.2) vasB_eds wf
      · exact .bad
    · exact .bad
  · exact .bad
/-! a table in the store -/
def oV : Option Int → Va
  | none => .non
  | some i => .int i
def rowV (n : Nat) (T : Tb) (i : Nat) : List Va := (List.range (n + 1)).map fun j => oV (T i j)
def tbR (n : Nat) (T : Tb) : List (List Va) := (List.range (n + 1)).map (rowV n T)
def stT (s : Sto) (n : Nat) (T : Tb) : Sto := s ++ (tbR n T).map .lst ++ [.lst ((List.range (tbR n T).length).map fun i => .ref (s.length + i))]
def updT (T : Tb) (i j : Nat) (v : Int) : Tb := fun a b => if a = i ∧ b = j then some v else T a b
theorem tbR_len {n : Nat} {T : Tb} : (tbR n T).length = n + 1 := by
  unfold tbR
  rw [List.length_map, List.length_range]
theorem rowV_len {n i : Nat} {T : Tb} : (rowV n T i).length = n + 1 := by
  unfold rowV
  rw [List.length_map, List.length_range]
theorem stT_top {s : Sto} {n : Nat} {T : Tb} : (stT s n T)[s.length + (n + 1)]? = some (.lst ((List.range (n + 1)).map fun i => .ref (s.length + i))) := by
  unfold stT
  rw [tbR_len, show s.length + (n + 1) = (s ++ (tbR n T).map Ob.lst).length by rw [List.length_append, List.length_map, tbR_len]]
  exact List.getElem?_concat_length
theorem stT_row {s : Sto} {n i : Nat} {T : Tb} (h : i ≤ n) : (stT s n T)[s.length + i]? = some (.lst (rowV n T i)) := by
  unfold stT
  rw [List.append_assoc, List.getElem?_append_right (by omega), show s.length + i - s.length = i by omega, List.getElem?_append_left (by rw [List.length_map, tbR_len]; omega), List.getElem?_map]
  unfold tbR
  rw [List.getElem?_map, List.getElem?_range (by omega)]
  rfl
theorem tget1 {s : Sto} {n i : Nat} {T : Tb} (h : i ≤ n) : gIx (.ref (s.length + (n + 1))) (.int i) (stT s n T) = .ok (.ref (s.length + i)) (stT s n T) := by
  rw [g_ix_ref stT_top, atI_in .non (by omega) (by rw [List.length_map, List.length_range]; omega)]
  dsimp only
  rw [Int.toNat_natCast, getD_map (fun i => Va.ref (s.length + i)) _ i 0 .non (by rw [List.length_range]; omega), List.getD_eq_getElem?_getD, List.getElem?_range (by omega)]
  rfl
theorem tget2 {s : Sto} {n i j : Nat} {T : Tb} (h : i ≤ n) (hj : j ≤ n) : gIx (.ref (s.length + i)) (.int j) (stT s n T) = .ok (oV (T i j)) (stT s n T) := by
  rw [g_ix_ref (stT_row h), atI_in .non (by omega) (by rw [rowV_len]; omega)]
  dsimp only
  unfold rowV
  rw [Int.toNat_natCast, getD_map (fun j => oV (T i j)) _ j 0 .non (by rw [List.length_range]; omega), List.getD_eq_getElem?_getD, List.getElem?_range (by omega)]
  rfl
theorem set_app_l {a b : Sto} {i : Nat} {o : Ob} (h : i < a.length) : (a ++ b).set i o = a.set i o ++ b := List.set_append_left _ _ h
theorem stT_set {s : Sto} {n i j : Nat} {T : Tb} {v : Int} (h : i ≤ n) (hj : j ≤ n) : (stT s n T).set (s.length + i) (.lst ((rowV n T i).set j (.int v))) = stT s n (updT T i j v) := by
  apply List.ext_getElem?
  intro p
  have lr : ∀ U : Tb, (stT s n U).length = s.length + (n + 1) + 1 := fun U => by
    unfold stT
    rw [List.length_append, List.length_append, List.length_map, tbR_len]
    rfl
  by_cases h1 : p < s.length
  · rw [List.getElem?_set_ne (by omega)]
    unfold stT
    rw [List.append_assoc, List.append_assoc, List.getElem?_append_left h1, List.getElem?_append_left h1]
  · by_cases h2 : p ≤ s.length + n
    · obtain ⟨q, rfl⟩ : ∃ q, p = s.length + q := ⟨p - s.length, by omega⟩
      have hq : q ≤ n := by omega
      rw [stT_row (T := updT T i j v) hq]
      by_cases h3 : q = i
      · subst h3
        rw [List.getElem?_set_self (by rw [lr]; omega)]
        congr 2
        apply List.ext_getElem?
        intro m
        unfold rowV
        by_cases h4 : m = j
        · subst h4
          rw [List.getElem?_set_self (by rw [List.length_map, List.length_range]; omega), List.getElem?_map, List.getElem?_range (by omega)]
          show _ = some (oV (updT T q m v q m))
          unfold updT
          rw [if_pos ⟨rfl, rfl⟩]
          rfl
        · rw [List.getElem?_set_ne (Ne.symm h4), List.getElem?_map, List.getElem?_map]
          by_cases h5 : m < n + 1
          · rw [List.getElem?_range h5]
            show some (oV (T q m)) = some (oV (updT T q j v q m))
            unfold updT
            rw [if_neg (fun e => h4 e.2)]
          · rw [List.getElem?_eq_none (by rw [List.length_range]; omega)]
            rfl
      · rw [List.getElem?_set_ne (by omega), stT_row hq]
        congr 2
        unfold rowV
        apply List.map_congr_left
        intro m _
        show oV (T q m) = oV (updT T i j v q m)
        unfold updT
        rw [if_neg (fun e => h3 e.1)]
    · by_cases h3 : p = s.length + (n + 1)
      · subst h3
        rw [List.getElem?_set_ne (by omega), stT_top, stT_top]
      · rw [List.getElem?_eq_none (by rw [List.length_set, lr]; omega), List.getElem?_eq_none (by rw [lr]; omega)]
theorem ixNin {n : Nat} {i : Int} (h0 : 0 ≤ i) (h1 : i < n) : ixN n i = some i.toNat := by
  unfold ixN
  rw [if_pos h0, if_pos (by omega)]
theorem tset {s : Sto} {n i j : Nat} {T : Tb} {v : Int} (h : i ≤ n) (hj : j ≤ n) : gSetIx (.int v) (.ref (s.length + i)) (.int j) (stT s n T) = some (stT s n (updT T i j v)) := by
  rw [g_set_ref (stT_row h) (ixNin (by omega) (by rw [rowV_len]; omega)), Int.toNat_natCast, stT_set h hj]
theorem stT_congr {s : Sto} {n : Nat} {T U : Tb} (h : ∀ i j, i ≤ n → j ≤ n → T i j = U i j) : stT s n T = stT s n U := by
  have e : tbR n T = tbR n U := by
    unfold tbR rowV
    apply List.map_congr_left
    intro i hi
    apply List.map_congr_left
    intro j hj
    have := List.mem_range.mp hi
    have := List.mem_range.mp hj
    rw [h i j (by omega) (by omega)]
  unfold stT
  rw [e]
noncomputable def gwPlace : DS := (sSetIx (dBin gIx (dV 2) (dV 4)) (dV 4) (dC (.int 0)))
noncomputable def gwStep : DS := (sIf (dOr (dTB (dBin (gIs false) (dBin gIx (dBin gIx (dV 2) (dV 5)) (dV 6)) (dC .non))) (dTB (dBin gLt (dBin gIx (dBin gIx (dV 2) (dV 5)) (dV 6)) (dV 7)))) (sSetIx (dBin gIx (dV 2) (dV 5)) (dV 6) (dV 7)) sNext)
noncomputable def gwInner : DS := (sSeq (sSet 10 (dBin gIx (dBin gIx (dV 2) (dV 8)) (dV 6)))
  (sIf (dAnd (dTB (dBin (gIs true) (dV 10) (dC .non))) (dOr (dTB (dBin (gIs false) (dBin gIx (dBin gIx (dV 2) (dV 5)) (dV 6)) (dC .non))) (dTB (dBin gLt (dBin gIx (dBin gIx (dV 2) (dV 5)) (dV 6)) (dBin (gAdd false) (dV 9) (dV 10)))))) (sSetIx (dBin gIx (dV 2) (dV 5)) (dV 6) (dBin (gAdd false) (dV 9) (dV 10))) sNext))
noncomputable def gwMid : DS := (sSeq (sSet 9 (dBin gIx (dBin gIx (dV 2) (dV 5)) (dV 8)))
  (sSeq (sIf (dTB (dBin (gIs false) (dV 9) (dC .non))) sCt sNext)
  (sFor (dRg1 (dCons (dBin (gAdd false) (dV 0) (dC (.int 1))) dNil)) (dgName 6)
   gwInner)))
noncomputable def gwOut : DS := (sFor (dRg1 (dCons (dBin (gAdd false) (dV 0) (dC (.int 1))) dNil)) (dgName 5)
   gwMid)
noncomputable def b_greatest_ways : DS := (sSeq (sSet 2 (dLc true (dRg1 (dCons (dBin (gAdd false) (dV 0) (dC (.int 1))) dNil)) (dgName 3) dYes (dBin (gMul true) (dLst false (dCons (dC .non) dNil)) (dBin (gAdd false) (dV 0) (dC (.int 1)))) [3]))
  (sSeq (sFor (dRg1 (dCons (dBin (gAdd false) (dV 0) (dC (.int 1))) dNil)) (dgName 4)
   gwPlace)
  (sSeq (sFor (dSeq (dV 1)) (dgTup [5, 6, 7])
   gwStep)
  (sSeq (sFor (dRg1 (dCons (dBin (gAdd false) (dV 0) (dC (.int 1))) dNil)) (dgName 8)
   gwOut)
  (sRet (dV 2))))))
theorem is_oV {o : Option Int} {s : Sto} : gIs false (oV o) .non s = .ok (.bl o.isNone) s := by
  cases o <;> simp [oV, gIs]
theorem not_oV {o : Option Int} {s : Sto} : gIs true (oV o) .non s = .ok (.bl o.isSome) s := by
  cases o <;> simp [oV, gIs]
theorem upd_relax {T : Tb} {i j : Nat} {w : Int} (h : ltO (T i j) w = true) : updT T i j w = relax T i j w := by
  unfold relax
  rw [if_pos h]
  rfl
theorem same_relax {T : Tb} {i j : Nat} {w : Int} (h : ¬ ltO (T i j) w = true) : T = relax T i j w := by
  unfold relax
  rw [if_neg h]
theorem rgA_nat {n : Nat} : rgA 0 ((n : Int) + 1) = (List.range (n + 1)).map fun i => Va.int (i : Nat) := by
  unfold rgA
  rw [show ((n : Int) + 1 - 0).toNat = n + 1 by omega]
  apply List.map_congr_left
  intro i _
  rw [Int.zero_add]
/-- what one step asks and sets -/
theorem step_run {s : Sto} {n : Nat} {T : Tb} {e : Edge} {e0 e1 e3 e4 e8 e9 e10 : Option Va} (h1 : e.1 ≤ n) (h2 : e.2.1 ≤ n) :
    gwStep [e0, e1, some (.ref (s.length + (n + 1))), e3, e4, some (.int e.1), some (.int e.2.1), some (.int e.2.2), e8, e9, e10] (stT s n T) = .nx [e0, e1, some (.ref (s.length + (n + 1))), e3, e4, some (.int e.1), some (.int e.2.1), some (.int e.2.2), e8, e9, e10] (stT s n (relax T e.1 e.2.1 e.2.2)) := by
  have g1 := tget1 (s := s) (T := T) h1
  have g2 := tget2 (s := s) (T := T) h1 h2
  have g3 := tset (s := s) (T := T) (v := e.2.2) h1 h2
  unfold gwStep
  cases q : T e.1 e.2.1 with
  | none =>
    have hr : ltO (T e.1 e.2.1) e.2.2 = true := by rw [q]; rfl
    rw [q] at g2
    simp [g1, g2, g3, is_oV, upd_relax hr]
  | some v =>
    rw [q] at g2
    by_cases hv : v < e.2.2
    · have hr : ltO (T e.1 e.2.1) e.2.2 = true := by rw [q]; exact decide_eq_true hv
      have e2 : oV (some v) = .int v := rfl
      rw [e2] at g2
      simp [g1, g2, g3, gIs, hv, upd_relax hr]
    · have hr : ¬ ltO (T e.1 e.2.1) e.2.2 = true := by rw [q]; exact fun z => hv (of_decide_eq_true z)
      have e2 : oV (some v) = .int v := rfl
      rw [e2] at g2
      rw [← same_relax hr]
      simp [g1, g2, gIs, hv]
theorem steps_loop {s : Sto} {n : Nat} {e0 e1 e3 e4 e8 e9 e10 : Option Va} {ck : Option (Nat × List Va)} (hck : ∀ T, okk ck (stT s n T)) : ∀ (E : List Edge) (T : Tb) (e5 e6 e7 : Option Va), InN n E →
    ∃ f5 f6 f7, lp ck (fBody (dgTup [5, 6, 7]) gwStep) (E.map edV) [e0, e1, some (.ref (s.length + (n + 1))), e3, e4, e5, e6, e7, e8, e9, e10] (stT s n T) = .nx [e0, e1, some (.ref (s.length + (n + 1))), e3, e4, f5, f6, f7, e8, e9, e10] (stT s n (addE E T))
  | [], T, e5, e6, e7, _ => ⟨e5, e6, e7, by rw [List.map_nil, lp, if_pos (hck T)]; rfl⟩
  | e :: E, T, e5, e6, e7, h => by
    obtain ⟨f5, f6, f7, ih⟩ := steps_loop hck E (relax T e.1 e.2.1 e.2.2) (some (.int e.1)) (some (.int e.2.1)) (some (.int e.2.2)) (fun a ha => h a (List.mem_cons_of_mem _ ha))
    obtain ⟨h1, h2⟩ := h e List.mem_cons_self
    refine ⟨f5, f6, f7, ?_⟩
    rw [List.map_cons, lp, if_pos (hck T)]
    have hb : fBody (dgTup [5, 6, 7]) gwStep (edV e) [e0, e1, some (.ref (s.length + (n + 1))), e3, e4, e5, e6, e7, e8, e9, e10] (stT s n T) = .nx [e0, e1, some (.ref (s.length + (n + 1))), e3, e4, some (.int e.1), some (.int e.2.1), some (.int e.2.2), e8, e9, e10] (stT s n (relax T e.1 e.2.1 e.2.2)) := step_run h1 h2
    rw [hb]
    exact ih
/-- the innermost turn -/
theorem inner_run {s : Sto} {n i j k : Nat} {f : Int} {T : Tb} {e0 e1 e3 e4 e7 e10 : Option Va} (hi : i ≤ n) (hj : j ≤ n) (hk : k ≤ n) :
    ∃ f10, gwInner [e0, e1, some (.ref (s.length + (n + 1))), e3, e4, some (.int i), some (.int j), e7, some (.int k), some (.int f), e10] (stT s n T) = .nx [e0, e1, some (.ref (s.length + (n + 1))), e3, e4, some (.int i), some (.int j), e7, some (.int k), some (.int f), f10] (stT s n (rowF k i f T j)) := by
  have g1 := tget1 (s := s) (T := T) hi
  have g2 := tget2 (s := s) (T := T) hi hj
  have k1 := tget1 (s := s) (T := T) hk
  have k2 := tget2 (s := s) (T := T) hk hj
  refine ⟨some (oV (T k j)), ?_⟩
  unfold gwInner
  cases p : T k j with
  | none =>
    rw [p] at k2
    rw [Dm.rowF_none p]
    simp [k1, k2, not_oV]
  | some c =>
    rw [p] at k2
    have e3 : oV (some c) = .int c := rfl
    rw [e3] at k2 ⊢
    rw [Dm.rowF_some p]
    have g3 := tset (s := s) (T := T) (v := f + c) hi hj
    cases q : T i j with
    | none =>
      have hr : ltO (T i j) (f + c) = true := by rw [q]; rfl
      rw [q] at g2
      have e2 : oV none = .non := rfl
      rw [e2] at g2
      simp [g1, g2, g3, k1, k2, gIs, upd_relax hr]
    | some v =>
      rw [q] at g2
      have e2 : oV (some v) = .int v := rfl
      rw [e2] at g2
      by_cases hv : v < f + c
      · have hr : ltO (T i j) (f + c) = true := by rw [q]; exact decide_eq_true hv
        simp [g1, g2, g3, k1, k2, gIs, hv, upd_relax hr]
      · have hr : ¬ ltO (T i j) (f + c) = true := by rw [q]; exact fun z => hv (of_decide_eq_true z)
        rw [← same_relax hr]
        simp [g1, g2, k1, k2, gIs, hv]
theorem inner_loop {s : Sto} {n i k : Nat} {f : Int} {e0 e1 e3 e4 e7 : Option Va} (hi : i ≤ n) (hk : k ≤ n) : ∀ (js : List Nat) (T : Tb) (e6 e10 : Option Va), (∀ j ∈ js, j ≤ n) →
    ∃ f6 f10, lp none (fBody (dgName 6) gwInner) (js.map fun j => Va.int (j : Nat)) [e0, e1, some (.ref (s.length + (n + 1))), e3, e4, some (.int i), e6, e7, some (.int k), some (.int f), e10] (stT s n T) = .nx [e0, e1, some (.ref (s.length + (n + 1))), e3, e4, some (.int i), f6, e7, some (.int k), some (.int f), f10] (stT s n (fwRow k i f js T))
  | [], T, e6, e10, _ => ⟨e6, e10, by rw [List.map_nil, lp_nil]; rfl⟩
  | j :: js, T, e6, e10, h => by
    obtain ⟨g10, hb⟩ := inner_run (s := s) (f := f) (T := T) (e0 := e0) (e1 := e1) (e3 := e3) (e4 := e4) (e7 := e7) (e10 := e10) hi (h j List.mem_cons_self) hk
    obtain ⟨f6, f10, ih⟩ := inner_loop (f := f) (e0 := e0) (e1 := e1) (e3 := e3) (e4 := e4) (e7 := e7) hi hk js (rowF k i f T j) (some (.int j)) g10 (fun a ha => h a (List.mem_cons_of_mem _ ha))
    refine ⟨f6, f10, ?_⟩
    rw [List.map_cons, lp_cons]
    have hb2 : fBody (dgName 6) gwInner (.int j) [e0, e1, some (.ref (s.length + (n + 1))), e3, e4, some (.int i), e6, e7, some (.int k), some (.int f), e10] (stT s n T) = _ := hb
    rw [hb2]
    exact ih
theorem mid_run {s : Sto} {n i k : Nat} {T : Tb} {e1 e3 e4 e6 e7 e9 e10 : Option Va} (hn : n ≤ 1000) (hi : i ≤ n) (hk : k ≤ n) :
    ∃ f6 f9 f10, (gwMid [some (.int n), e1, some (.ref (s.length + (n + 1))), e3, e4, some (.int i), e6, e7, some (.int k), e9, e10] (stT s n T) = .nx [some (.int n), e1, some (.ref (s.length + (n + 1))), e3, e4, some (.int i), f6, e7, some (.int k), f9, f10] (stT s n (stF (List.range (n + 1)) k T i))
      ∨ gwMid [some (.int n), e1, some (.ref (s.length + (n + 1))), e3, e4, some (.int i), e6, e7, some (.int k), e9, e10] (stT s n T) = .ct [some (.int n), e1, some (.ref (s.length + (n + 1))), e3, e4, some (.int i), f6, e7, some (.int k), f9, f10] (stT s n (stF (List.range (n + 1)) k T i))) := by
  have g1 := tget1 (s := s) (T := T) hi
  have g2 := tget2 (s := s) (T := T) hi hk
  have hr : inR ((n : Int) + 1) := ⟨by omega, by omega⟩
  cases p : T i k with
  | none =>
    rw [p] at g2
    rw [Dm.stF_none p]
    have e2 : oV none = .non := rfl
    rw [e2] at g2
    refine ⟨e6, some .non, e10, .inr ?_⟩
    unfold gwMid
    simp [g1, g2, gIs]
  | some f =>
    rw [p] at g2
    rw [Dm.stF_some p]
    have e2 : oV (some f) = .int f := rfl
    rw [e2] at g2
    obtain ⟨f6, f10, hL⟩ := inner_loop (s := s) (f := f) (e0 := some (.int n)) (e1 := e1) (e3 := e3) (e4 := e4) (e7 := e7) hi hk (List.range (n + 1)) T e6 e10 (fun j hj => by have := List.mem_range.mp hj; omega)
    refine ⟨f6, some (.int f), f10, .inl ?_⟩
    rw [← rgA_nat] at hL
    unfold gwMid
    simp [g1, g2, gIs, hr, hL]
theorem mid_loop {s : Sto} {n k : Nat} {e1 e3 e4 e7 : Option Va} (hn : n ≤ 1000) (hk : k ≤ n) : ∀ (is : List Nat) (T : Tb) (e5 e6 e9 e10 : Option Va), (∀ i ∈ is, i ≤ n) →
    ∃ f5 f6 f9 f10, lp none (fBody (dgName 5) gwMid) (is.map fun j => Va.int (j : Nat)) [some (.int n), e1, some (.ref (s.length + (n + 1))), e3, e4, e5, e6, e7, some (.int k), e9, e10] (stT s n T) = .nx [some (.int n), e1, some (.ref (s.length + (n + 1))), e3, e4, f5, f6, e7, some (.int k), f9, f10] (stT s n (fwStage (List.range (n + 1)) is k T))
  | [], T, e5, e6, e9, e10, _ => ⟨e5, e6, e9, e10, by rw [List.map_nil, lp_nil]; rfl⟩
  | i :: is, T, e5, e6, e9, e10, h => by
    obtain ⟨g6, g9, g10, hb⟩ := mid_run (s := s) (T := T) (e1 := e1) (e3 := e3) (e4 := e4) (e6 := e6) (e7 := e7) (e9 := e9) (e10 := e10) hn (h i List.mem_cons_self) hk
    obtain ⟨f5, f6, f9, f10, ih⟩ := mid_loop (e1 := e1) (e3 := e3) (e4 := e4) (e7 := e7) hn hk is (stF (List.range (n + 1)) k T i) (some (.int i)) g6 g9 g10 (fun a ha => h a (List.mem_cons_of_mem _ ha))
    refine ⟨f5, f6, f9, f10, ?_⟩
    rw [List.map_cons, lp_cons]
    rcases hb with hb | hb
    · have hb2 : fBody (dgName 5) gwMid (.int i) [some (.int n), e1, some (.ref (s.length + (n + 1))), e3, e4, e5, e6, e7, some (.int k), e9, e10] (stT s n T) = _ := hb
      rw [hb2]
      exact ih
    · have hb2 : fBody (dgName 5) gwMid (.int i) [some (.int n), e1, some (.ref (s.length + (n + 1))), e3, e4, e5, e6, e7, some (.int k), e9, e10] (stT s n T) = _ := hb
      rw [hb2]
      exact ih
theorem out_loop {s : Sto} {n : Nat} {e1 e3 e4 e7 : Option Va} (hn : n ≤ 1000) : ∀ (ks : List Nat) (T : Tb) (e5 e6 e8 e9 e10 : Option Va), (∀ i ∈ ks, i ≤ n) →
    ∃ f5 f6 f8 f9 f10, lp none (fBody (dgName 8) gwOut) (ks.map fun j => Va.int (j : Nat)) [some (.int n), e1, some (.ref (s.length + (n + 1))), e3, e4, e5, e6, e7, e8, e9, e10] (stT s n T) = .nx [some (.int n), e1, some (.ref (s.length + (n + 1))), e3, e4, f5, f6, e7, f8, f9, f10] (stT s n (fwAll (List.range (n + 1)) (List.range (n + 1)) ks T))
  | [], T, e5, e6, e8, e9, e10, _ => ⟨e5, e6, e8, e9, e10, by rw [List.map_nil, lp_nil]; rfl⟩
  | k :: ks, T, e5, e6, e8, e9, e10, h => by
    obtain ⟨g5, g6, g9, g10, hb⟩ := mid_loop (s := s) (e1 := e1) (e3 := e3) (e4 := e4) (e7 := e7) hn (h k List.mem_cons_self) (List.range (n + 1)) T e5 e6 e9 e10 (fun j hj => by have := List.mem_range.mp hj; omega)
    obtain ⟨f5, f6, f8, f9, f10, ih⟩ := out_loop (e1 := e1) (e3 := e3) (e4 := e4) (e7 := e7) hn ks (fwStage (List.range (n + 1)) (List.range (n + 1)) k T) g5 g6 (some (.int k)) g9 g10 (fun a ha => h a (List.mem_cons_of_mem _ ha))
    have hr : inR ((n : Int) + 1) := ⟨by omega, by omega⟩
    refine ⟨f5, f6, f8, f9, f10, ?_⟩
    rw [List.map_cons, lp_cons]
    have hb2 : fBody (dgName 8) gwOut (.int k) [some (.int n), e1, some (.ref (s.length + (n + 1))), e3, e4, e5, e6, e7, e8, e9, e10] (stT s n T) = .nx [some (.int n), e1, some (.ref (s.length + (n + 1))), e3, e4, g5, g6, e7, some (.int k), g9, g10] (stT s n (fwStage (List.range (n + 1)) (List.range (n + 1)) k T)) := by
      rw [← rgA_nat] at hb
      rw [e_fBody, e_dgName]
      unfold gwOut
      simp [hr, hb]
    rw [hb2]
    exact ih
def setDiag (l : List Nat) (T : Tb) : Tb := l.foldl (fun T i => updT T i i 0) T
theorem place_loop {s : Sto} {n : Nat} {e0 e1 e3 e5 e6 e7 e8 e9 e10 : Option Va} : ∀ (ks : List Nat) (T : Tb) (e4 : Option Va), (∀ i ∈ ks, i ≤ n) →
    ∃ f4, lp none (fBody (dgName 4) gwPlace) (ks.map fun j => Va.int (j : Nat)) [e0, e1, some (.ref (s.length + (n + 1))), e3, e4, e5, e6, e7, e8, e9, e10] (stT s n T) = .nx [e0, e1, some (.ref (s.length + (n + 1))), e3, f4, e5, e6, e7, e8, e9, e10] (stT s n (setDiag ks T))
  | [], T, e4, _ => ⟨e4, by rw [List.map_nil, lp_nil]; rfl⟩
  | k :: ks, T, e4, h => by
    have hk := h k List.mem_cons_self
    obtain ⟨f4, ih⟩ := place_loop (s := s) (e0 := e0) (e1 := e1) (e3 := e3) (e5 := e5) (e6 := e6) (e7 := e7) (e8 := e8) (e9 := e9) (e10 := e10) ks (updT T k k 0) (some (.int k)) (fun a ha => h a (List.mem_cons_of_mem _ ha))
    have g1 := tget1 (s := s) (T := T) hk
    have g3 := tset (s := s) (T := T) (v := 0) hk hk
    refine ⟨f4, ?_⟩
    rw [List.map_cons, lp_cons]
    have hb2 : fBody (dgName 4) gwPlace (.int k) [e0, e1, some (.ref (s.length + (n + 1))), e3, e4, e5, e6, e7, e8, e9, e10] (stT s n T) = .nx [e0, e1, some (.ref (s.length + (n + 1))), e3, some (.int k), e5, e6, e7, e8, e9, e10] (stT s n (updT T k k 0)) := by
      rw [e_fBody, e_dgName]
      unfold gwPlace
      simp [g1, g3]
    rw [hb2]
    exact ih
theorem setDiag_ne : ∀ (ks : List Nat) (T : Tb) (a b : Nat), a ≠ b → setDiag ks T a b = T a b
  | [], _, _, _, _ => rfl
  | k :: ks, T, a, b, h => by
    have e : setDiag (k :: ks) T = setDiag ks (updT T k k 0) := rfl
    rw [e, setDiag_ne ks _ a b h]
    unfold updT
    rw [if_neg (fun q => h (q.1.trans q.2.symm))]
theorem setDiag_eq : ∀ (ks : List Nat) (T : Tb) (a : Nat), a ∈ ks ∨ T a a = some 0 → setDiag ks T a a = some 0
  | [], T, a, h => h.elim (fun h => absurd h (List.not_mem_nil)) id
  | k :: ks, T, a, h => by
    have e : setDiag (k :: ks) T = setDiag ks (updT T k k 0) := rfl
    rw [e]
    refine setDiag_eq ks _ a ?_
    by_cases hk : a = k
    · right
      unfold updT
      rw [if_pos ⟨hk, hk⟩]
    · rcases h with h | h
      · rcases List.mem_cons.mp h with h | h
        · exact absurd h hk
        · exact .inl h
      · right
        unfold updT
        rw [if_neg (fun q => hk q.1)]
        exact h
/-- the rows made one by one -/
theorem mk_rows {n : Nat} {e0 e1 e2 e4 e5 e6 e7 e8 e9 e10 : Option Va} : ∀ (l acc : List Nat) (s : Sto) (e3 : Option Va), e0 = some (.int n) → n ≤ 1000 →
    cl none (dgName 3) dYes (dBin (gMul true) (dLst false (dCons (dC .non) dNil)) (dBin (gAdd false) (dV 0) (dC (.int 1)))) [e0, e1, e2, e3, e4, e5, e6, e7, e8, e9, e10] (l.map fun i => Va.int (i : Nat)) (acc.map .ref) s = .ok ((acc ++ (List.range l.length).map (s.length + ·)).map .ref) (s ++ List.replicate l.length (.lst (List.replicate (n + 1) .non)))
  | [], acc, s, e3, _, _ => by
    rw [List.map_nil, cl_nil, List.length_nil, List.range_zero, List.map_nil, List.append_nil, List.replicate_zero, List.append_nil]
  | x :: l, acc, s, e3, h0, hn => by
    subst h0
    have z : szOk ((n : Int) + 1) 1 := ⟨by omega, by omega, Nat.le_of_lt (lt_line (by omega))⟩
    have ih := mk_rows (n := n) (e0 := some (.int n)) (e1 := e1) (e2 := e2) (e4 := e4) (e5 := e5) (e6 := e6) (e7 := e7) (e8 := e8) (e9 := e9) (e10 := e10) l (acc ++ [s.length]) (s ++ [.lst (List.replicate (n + 1) .non)]) e3 rfl hn
    rw [List.map_cons, cl_cons, e_dgName]
    have hm : gMul true (.lst [Va.non]) (.int ((n : Int) + 1)) s = .ok (.ref s.length) (s ++ [.lst (List.replicate (n + 1) .non)]) := by
      unfold gMul
      have e : seqL (.lst [Va.non]) s = some [Va.non] := rfl
      simp only [e, z, if_true, List.length_cons, List.length_nil, Nat.zero_add]
      rw [show ((n : Int) + 1).toNat = n + 1 by omega, List.flatten_replicate_singleton]
      rfl
    simp only [List.set, e_Yes, noexc_ok, bind_ok, if_true, e_Bin, e_Lst, e_Cons, e_C, e_Nil, g_mkL_f, e_V, List.getElem?_cons_zero, g_add_int, hm]
    rw [List.map_append, List.map_cons, List.map_nil] at ih
    rw [ih, List.length_cons, List.range_succ_eq_map, List.map_cons, List.map_map, List.append_assoc, List.append_assoc, List.replicate_succ, List.length_append, List.length_singleton]
    have e : (List.range l.length).map (fun x => s.length + 1 + x) = (List.range l.length).map ((fun x => s.length + x) ∘ Nat.succ) := by
      apply List.map_congr_left
      intro i _
      show s.length + 1 + i = s.length + (i + 1)
      omega
    rw [e]
    rfl
theorem tb_none {n : Nat} : (tbR n (fun _ _ => none)).map Ob.lst = List.replicate (n + 1) (.lst (List.replicate (n + 1) .non)) := by
  have h : ∀ i, rowV n (fun _ _ => none) i = List.replicate (n + 1) .non := fun i => by
    unfold rowV
    rw [List.eq_replicate_iff]
    refine ⟨by rw [List.length_map, List.length_range], fun b hb => ?_⟩
    obtain ⟨j, _, e⟩ := List.mem_map.mp hb
    exact e.symm
  rw [List.eq_replicate_iff]
  refine ⟨by rw [List.length_map, tbR_len], fun b hb => ?_⟩
  obtain ⟨r, hr, e⟩ := List.mem_map.mp hb
  unfold tbR at hr
  obtain ⟨i, _, e2⟩ := List.mem_map.mp hr
  rw [← e, ← e2, h]
theorem mk_table {s : Sto} {n : Nat} {e1 e3 e4 e5 e6 e7 e8 e9 e10 : Option Va} (hn : n ≤ 1000) :
    dLc true (dRg1 (dCons (dBin (gAdd false) (dV 0) (dC (.int 1))) dNil)) (dgName 3) dYes (dBin (gMul true) (dLst false (dCons (dC .non) dNil)) (dBin (gAdd false) (dV 0) (dC (.int 1)))) [3] [some (.int n), e1, none, e3, e4, e5, e6, e7, e8, e9, e10] s = .ok (.ref (s.length + (n + 1))) (stT s n (fun _ _ => none)) := by
  have hr : inR ((n : Int) + 1) := ⟨by omega, by omega⟩
  have hq : leq (rgA 0 ((n : Int) + 1)).length 100000 := by unfold leq; rw [rgA_len]; omega
  have L := mk_rows (n := n) (e0 := some (.int n)) (e1 := e1) (e2 := none) (e4 := e4) (e5 := e5) (e6 := e6) (e7 := e7) (e8 := e8) (e9 := e9) (e10 := e10) (List.range (n + 1)) [] s none rfl hn
  rw [← rgA_nat, List.length_range, List.nil_append] at L
  have L2 : cl none (dgName 3) dYes (dBin (gMul true) (dLst false (dCons (dC .non) dNil)) (dBin (gAdd false) (dV 0) (dC (.int 1)))) (wip [some (.int n), e1, none, e3, e4, e5, e6, e7, e8, e9, e10] [3]) (rgA 0 ((n : Int) + 1)) [] s = _ := L
  rw [e_Lc, e_rg1, e_Cons, e_Bin, e_V]
  simp only [List.getElem?_cons_zero, bind_ok, e_C, g_add_int, e_Nil, hr, if_true, hq, L2, g_mkL_t]
  congr 1
  · rw [List.length_append, List.length_replicate]
  · unfold stT
    rw [tb_none, tbR_len, List.map_map]
    rfl
theorem seq_st {x : Va} {xs : List Va} {s : Sto} {n : Nat} (h : seqL x s = some xs) : ∃ ck, (∀ T, okk ck (stT s n T)) ∧ ∀ (T : Tb) (de : DE) (ε : En), de ε (stT s n T) = .ok x (stT s n T) → dSeq de ε (stT s n T) = .ok (ck, xs) (stT s n T) := by
  cases x with
  | lst ys =>
    cases h
    exact ⟨none, fun _ => trivial, fun T de ε e => by unfold dSeq; rw [e]; rfl⟩
  | ref i =>
    unfold seqL at h
    dsimp only at h
    split at h
    · rename_i ys e
      cases h
      have hi := (List.getElem?_eq_some_iff.mp e).1
      have e2 : ∀ T, (stT s n T)[i]? = some (.lst xs) := fun T => by
        unfold stT
        rw [List.append_assoc, List.getElem?_append_left hi]
        exact e
      refine ⟨some (i, xs), e2, fun T de ε h => ?_⟩
      unfold dSeq
      rw [h]
      simp only [bind_ok, e2]
    · cases h
  | _ => simp [seqL] at h
def P_gw (args : List Va) (s : Sto) (r : Rs Va) : Prop := ∃ (n : Nat) (E : List Edge) (x : Va), args = [.int n, x] ∧ seqL x s = some (E.map edV) ∧ r = .ok (.lst ((tbR n (fw n E)).map .lst)) s
noncomputable def F_greatest_ways : List Va → Sto → Rs Va := mir 11 b_greatest_ways P_gw
theorem greatest_run {s : Sto} {n : Nat} {E : List Edge} {x : Va} (hn : n ≤ 1000) (hE : InN n E) (hx : seqL x s = some (E.map edV)) : b_greatest_ways (startA 11 [.int n, x]) s = .ret (.ref (s.length + (n + 1))) (stT s n (fw n E)) := by
  have hr : inR ((n : Int) + 1) := ⟨by omega, by omega⟩
  have rl : ∀ j ∈ List.range (n + 1), j ≤ n := fun j hj => by have := List.mem_range.mp hj; omega
  have M := mk_table (s := s) (n := n) (e1 := some x) (e3 := none) (e4 := none) (e5 := none) (e6 := none) (e7 := none) (e8 := none) (e9 := none) (e10 := none) hn
  obtain ⟨f4, L1⟩ := place_loop (s := s) (n := n) (e0 := some (.int n)) (e1 := some x) (e3 := none) (e5 := none) (e6 := none) (e7 := none) (e8 := none) (e9 := none) (e10 := none) (List.range (n + 1)) (fun _ _ => none) none rl
  have ed : stT s n (setDiag (List.range (n + 1)) fun _ _ => none) = stT s n tb0 := stT_congr fun i j hi hj => by
    unfold tb0
    by_cases h : i = j
    · subst h
      rw [if_pos rfl]
      exact setDiag_eq _ _ _ (.inl (List.mem_range.mpr (by omega)))
    · rw [if_neg h]
      exact setDiag_ne _ _ _ _ h
  rw [ed, ← rgA_nat] at L1
  obtain ⟨ck, hck, hsq⟩ := seq_st (n := n) hx
  obtain ⟨f5, f6, f7, L2⟩ := steps_loop (s := s) (n := n) (e0 := some (.int n)) (e1 := some x) (e3 := none) (e4 := f4) (e8 := none) (e9 := none) (e10 := none) hck E tb0 none none none hE
  obtain ⟨g5, g6, g8, g9, g10, L3⟩ := out_loop (s := s) (n := n) (e1 := some x) (e3 := none) (e4 := f4) (e7 := f7) hn (List.range (n + 1)) (addE E tb0) f5 f6 none none none rl
  rw [← rgA_nat] at L3
  have S := hsq tb0 (dV 1) [some (.int n), some x, some (.ref (s.length + (n + 1))), none, f4, none, none, none, none, none, none] rfl
  have e0 : startA 11 [.int n, x] = [some (.int n), some x, none, none, none, none, none, none, none, none, none] := rfl
  rw [e0]
  unfold b_greatest_ways
  rw [e_seq, e_set, M]
  simp only [fl_ok, List.set, e_seq, e_for, e_rg1, e_Cons, e_Bin, e_V, List.getElem?_cons_zero, List.getElem?_cons_succ, bind_ok, e_C, g_add_int, e_Nil, hr, if_true, L1, S, L2, L3, e_ret]
  rfl
theorem vaB_oV {k : Nat} : ∀ o : Option Int, vaB k (oV o)
  | none => trivial
  | some _ => trivial
theorem vasB_tb {k n : Nat} {T : Tb} : ∀ r ∈ tbR n T, vasB k r := by
  intro r hr
  unfold tbR at hr
  obtain ⟨i, _, e⟩ := List.mem_map.mp hr
  rw [← e]
  unfold rowV
  generalize List.range (n + 1) = l
  induction l with
  | nil => trivial
  | cons a l ih =>
    exact ⟨vaB_oV _, ih⟩
theorem gw_eq {s : Sto} {n : Nat} {E : List Edge} {x : Va} (wf : WFn s.length s) (hn : n ≤ 1000) (hE : InN n E) (hx : seqL x s = some (E.map edV)) : F_greatest_ways [.int n, x] s = .ok (.lst ((tbR n (fw n E)).map .lst)) s := by
  have hf : Fin s.length (b_greatest_ways (startA 11 [.int n, x]) s) (.ok (.lst ((tbR n (fw n E)).map .lst)) s) := by
    refine Fin.frzT (rows := tbR n (fw n E)) ?_ rfl vasB_tb wf
    rw [greatest_run hn hE hx, tbR_len]
    unfold stT
    rw [tbR_len]
  obtain ⟨n', E', x', h1, h2, h3⟩ := mir_p (P := P_gw) ⟨n, E, x, rfl, hx, rfl⟩ hf
  injection h1 with h4 h5
  injection h5 with h5 _
  injection h4 with h4
  have h4 : (n : Int) = n' := h4
  have e : n' = n := by omega
  subst e h5
  rw [hx] at h2
  have e2 := edVs_inj (Option.some.inj h2)
  subst e2
  exact h3
theorem fin_greatest_ways (args : List Va) (s : Sto) (wf : WFn s.length s) (wa : vasB s.length args) (hl : args.length = 2) : Fin s.length (b_greatest_ways (startA 11 args) s) (F_greatest_ways args s) := fin_mir args s
end Dn

set_option Elab.async false
set_option linter.all false
set_option maxRecDepth 100000
set_option maxHeartbeats 4000000
/-! Dn, part V: ways, is_round, do_hold. -/
namespace Dn
open PySem PySem.Spec PyProof.Rows L2
open Dm (Edge Tb fw InN Calm Holds)
section
variable {n m : Nat}
mutual
theorem vaB_mono (h : n ≤ m) : ∀ {x : Va}, vaB n x → vaB m x
  | .non, _ => trivial
  | .bl _, _ => trivial
  | .int _, _ => trivial
  | .str _, _ => trivial
  | .tup xs, b => vasB_mono h (xs := xs) b
  | .lst xs, b => vasB_mono h (xs := xs) b
  | .ext xs, b => vasB_mono h (xs := xs) b
  | .dicK xs, b => vksB_mono h (xs := xs) b
  | .dicT xs, b => vtsB_mono h (xs := xs) b
  | .ref i, b => Nat.lt_of_lt_of_le b h
theorem vasB_mono (h : n ≤ m) : ∀ {xs : List Va}, vasB n xs → vasB m xs
  | [], _ => trivial
  | x :: xs, b => ⟨vaB_mono h (x := x) b.1, vasB_mono h (xs := xs) b.2⟩
theorem vksB_mono (h : n ≤ m) : ∀ {xs : List (Key × Va)}, vksB n xs → vksB m xs
  | [], _ => trivial
  | (_, x) :: xs, b => ⟨vaB_mono h (x := x) b.1, vksB_mono h (xs := xs) b.2⟩
theorem vtsB_mono (h : n ≤ m) : ∀ {xs : List (List Key × Va)}, vtsB n xs → vtsB m xs
  | [], _ => trivial
  | (_, x) :: xs, b => ⟨vaB_mono h (x := x) b.1, vtsB_mono h (xs := xs) b.2⟩
end
theorem vfsB_mono (h : n ≤ m) : ∀ {xs : List (Str × Va)}, vfsB n xs → vfsB m xs
  | [], _ => trivial
  | (_, x) :: xs, b => ⟨vaB_mono h (x := x) b.1, vfsB_mono h (xs := xs) b.2⟩
theorem obB_mono (h : n ≤ m) {o : Ob} (b : obB n o) : obB m o := by
  cases o with
  | lst xs => exact vasB_mono h (xs := xs) b
  | dicK xs => exact vksB_mono h (xs := xs) b
  | dicT xs => exact vtsB_mono h (xs := xs) b
  | ins C xs => exact vfsB_mono h (xs := xs) b
  | dead => trivial
theorem wf_mono (h : n ≤ m) {s : Sto} (w : WFn n s) : WFn m s := fun o ho => obB_mono h (w o ho)
end
theorem wf_push {s : Sto} {o : Ob} (w : WFn s.length s) (h : obB (s.length + 1) o) : WFn (s ++ [o]).length (s ++ [o]) := by
  rw [List.length_append, List.length_singleton]
  intro u hu
  rcases List.mem_append.mp hu with hu | hu
  · exact obB_mono (Nat.le_succ _) (w u hu)
  · rw [List.mem_singleton.mp hu]
    exact h
/-- handed back, and the store cut back -/
theorem Fin.cut {n : Nat} {raw : Fl} {v : Va} {s0 s1 : Sto} (h : raw = .ret v s0) (e : s0.take n = s1) (hv : vaB n v) (hw : WFn n s1) : Fin n raw (.ok v s1) := by
  subst e
  exact .ok (.inl h) (.same _ _) hv hw
/-! lists of records -/
def recsOf : List Va → Option (List Rec)
  | [] => some []
  | x :: xs => match recOf x, recsOf xs with
    | some r, some rs => some (r :: rs)
    | _, _ => none
theorem recsOf_map : ∀ rs : List Rec, recsOf (rs.map Rec.va) = some rs
  | [] => rfl
  | r :: rs => by
    rw [List.map_cons, recsOf, recOf_va, recsOf_map rs]
theorem recsOf_eq : ∀ {xs : List Va} {rs : List Rec}, recsOf xs = some rs → xs = rs.map Rec.va
  | [], rs, h => by
    cases h
    rfl
  | x :: xs, rs, h => by
    unfold recsOf at h
    split at h
    · rename_i r rs' e1 e2
      cases h
      rw [List.map_cons, recOf_eq e1, recsOf_eq e2]
    · cases h
def edgesR (n : Nat) (rs : List Rec) : List Edge := rs.flatMap (Rec.edges n)
def Fits (n : Nat) (rs : List Rec) : Prop := n ≤ 1000 ∧ rs.length ≤ 10000 ∧ ∀ r ∈ rs, r.fits n
noncomputable instance (n : Nat) (rs : List Rec) : Decidable (Fits n rs) := Classical.propDecidable _
theorem edges_in {n : Nat} {r : Rec} (h : r.fits n) : InN n (r.edges n) := by
  intro e he
  cases r with
  | before a b g =>
    obtain ⟨h1, h2⟩ := h
    simp [Rec.edges] at he
    subst he
    exact ⟨by show a.toNat ≤ n; omega, by show b.toNat ≤ n; omega⟩
  | same a b =>
    obtain ⟨h1, h2⟩ := h
    simp [Rec.edges] at he
    rcases he with he | he
    · subst he
      exact ⟨by show a.toNat ≤ n; omega, by show b.toNat ≤ n; omega⟩
    · subst he
      exact ⟨by show b.toNat ≤ n; omega, by show a.toNat ≤ n; omega⟩
  | within a b g =>
    obtain ⟨h1, h2⟩ := h
    simp [Rec.edges] at he
    subst he
    exact ⟨by show b.toNat ≤ n; omega, by show a.toNat ≤ n; omega⟩
  | since a y w =>
    obtain ⟨h1, h2⟩ := h
    simp [Rec.edges] at he
    subst he
    exact ⟨Nat.le_refl _, by show a.toNat ≤ n; omega⟩
  | upto a y w =>
    obtain ⟨h1, h2⟩ := h
    simp [Rec.edges] at he
    subst he
    exact ⟨by show a.toNat ≤ n; omega, Nat.le_refl _⟩
  | kind a k => simp [Rec.edges] at he
theorem edgesR_in {n : Nat} {rs : List Rec} (h : ∀ r ∈ rs, r.fits n) : InN n (edgesR n rs) := fun e he => by
  obtain ⟨r, h1, h2⟩ := List.mem_flatMap.mp he
  exact edges_in (h r h1) e h2
theorem edges_few {n : Nat} (r : Rec) : (r.edges n).length ≤ 2 := by
  cases r <;> simp [Rec.edges]
theorem edgesR_few {n : Nat} : ∀ rs : List Rec, (edgesR n rs).length ≤ 2 * rs.length
  | [] => Nat.le_refl _
  | r :: rs => by
    have e : edgesR n (r :: rs) = r.edges n ++ edgesR n rs := rfl
    have h1 := edges_few (n := n) r
    have h2 := edgesR_few (n := n) rs
    rw [e, List.length_append, List.length_cons]
    omega
/-- a list, read where more objects stand behind -/
theorem seq_push {x : Va} {xs : List Va} {s : Sto} (h : seqL x s = some xs) : ∃ ck, ∀ (s2 : Sto), okk ck (s ++ s2) ∧ ∀ (de : DE) (ε : En), de ε (s ++ s2) = .ok x (s ++ s2) → dSeq de ε (s ++ s2) = .ok (ck, xs) (s ++ s2) := by
  cases x with
  | lst ys =>
    cases h
    exact ⟨none, fun s2 => ⟨trivial, fun de ε e => by unfold dSeq; rw [e]; rfl⟩⟩
  | ref i =>
    unfold seqL at h
    dsimp only at h
    split at h
    · rename_i ys e
      cases h
      have hi := (List.getElem?_eq_some_iff.mp e).1
      have e2 : ∀ s2 : Sto, (s ++ s2)[i]? = some (.lst xs) := fun s2 => by
        rw [List.getElem?_append_left hi]
        exact e
      refine ⟨some (i, xs), fun s2 => ⟨e2 s2, fun de ε h => ?_⟩⟩
      unfold dSeq
      rw [h]
      simp only [bind_ok, e2]
    · cases h
  | _ => simp [seqL] at h
def tbV (n : Nat) (T : Tb) : Va := .lst ((tbR n T).map .lst)
noncomputable def F_ways (args : List Va) (s : Sto) : Rs Va := match args with
  | [.int n, x] => match seqL x s with
    | some xs => match recsOf xs with
      | some rs => if 0 ≤ n ∧ Fits n.toNat rs then .ok (tbV n.toNat (fw n.toNat (edgesR n.toNat rs))) s else .bad
      | none => .bad
    | none => .bad
  | _ => .bad
noncomputable def b_ways : DS := (sSeq (sSet 2 (dLst true dNil))
  (sSeq (sFor (dSeq (dV 1)) (dgName 3)
   (sDrop (dMt gExtend (dV 2) (dCons (dApp (gFn 2 F_least_steps) (dCons (dV 3) (dCons (dV 0) dNil))) dNil))))
  (sRet (dApp (gFn 2 F_greatest_ways) (dCons (dV 0) (dCons (dV 2) dNil))))))
theorem least_eq {r : Rec} {n : Nat} {s : Sto} (h : r.fits n) : F_least_steps [r.va, .int n] s = .ok (.lst ((r.edges n).map edV)) s := by
  unfold F_least_steps
  simp only [recOf_va]
  rw [if_pos ⟨by omega, h⟩, Int.toNat_natCast]
theorem ways_loop {s : Sto} {n : Nat} {e1 : Option Va} {ck : Option (Nat × List Va)} (hck : ∀ s2, okk ck (s ++ s2)) : ∀ (rs : List Rec) (E : List Edge) (e3 : Option Va), (∀ r ∈ rs, r.fits n) → E.length + 2 * rs.length ≤ 100000 →
    ∃ f3, lp ck (fBody (dgName 3) (sDrop (dMt gExtend (dV 2) (dCons (dApp (gFn 2 F_least_steps) (dCons (dV 3) (dCons (dV 0) dNil))) dNil)))) (rs.map Rec.va) [some (.int n), e1, some (.ref s.length), e3] (s ++ [.lst (E.map edV)]) = .nx [some (.int n), e1, some (.ref s.length), f3] (s ++ [.lst ((E ++ edgesR n rs).map edV)])
  | [], E, e3, _, _ => ⟨e3, by rw [List.map_nil, lp, if_pos (hck _)]; unfold edgesR; rw [List.flatMap_nil, List.append_nil]⟩
  | r :: rs, E, e3, h, hl => by
    have hf := edges_few (n := n) r
    rw [List.length_cons] at hl
    obtain ⟨f3, ih⟩ := ways_loop (s := s) (e1 := e1) hck rs (E ++ r.edges n) (some r.va) (fun a ha => h a (List.mem_cons_of_mem _ ha)) (by rw [List.length_append]; omega)
    refine ⟨f3, ?_⟩
    rw [List.map_cons, lp, if_pos (hck _)]
    have hs : (s ++ [Ob.lst (E.map edV)])[s.length]? = some (.lst (E.map edV)) := List.getElem?_concat_length
    have hx : gExtend (.ref s.length) [.lst ((r.edges n).map edV)] (s ++ [Ob.lst (E.map edV)]) = .ok .non (s ++ [Ob.lst ((E ++ r.edges n).map edV)]) := by
      unfold gExtend
      have hq : leq ((E.map edV).length + ((r.edges n).map edV).length) 1000000 := by
        unfold leq
        rw [List.length_map, List.length_map]
        omega
      simp only [hs, seqL, hq, if_true]
      rw [List.set_append_right _ _ (Nat.le_refl _), Nat.sub_self, List.map_append]
      rfl
    have hi : isL (.ref s.length) (s ++ [Ob.lst (E.map edV)]) = true := by
      unfold isL seqL
      simp only [hs]
      rfl
    have hb : fBody (dgName 3) (sDrop (dMt gExtend (dV 2) (dCons (dApp (gFn 2 F_least_steps) (dCons (dV 3) (dCons (dV 0) dNil))) dNil))) r.va [some (.int n), e1, some (.ref s.length), e3] (s ++ [Ob.lst (E.map edV)]) = .nx [some (.int n), e1, some (.ref s.length), some r.va] (s ++ [Ob.lst ((E ++ r.edges n).map edV)]) := by
      rw [e_fBody, e_dgName]
      simp only [List.set, e_drop, e_Mt, e_V, List.getElem?_cons_zero, List.getElem?_cons_succ, bind_ok, hi, if_true, e_Cons, e_App, e_Nil, gFn, List.length_cons, List.length_nil, least_eq (h r List.mem_cons_self), hx, fl_ok]
    rw [hb]
    have e : edgesR n (r :: rs) = r.edges n ++ edgesR n rs := rfl
    rw [e, ← List.append_assoc]
    exact ih
theorem ways_run {s : Sto} {n : Nat} {rs : List Rec} {x : Va} (wf : WFn s.length s) (hF : Fits n rs) (hx : seqL x s = some (rs.map Rec.va)) : ∃ o, b_ways [some (.int n), some x, none, none] s = .ret (tbV n (fw n (edgesR n rs))) (s ++ [o]) := by
  obtain ⟨h1, h2, h3⟩ := hF
  obtain ⟨ck, hck⟩ := seq_push hx
  obtain ⟨f3, L⟩ := ways_loop (s := s) (n := n) (e1 := some x) (ck := ck) (fun s2 => (hck s2).1) rs [] none h3 (by rw [List.length_nil]; omega)
  have S := (hck [.lst []]).2 (dV 1) [some (.int n), some x, some (.ref s.length), none] rfl
  rw [List.nil_append] at L
  rw [List.map_nil] at L
  have hs : seqL (.ref s.length) (s ++ [Ob.lst ((edgesR n rs).map edV)]) = some ((edgesR n rs).map edV) := by
    unfold seqL
    simp only [List.getElem?_concat_length]
  have hg := gw_eq (s := s ++ [Ob.lst ((edgesR n rs).map edV)]) (n := n) (E := edgesR n rs) (x := .ref s.length) (wf_push wf vasB_eds) h1 (edgesR_in h3) hs
  refine ⟨.lst ((edgesR n rs).map edV), ?_⟩
  unfold b_ways
  simp only [e_seq, e_set, e_Lst, e_Nil, bind_ok, g_mkL_t, fl_ok, List.set, e_for, S, L, e_ret, e_App, e_Cons, e_V, List.getElem?_cons_zero, List.getElem?_cons_succ, gFn, List.length_cons, List.length_nil, if_true, hg]
  rfl
theorem vasB_rowsT {k n : Nat} {T : Tb} : vaB k (tbV n T) := vasB_rows vasB_tb
theorem fin_ways (args : List Va) (s : Sto) (wf : WFn s.length s) (wa : vasB s.length args) (hl : args.length = 2) : Fin s.length (b_ways (startA 4 args) s) (F_ways args s) := by
  unfold F_ways
  split
  · split
    · split
      · split
        · rename_i n x _ xs e1 _ rs e2 hc
          obtain ⟨h0, hF⟩ := hc
          rw [recsOf_eq e2] at e1
          obtain ⟨N, rfl⟩ := Int.eq_ofNat_of_zero_le h0
          rw [Int.toNat_natCast] at hF ⊢
          obtain ⟨o, h⟩ := ways_run wf hF e1
          exact Fin.cut h (List.take_left' rfl) vasB_rowsT wf
        · exact .bad
      · exact .bad
    · exact .bad
  · exact .bad
/-! is_round, do_hold -/
theorem tbV_at {n i : Nat} {T : Tb} {s : Sto} (h : i ≤ n) : gIx (tbV n T) (.int i) s = .ok (.lst (rowV n T i)) s := by
  unfold tbV
  rw [g_ix_lst, atI_in .non (by omega) (by rw [List.length_map, tbR_len]; omega)]
  dsimp only
  unfold tbR
  rw [Int.toNat_natCast, List.map_map, getD_map (Va.lst ∘ rowV n T) _ i 0 .non (by rw [List.length_range]; omega), List.getD_eq_getElem?_getD, List.getElem?_range (by omega)]
  rfl
theorem rowV_at {n i j : Nat} {T : Tb} {s : Sto} (h : j ≤ n) : gIx (.lst (rowV n T i)) (.int j) s = .ok (oV (T i j)) s := by
  rw [g_ix_lst, atI_in .non (by omega) (by rw [rowV_len]; omega)]
  dsimp only
  unfold rowV
  rw [Int.toNat_natCast, getD_map (fun j => oV (T i j)) _ j 0 .non (by rw [List.length_range]; omega), List.getD_eq_getElem?_getD, List.getElem?_range (by omega)]
  rfl
def roundB (n : Nat) (T : Tb) : Bool := (List.range (n + 1)).any fun i => match T i i with | some v => decide (0 < v) | none => false
theorem round_calm {n : Nat} {T : Tb} : roundB n T = false ↔ Calm n T := by
  unfold roundB Calm
  rw [List.any_eq_false]
  constructor
  · intro h i v hi e
    have := h i (List.mem_range.mpr (by omega))
    rw [e] at this
    have : ¬ 0 < v := fun q => this (decide_eq_true q)
    omega
  · intro h i hi q
    have hi := List.mem_range.mp hi
    split at q
    · rename_i v e
      have := h i v (by omega) e
      have := of_decide_eq_true q
      omega
    · cases q
noncomputable def b_is_round : DS := (sRet (dApp gAny (dCons (dLc false (dRg1 (dCons (dApp gLen (dCons (dV 0) dNil)) dNil)) (dgName 1) dYes (dBin gGt (dBin gIx (dBin gIx (dV 0) (dV 1)) (dV 1)) (dC (.int 0))) [1]) dNil)))
def rbV : Va → Bool
  | .lst rows => (List.range rows.length).any fun i => match rows.getD i .non with
    | .lst ys => match ys.getD i .non with
      | .int v => decide (0 < v)
      | _ => false
    | _ => false
  | _ => false
def DiagV (x : Va) : Prop := ∃ n T, x = tbV n T ∧ (∀ i, i ≤ n → ∃ v, T i i = some v) ∧ n ≤ 1000
noncomputable instance (x : Va) : Decidable (DiagV x) := Classical.propDecidable _
theorem any_congr {l : List Nat} {p q : Nat → Bool} (h : ∀ i ∈ l, p i = q i) : l.any p = l.any q := by
  induction l with
  | nil => rfl
  | cons a l ih => rw [List.any_cons, List.any_cons, h a List.mem_cons_self, ih fun i hi => h i (List.mem_cons_of_mem _ hi)]
theorem rbV_tb {n : Nat} {T : Tb} : rbV (tbV n T) = roundB n T := by
  unfold tbV rbV roundB
  dsimp only
  rw [List.length_map, tbR_len]
  refine any_congr fun i hi => ?_
  have hi := List.mem_range.mp hi
  have e1 : ((tbR n T).map Va.lst).getD i .non = .lst (rowV n T i) := by
    unfold tbR
    rw [List.map_map, getD_map (Va.lst ∘ rowV n T) _ i 0 .non (by rw [List.length_range]; omega), List.getD_eq_getElem?_getD, List.getElem?_range (by omega)]
    rfl
  have e2 : (rowV n T i).getD i .non = oV (T i i) := by
    unfold rowV
    rw [getD_map (fun j => oV (T i j)) _ i 0 .non (by rw [List.length_range]; omega), List.getD_eq_getElem?_getD, List.getElem?_range (by omega)]
    rfl
  rw [e1]
  dsimp only
  rw [e2]
  cases T i i <;> rfl
noncomputable def F_is_round (args : List Va) (s : Sto) : Rs Va := match args with
  | [x] => if DiagV x then .ok (.bl (rbV x)) s else .bad
  | _ => .bad
theorem is_round_run {n : Nat} {T : Tb} {s : Sto} (hn : n ≤ 1000) (hd : ∀ i, i ≤ n → ∃ v, T i i = some v) : b_is_round [some (tbV n T), none] s = .ret (.bl (roundB n T)) s := by
  have hl : gLen [tbV n T] s = .ok (.int ((n : Int) + 1)) s := by
    unfold tbV
    rw [g_len_lst, List.length_map, tbR_len]
    rfl
  have hr : inR ((n : Int) + 1) := ⟨by omega, by omega⟩
  have hq : leq (rgA 0 ((n : Int) + 1)).length 100000 := by unfold leq; rw [rgA_len]; omega
  have L : cl none (dgName 1) dYes (dBin gGt (dBin gIx (dBin gIx (dV 0) (dV 1)) (dV 1)) (dC (.int 0))) (wip [some (tbV n T), none] [1]) (rgA 0 ((n : Int) + 1)) [] s = .ok ([] ++ (List.range (n + 1)).map fun i => Va.bl (match T i i with | some v => decide (0 < v) | none => false)) s := by
    rw [rgA_nat]
    refine cl_all (fun i : Nat => Va.int i) _ _ [] fun i hi => ?_
    have hi := List.mem_range.mp hi
    obtain ⟨v, hv⟩ := hd i (by omega)
    have e2 : oV (some v) = .int v := rfl
    simp [wip, tbV_at (s := s) (T := T) (show i ≤ n by omega), rowV_at (s := s) (T := T) (i := i) (show i ≤ n by omega), hv, e2]
  unfold b_is_round
  rw [e_ret, e_App, e_Cons, e_Lc, e_rg1, e_Cons, e_App, e_Cons, e_V]
  simp only [List.getElem?_cons_zero, bind_ok, e_Nil, hl, hr, if_true, hq, L, g_mkL_f, List.nil_append, gAny, seqL]
  rw [show ((List.range (n + 1)).map fun i => Va.bl (match T i i with | some v => decide (0 < v) | none => false)) = ((List.range (n + 1)).map fun i => match T i i with | some v => decide (0 < v) | none => false).map .bl from by rw [List.map_map]; rfl, blsOf_map]
  simp only [fl_ok, List.any_map]
  rfl
theorem fin_is_round (args : List Va) (s : Sto) (wf : WFn s.length s) (wa : vasB s.length args) (hl : args.length = 1) : Fin s.length (b_is_round (startA 2 args) s) (F_is_round args s) := by
  unfold F_is_round
  split
  · split
    · rename_i hc
      obtain ⟨n, T, rfl, h1, h2⟩ := hc
      rw [rbV_tb]
      exact Fin.ret1 (is_round_run h2 h1) trivial wf
    · exact .bad
  · exact .bad
noncomputable def holdB (n : Nat) (rs : List Rec) : Bool := !roundB n (fw n (edgesR n rs))
theorem holdB_iff {n : Nat} {rs : List Rec} (h : ∀ r ∈ rs, r.fits n) : holdB n rs = true ↔ Holds (edgesR n rs) := by
  rw [← Dm.calm_iff (edgesR_in h), ← round_calm]
  unfold holdB
  cases roundB n (fw n (edgesR n rs)) <;> simp
noncomputable def F_do_hold (args : List Va) (s : Sto) : Rs Va := match args with
  | [.int n, x] => match seqL x s with
    | some xs => match recsOf xs with
      | some rs => if 0 ≤ n ∧ Fits n.toNat rs then .ok (.bl (holdB n.toNat rs)) s else .bad
      | none => .bad
    | none => .bad
  | _ => .bad
noncomputable def b_do_hold : DS := (sRet (dNotV (dApp (gFn 1 F_is_round) (dCons (dApp (gFn 2 F_ways) (dCons (dV 0) (dCons (dV 1) dNil))) dNil))))
theorem ways_eq {n : Nat} {rs : List Rec} {x : Va} {s : Sto} (hF : Fits n rs) (hx : seqL x s = some (rs.map Rec.va)) : F_ways [.int n, x] s = .ok (tbV n (fw n (edgesR n rs))) s := by
  unfold F_ways
  simp only [hx, recsOf_map]
  rw [if_pos ⟨by omega, by rw [Int.toNat_natCast]; exact hF⟩, Int.toNat_natCast]
theorem hold_eq {n : Nat} {rs : List Rec} {x : Va} {s : Sto} (hF : Fits n rs) (hx : seqL x s = some (rs.map Rec.va)) : F_do_hold [.int n, x] s = .ok (.bl (holdB n rs)) s := by
  unfold F_do_hold
  simp only [hx, recsOf_map]
  rw [if_pos ⟨by omega, by rw [Int.toNat_natCast]; exact hF⟩, Int.toNat_natCast]
theorem do_hold_run {n : Nat} {rs : List Rec} {x : Va} {s : Sto} (hF : Fits n rs) (hx : seqL x s = some (rs.map Rec.va)) : b_do_hold [some (.int n), some x] s = .ret (.bl (holdB n rs)) s := by
  have hd : DiagV (tbV n (fw n (edgesR n rs))) := ⟨n, _, rfl, fun i hi => by
    obtain ⟨v, h1, _⟩ := Dm.fw_diag (n := n) (E := edgesR n rs) i hi
    exact ⟨v, h1⟩, hF.1⟩
  have hr : F_is_round [tbV n (fw n (edgesR n rs))] s = .ok (.bl (roundB n (fw n (edgesR n rs)))) s := by
    unfold F_is_round
    dsimp only
    rw [if_pos hd, rbV_tb]
  unfold b_do_hold holdB
  simp only [e_ret, e_NotV, e_App, e_Cons, e_V, List.getElem?_cons_zero, List.getElem?_cons_succ, bind_ok, e_Nil, gFn, List.length_cons, List.length_nil, if_true, ways_eq hF hx, hr]
  rfl
theorem fin_do_hold (args : List Va) (s : Sto) (wf : WFn s.length s) (wa : vasB s.length args) (hl : args.length = 2) : Fin s.length (b_do_hold (startA 2 args) s) (F_do_hold args s) := by
  unfold F_do_hold
  split
  · split
    · split
      · split
        · rename_i n x _ xs e1 _ rs e2 hc
          obtain ⟨h0, hF⟩ := hc
          rw [recsOf_eq e2] at e1
          obtain ⟨N, rfl⟩ := Int.eq_ofNat_of_zero_le h0
          rw [Int.toNat_natCast] at hF ⊢
          exact Fin.ret1 (do_hold_run hF e1) trivial wf
        · exact .bad
      · exact .bad
    · exact .bad
  · exact .bad
end Dn

set_option Elab.async false
set_option linter.all false
set_option maxRecDepth 100000
set_option maxHeartbeats 1000000
/-! Dn, part Au: a def's mirror is its body's run, what is handed back frozen, the store cut back. -/
namespace Dn
open PySem PySem.Spec PyProof.Rows L2
open Classical in
mutual
noncomputable def frzF (n : Nat) : Nat → Va → Sto → Option (Va × Sto)
  | 0, _, _ => none
  | d + 1, x, s => if vaB n x then some (x, s) else match x with
    | .ref i => match s[i]? with
      | some (.lst xs) => match frzFs n d xs s with
        | some (xs', s1) => if s1[i]? = some (.lst xs) then some (.lst xs', s1.set i .dead) else none
        | none => none
      | some (.dicK kvs) => some (.dicK kvs, s.set i .dead)
      | some (.dicT kvs) => some (.dicT kvs, s.set i .dead)
      | _ => none
    | .tup xs => match frzFs n d xs s with
      | some (xs', s1) => some (.tup xs', s1)
      | none => none
    | .lst xs => match frzFs n d xs s with
      | some (xs', s1) => some (.lst xs', s1)
      | none => none
    | _ => none
noncomputable def frzFs (n : Nat) : Nat → List Va → Sto → Option (List Va × Sto)
  | 0, _, _ => none
  | d + 1, xs, s => match xs with
    | [] => some ([], s)
    | x :: xs => match frzF n d x s with
      | some (x', s1) => match frzFs n d xs s1 with
        | some (xs', s2) => some (x' :: xs', s2)
        | none => none
      | none => none
end
mutual
theorem frzF_ok {n : Nat} : ∀ (d : Nat) (x : Va) (s : Sto) (x' : Va) (s' : Sto), frzF n d x s = some (x', s') → Frz x s x' s'
  | 0, _, _, _, _, h => by
    unfold frzF at h
    cases h
  | d + 1, x, s, x', s', h => by
    unfold frzF at h
    split at h
    · cases h
      exact .same _ _
    · split at h
      · split at h
        · rename_i xs e
          split at h
          · rename_i xs' s1 e1
            split at h
            · rename_i e2
              cases h
              exact .lst e (frzFs_ok d xs s xs' s1 e1) e2
            · cases h
          · cases h
        · rename_i kvs e
          cases h
          exact .dicK e
        · rename_i kvs e
          cases h
          exact .dicT e
        · cases h
      · rename_i xs _
        split at h
        · rename_i xs' s1 e1
          cases h
          exact .tup (frzFs_ok d xs s _ _ e1)
        · cases h
      · rename_i xs _
        split at h
        · rename_i xs' s1 e1
          cases h
          exact .lstI (frzFs_ok d xs s _ _ e1)
        · cases h
      · cases h
theorem frzFs_ok {n : Nat} : ∀ (d : Nat) (x : List Va) (s : Sto) (x' : List Va) (s' : Sto), frzFs n d x s = some (x', s') → Frzs x s x' s'
  | 0, _, _, _, _, h => by
    unfold frzFs at h
    cases h
  | d + 1, xs, s, x', s', h => by
    unfold frzFs at h
    cases xs with
    | nil =>
      cases h
      exact .nil _
    | cons x xs =>
      dsimp only at h
      cases e1 : frzF n d x s with
      | none =>
        rw [e1] at h
        cases h
      | some p =>
        obtain ⟨y, s1⟩ := p
        rw [e1] at h
        dsimp only at h
        cases e2 : frzFs n d xs s1 with
        | none =>
          rw [e2] at h
          cases h
        | some p2 =>
          obtain ⟨ys, s2⟩ := p2
          rw [e2] at h
          cases h
          exact .cons (frzF_ok d x s y s1 e1) (frzFs_ok d xs s1 _ _ e2)
end
open Classical in
noncomputable def autoF (n : Nat) : Fl → Rs Va
  | .ret v s0 => match frzF n 100000 v s0 with
    | some (v', s1) => if vaB n v' ∧ WFn n (s1.take n) then .ok v' (s1.take n) else .bad
    | none => .bad
  | .nx _ s0 => if WFn n (s0.take n) then .ok .non (s0.take n) else .bad
  | .exc c _ s0 => if WFn n (s0.take n) then .exc c (s0.take n) else .bad
  | _ => .bad
/-! .. of a def that hands back a new list that is to change -/
open Classical in
noncomputable def autoB (n : Nat) : Fl → Rs Va
  | .ret v s0 => match v with
    | .ref i => match s0[i]? with
      | some o => if n ≤ i ∧ obB n o ∧ WFn n (s0.take n) then .ok (.ref n) (s0.take n ++ [o]) else .bad
      | none => .bad
    | _ => .bad
  | .exc c _ s0 => if WFn n (s0.take n) then .exc c (s0.take n) else .bad
  | _ => .bad
/-! .. of a def behind which the store stays as it is -/
open Classical in
noncomputable def autoK (n : Nat) : Fl → Rs Va
  | .ret v s0 => .ok v s0
  | .nx _ s0 => .ok .non s0
  | .exc c _ s0 => if WFn n (s0.take n) then .exc c (s0.take n) else .bad
  | _ => .bad
theorem fin_autoF {n : Nat} : ∀ raw : Fl, Fin n raw (autoF n raw)
  | .ret v s0 => by
    unfold autoF
    dsimp only
    split
    · rename_i v' s1 e
      split
      · rename_i h
        exact .ok (.inl rfl) (frzF_ok _ _ _ _ _ e) h.1 h.2
      · exact .bad
    · exact .bad
  | .nx ε s0 => by
    unfold autoF
    dsimp only
    split
    · rename_i h
      exact .ok (.inr ⟨ε, rfl, rfl⟩) (.same _ _) trivial h
    · exact .bad
  | .exc c ε s0 => by
    unfold autoF
    dsimp only
    split
    · rename_i h
      exact .exc rfl h
    · exact .bad
  | .brk _ _ => .bad
  | .ct _ _ => .bad
  | .bad => .bad
theorem fin_autoB {n : Nat} : ∀ raw : Fl, Fin n raw (autoB n raw)
  | .ret v s0 => by
    unfold autoB
    dsimp only
    split
    · split
      · split
        · rename_i i _ o e h
          exact .box rfl (.same _ _) h.1 e h.2.1 h.2.2
        · exact .bad
      · exact .bad
    · exact .bad
  | .exc c ε s0 => by
    unfold autoB
    dsimp only
    split
    · rename_i h
      exact .exc rfl h
    · exact .bad
  | .nx _ _ => .bad
  | .brk _ _ => .bad
  | .ct _ _ => .bad
  | .bad => .bad
theorem fin_autoK {n : Nat} : ∀ raw : Fl, Fin n raw (autoK n raw)
  | .ret v s0 => .keep (.inl rfl)
  | .nx ε s0 => .keep (.inr ⟨ε, rfl, rfl⟩)
  | .exc c ε s0 => by
    unfold autoK
    dsimp only
    split
    · rename_i h
      exact .exc rfl h
    · exact .bad
  | .brk _ _ => .bad
  | .ct _ _ => .bad
  | .bad => .bad
noncomputable def aut (nb : Nat) (b : DS) (args : List Va) (s : Sto) : Rs Va := autoF s.length (b (startA nb args) s)
noncomputable def autB (nb : Nat) (b : DS) (args : List Va) (s : Sto) : Rs Va := autoB s.length (b (startA nb args) s)
noncomputable def autK (nb : Nat) (b : DS) (args : List Va) (s : Sto) : Rs Va := autoK s.length (b (startA nb args) s)
theorem frzF_same {n d : Nat} {x : Va} {s : Sto} (h : vaB n x) : frzF n (d + 1) x s = some (x, s) := by
  unfold frzF
  exact if_pos h
theorem frzFs_same {n : Nat} {s : Sto} : ∀ (xs : List Va) (d : Nat), vasB n xs → xs.length + 1 ≤ d → frzFs n (d + 1) xs s = some (xs, s)
  | [], d, _, _ => by
    unfold frzFs
    rfl
  | x :: xs, 0, h, hl => by
    rw [List.length_cons] at hl
    omega
  | x :: xs, d + 1, h, hl => by
    rw [List.length_cons] at hl
    unfold frzFs
    dsimp only
    rw [frzF_same h.1]
    dsimp only
    rw [frzFs_same xs d h.2 (by omega)]
theorem frzF_lst {n d i : Nat} {xs : List Va} {s : Sto} (h : s[i]? = some (.lst xs)) (hi : n ≤ i) (hx : vasB n xs) (hl : xs.length + 1 ≤ d) : frzF n (d + 2) (.ref i) s = some (.lst xs, s.set i .dead) := by
  have e := frzFs_same (s := s) xs d hx hl
  unfold frzF
  rw [if_neg (show ¬ vaB n (.ref i) from Nat.not_lt.mpr hi)]
  dsimp only
  rw [h]
  dsimp only
  rw [e]
  dsimp only
  rw [if_pos h]
/-! how a mirror is reckoned -/
section
variable {nb : Nat} {b : DS} {args : List Va} {s s0 s1 : Sto} {v : Va} {ε : En} {c : Str} {xs : List Va}
theorem aut_ret (h : b (startA nb args) s = .ret v s0) (e : s0.take s.length = s1) (hv : vaB s.length v) (hw : WFn s.length s1) : aut nb b args s = .ok v s1 := by
  unfold aut
  rw [h]
  unfold autoF
  dsimp only
  rw [show frzF s.length 100000 v s0 = some (v, s0) from frzF_same (d := 99999) hv]
  dsimp only
  rw [if_pos ⟨hv, by rw [e]; exact hw⟩, e]
/-- the same store behind it -/
theorem aut_ret0 (h : b (startA nb args) s = .ret v s) (hv : vaB s.length v) (hw : WFn s.length s) : aut nb b args s = .ok v s := aut_ret h List.take_length hv hw
theorem aut_nx (h : b (startA nb args) s = .nx ε s0) (e : s0.take s.length = s1) (hw : WFn s.length s1) : aut nb b args s = .ok .non s1 := by
  unfold aut
  rw [h]
  unfold autoF
  dsimp only
  rw [if_pos (by rw [e]; exact hw), e]
theorem aut_exc (h : b (startA nb args) s = .exc c ε s0) (e : s0.take s.length = s1) (hw : WFn s.length s1) : aut nb b args s = .exc c s1 := by
  unfold aut
  rw [h]
  unfold autoF
  dsimp only
  rw [if_pos (by rw [e]; exact hw), e]
theorem aut_lst {i : Nat} (h : b (startA nb args) s = .ret (.ref i) s0) (ho : s0[i]? = some (.lst xs)) (hi : s.length ≤ i) (e : s0.take s.length = s1) (hx : vasB s.length xs) (hl : xs.length ≤ 90000) (hw : WFn s.length s1) : aut nb b args s = .ok (.lst xs) s1 := by
  unfold aut
  rw [h]
  unfold autoF
  dsimp only
  rw [show frzF s.length 100000 (.ref i) s0 = some (.lst xs, s0.set i .dead) from frzF_lst (d := 99998) ho hi hx (by omega)]
  dsimp only
  rw [take_set hi, e, if_pos ⟨hx, hw⟩]
/-- a new list behind the store -/
theorem aut_new {s2 : Sto} (h : b (startA nb args) s = .ret (.ref s.length) (s1 ++ .lst xs :: s2)) (hl1 : s1.length = s.length) (hx : vasB s.length xs) (hl : xs.length ≤ 90000) (hw : WFn s.length s1) : aut nb b args s = .ok (.lst xs) s1 :=
  aut_lst h (by rw [← hl1, List.getElem?_append_right (Nat.le_refl _), Nat.sub_self]; rfl) (Nat.le_refl _) (by rw [← hl1, List.take_left]) hx hl hw
theorem autB_box {i : Nat} {o : Ob} (h : b (startA nb args) s = .ret (.ref i) s0) (ho : s0[i]? = some o) (hi : s.length ≤ i) (e : s0.take s.length = s1) (hx : obB s.length o) (hw : WFn s.length s1) : autB nb b args s = .ok (.ref s.length) (s1 ++ [o]) := by
  unfold autB
  rw [h]
  unfold autoB
  dsimp only
  rw [ho]
  dsimp only
  rw [if_pos ⟨hi, hx, by rw [e]; exact hw⟩, e]
theorem autB_new {o : Ob} {s2 : Sto} (h : b (startA nb args) s = .ret (.ref s.length) (s1 ++ o :: s2)) (hl1 : s1.length = s.length) (hx : obB s.length o) (hw : WFn s.length s1) : autB nb b args s = .ok (.ref s.length) (s1 ++ [o]) :=
  autB_box h (by rw [← hl1, List.getElem?_append_right (Nat.le_refl _), Nat.sub_self]; rfl) (Nat.le_refl _) (by rw [← hl1, List.take_left]) hx hw
end
end Dn

set_option Elab.async false
set_option linter.all false
set_option maxRecDepth 100000
set_option maxHeartbeats 4000000
/-! Dn, part W: the law's steps, ways step by step, holds. -/
namespace Dn
open PySem PySem.Spec PyProof.Rows L2
open Dm (Edge Tb fw InN Calm Holds Fd bfE bfRound far ltO setF)
noncomputable def F_l_steps (args : List Va) (s : Sto) : Rs Va := match args with
  | [.int n, x] => match seqL x s with
    | some xs => match recsOf xs with
      | some rs => if 0 ≤ n ∧ Fits n.toNat rs then .ok (.lst ((edgesR n.toNat rs).map edV)) s else .bad
      | none => .bad
    | none => .bad
  | _ => .bad
noncomputable def lsBody : DS := (sSeq (sSet 4 (dBin gIx (dV 3) (dC (.int 0))))
  (sIf (dTB (dBin (gEq false) (dV 4) (dC (.str "before")))) (sDrop (dMt gAppend (dV 2) (dCons (dTup (dCons (dBin gIx (dV 3) (dC (.int 1))) (dCons (dBin gIx (dV 3) (dC (.int 2))) (dCons (dBin gIx (dV 3) (dC (.int 3))) dNil)))) dNil))) (sIf (dTB (dBin (gEq false) (dV 4) (dC (.str "same")))) (sDrop (dMt gExtend (dV 2) (dCons (dLst false (dCons (dTup (dCons (dBin gIx (dV 3) (dC (.int 1))) (dCons (dBin gIx (dV 3) (dC (.int 2))) (dCons (dC (.int 0)) dNil)))) (dCons (dTup (dCons (dBin gIx (dV 3) (dC (.int 2))) (dCons (dBin gIx (dV 3) (dC (.int 1))) (dCons (dC (.int 0)) dNil)))) dNil))) dNil))) (sIf (dTB (dBin (gEq false) (dV 4) (dC (.str "within")))) (sDrop (dMt gAppend (dV 2) (dCons (dTup (dCons (dBin gIx (dV 3) (dC (.int 2))) (dCons (dBin gIx (dV 3) (dC (.int 1))) (dCons (dUn gNeg (dBin gIx (dV 3) (dC (.int 3)))) dNil)))) dNil))) (sIf (dTB (dBin (gEq false) (dV 4) (dC (.str "since")))) (sDrop (dMt gAppend (dV 2) (dCons (dTup (dCons (dV 0) (dCons (dBin gIx (dV 3) (dC (.int 1))) (dCons (dBin gIx (dV 3) (dC (.int 2))) dNil)))) dNil))) (sIf (dTB (dBin (gEq false) (dV 4) (dC (.str "until")))) (sDrop (dMt gAppend (dV 2) (dCons (dTup (dCons (dBin gIx (dV 3) (dC (.int 1))) (dCons (dV 0) (dCons (dUn gNeg (dBin gIx (dV 3) (dC (.int 2)))) dNil)))) dNil))) sNext))))))
noncomputable def b_l_steps : DS := (sSeq (sSet 2 (dLst true dNil))
  (sSeq (sFor (dSeq (dV 1)) (dgName 3)
   lsBody)
  (sRet (dV 2))))
theorem push_app {s : Sto} {E : List Va} {F : List Va} (h : E.length ≤ 200000) (h2 : F.length ≤ 10) : gExtend (.ref s.length) [.lst F] (s ++ [.lst E]) = .ok .non (s ++ [.lst (E ++ F)]) := by
  unfold gExtend
  have hq : leq (E.length + F.length) 1000000 := by unfold leq; omega
  have hs : (s ++ [Ob.lst E])[s.length]? = some (.lst E) := List.getElem?_concat_length
  simp only [hs, seqL, hq, if_true]
  rw [List.set_append_right _ _ (Nat.le_refl _), Nat.sub_self]
  rfl
theorem push_one {s : Sto} {E : List Va} {x : Va} (h : E.length ≤ 200000) : gAppend (.ref s.length) [x] (s ++ [.lst E]) = .ok .non (s ++ [.lst (E ++ [x])]) := by
  unfold gAppend
  have hq : leq E.length 1000000 := by unfold leq; omega
  have hs : (s ++ [Ob.lst E])[s.length]? = some (.lst E) := List.getElem?_concat_length
  simp only [hs, hq, if_true]
  rw [List.set_append_right _ _ (Nat.le_refl _), Nat.sub_self]
  rfl
theorem isL_top {s : Sto} {E : List Va} : isL (.ref s.length) (s ++ [.lst E]) = true := by
  unfold isL seqL
  have hs : (s ++ [Ob.lst E])[s.length]? = some (.lst E) := List.getElem?_concat_length
  simp only [hs]
  rfl
theorem l_step_run {s : Sto} {n : Nat} {E : List Va} {r : Rec} {e1 e4 : Option Va} (hf : r.fits n) (hE : E.length ≤ 200000) : ∃ f4, lsBody [some (.int n), e1, some (.ref s.length), some r.va, e4] (s ++ [.lst E]) = .nx [some (.int n), e1, some (.ref s.length), some r.va, f4] (s ++ [.lst (E ++ (r.edges n).map edV)]) := by
  have p1 := fun x => push_one (s := s) (x := x) hE
  have p2 := fun (F : List Va) (h : F.length ≤ 10) => push_app (s := s) (F := F) hE h
  have hi := isL_top (s := s) (E := E)
  unfold lsBody
  cases r with
  | before a b g =>
    obtain ⟨h1, h2⟩ := hf
    refine ⟨some (.str "before"), ?_⟩
    simp [Rec.va, atI_0, atI_1, atI_2, atI_3, Rec.edges, edV, toNat_of h1, toNat_of h2, -Int.ofNat_toNat, hi, p1]
  | same a b =>
    obtain ⟨h1, h2⟩ := hf
    refine ⟨some (.str "same"), ?_⟩
    simp [Rec.va, atI_0, atI_1, atI_2, Rec.edges, edV, toNat_of h1, toNat_of h2, -Int.ofNat_toNat, hi, p2]
  | within a b g =>
    obtain ⟨h1, h2⟩ := hf
    refine ⟨some (.str "within"), ?_⟩
    simp [Rec.va, atI_0, atI_1, atI_2, atI_3, Rec.edges, edV, toNat_of h1, toNat_of h2, -Int.ofNat_toNat, hi, p1]
  | since a y w =>
    refine ⟨some (.str "since"), ?_⟩
    simp [Rec.va, atI_0, atI_1, atI_2, Rec.edges, edV, toNat_of hf, -Int.ofNat_toNat, hi, p1]
  | upto a y w =>
    refine ⟨some (.str "until"), ?_⟩
    simp [Rec.va, atI_0, atI_1, atI_2, Rec.edges, edV, toNat_of hf, -Int.ofNat_toNat, hi, p1]
  | kind a k =>
    refine ⟨some (.str "kind"), ?_⟩
    simp [Rec.va, atI_0, Rec.edges]
theorem l_steps_loop {s : Sto} {n : Nat} {e1 : Option Va} {ck : Option (Nat × List Va)} (hck : ∀ s2, okk ck (s ++ s2)) : ∀ (rs : List Rec) (E : List Edge) (e3 e4 : Option Va), (∀ r ∈ rs, r.fits n) → E.length + 2 * rs.length ≤ 100000 →
    ∃ f3 f4, lp ck (fBody (dgName 3) lsBody) (rs.map Rec.va) [some (.int n), e1, some (.ref s.length), e3, e4] (s ++ [.lst (E.map edV)]) = .nx [some (.int n), e1, some (.ref s.length), f3, f4] (s ++ [.lst ((E ++ edgesR n rs).map edV)])
  | [], E, e3, e4, _, _ => ⟨e3, e4, by rw [List.map_nil, lp, if_pos (hck _)]; unfold edgesR; rw [List.flatMap_nil, List.append_nil]⟩
  | r :: rs, E, e3, e4, h, hl => by
    have hf := edges_few (n := n) r
    rw [List.length_cons] at hl
    obtain ⟨g4, hb⟩ := l_step_run (s := s) (n := n) (E := E.map edV) (r := r) (e1 := e1) (e4 := e4) (h r List.mem_cons_self) (by rw [List.length_map]; omega)
    obtain ⟨f3, f4, ih⟩ := l_steps_loop (s := s) (e1 := e1) hck rs (E ++ r.edges n) (some r.va) g4 (fun a ha => h a (List.mem_cons_of_mem _ ha)) (by rw [List.length_append]; omega)
    refine ⟨f3, f4, ?_⟩
    rw [List.map_cons, lp, if_pos (hck _)]
    have hb2 : fBody (dgName 3) lsBody r.va [some (.int n), e1, some (.ref s.length), e3, e4] (s ++ [.lst (E.map edV)]) = _ := hb
    rw [hb2]
    have e : edgesR n (r :: rs) = r.edges n ++ edgesR n rs := rfl
    rw [e, ← List.append_assoc]
    rw [List.map_append] at ih
    exact ih
theorem l_steps_run {s : Sto} {n : Nat} {rs : List Rec} {x : Va} (hF : Fits n rs) (hx : seqL x s = some (rs.map Rec.va)) : b_l_steps [some (.int n), some x, none, none, none] s = .ret (.ref s.length) (s ++ [.lst ((edgesR n rs).map edV)]) := by
  obtain ⟨h1, h2, h3⟩ := hF
  obtain ⟨ck, hck⟩ := seq_push hx
  obtain ⟨f3, f4, L⟩ := l_steps_loop (s := s) (n := n) (e1 := some x) (ck := ck) (fun s2 => (hck s2).1) rs [] none none h3 (by rw [List.length_nil]; omega)
  have S := (hck [.lst []]).2 (dV 1) [some (.int n), some x, some (.ref s.length), none, none] rfl
  rw [List.nil_append] at L
  rw [List.map_nil] at L
  unfold b_l_steps
  simp only [e_seq, e_set, e_Lst, e_Nil, bind_ok, g_mkL_t, fl_ok, List.set, e_for, S, L, e_ret, e_V, List.getElem?_cons_zero, List.getElem?_cons_succ]
theorem fin_l_steps (args : List Va) (s : Sto) (wf : WFn s.length s) (wa : vasB s.length args) (hl : args.length = 2) : Fin s.length (b_l_steps (startA 5 args) s) (F_l_steps args s) := by
  unfold F_l_steps
  split
  · split
    · split
      · split
        · rename_i n x _ xs e1 _ rs e2 hc
          obtain ⟨h0, hF⟩ := hc
          rw [recsOf_eq e2] at e1
          obtain ⟨N, rfl⟩ := Int.eq_ofNat_of_zero_le h0
          rw [Int.toNat_natCast] at hF ⊢
          exact Fin.frzS (l_steps_run hF e1) rfl vasB_eds wf
        · exact .bad
      · exact .bad
    · exact .bad
  · exact .bad
/-! step by step -/
def edOf : Va → Option Edge
  | .tup [.int a, .int b, .int g] => if 0 ≤ a ∧ 0 ≤ b then some (a.toNat, b.toNat, g) else none
  | _ => none
theorem edOf_ed (e : Edge) : edOf (edV e) = some e := by
  obtain ⟨a, b, g⟩ := e
  show (if (0 : Int) ≤ (a : Nat) ∧ (0 : Int) ≤ (b : Nat) then some (((a : Nat) : Int).toNat, ((b : Nat) : Int).toNat, g) else none) = _
  rw [if_pos ⟨by omega, by omega⟩, Int.toNat_natCast, Int.toNat_natCast]
theorem edOf_eq {x : Va} {e : Edge} (h : edOf x = some e) : x = edV e := by
  unfold edOf at h
  split at h
  · split at h
    · rename_i hc
      cases h
      unfold edV
      rw [show ((Int.toNat _ : Nat) : Int) = _ from Int.toNat_of_nonneg hc.1, show ((Int.toNat _ : Nat) : Int) = _ from Int.toNat_of_nonneg hc.2]
    · cases h
  · cases h
def edsOf : List Va → Option (List Edge)
  | [] => some []
  | x :: xs => match edOf x, edsOf xs with
    | some e, some es => some (e :: es)
    | _, _ => none
theorem edsOf_map : ∀ E : List Edge, edsOf (E.map edV) = some E
  | [] => rfl
  | e :: E => by rw [List.map_cons, edsOf, edOf_ed, edsOf_map E]
theorem edsOf_eq : ∀ {xs : List Va} {E : List Edge}, edsOf xs = some E → xs = E.map edV
  | [], E, h => by
    cases h
    rfl
  | x :: xs, E, h => by
    unfold edsOf at h
    split at h
    · rename_i e es e1 e2
      cases h
      rw [List.map_cons, edOf_eq e1, edsOf_eq e2]
    · cases h
def rowD (n : Nat) (D : Fd) : List Va := (List.range (n + 1)).map fun i => oV (D i)
theorem rowD_len {n : Nat} {D : Fd} : (rowD n D).length = n + 1 := by
  unfold rowD
  rw [List.length_map, List.length_range]
theorem dget {s : Sto} {n i : Nat} {D : Fd} (h : i ≤ n) : gIx (.ref s.length) (.int i) (s ++ [.lst (rowD n D)]) = .ok (oV (D i)) (s ++ [.lst (rowD n D)]) := by
  rw [g_ix_ref (List.getElem?_concat_length), atI_in .non (by omega) (by rw [rowD_len]; omega)]
  dsimp only
  unfold rowD
  rw [Int.toNat_natCast, getD_map (fun i => oV (D i)) _ i 0 .non (by rw [List.length_range]; omega), List.getD_eq_getElem?_getD, List.getElem?_range (by omega)]
  rfl
theorem dset {s : Sto} {n i : Nat} {D : Fd} {v : Int} (h : i ≤ n) : gSetIx (.int v) (.ref s.length) (.int i) (s ++ [.lst (rowD n D)]) = some (s ++ [.lst (rowD n (setF D i v))]) := by
  rw [g_set_ref (List.getElem?_concat_length) (ixNin (by omega) (by rw [rowD_len]; omega)), Int.toNat_natCast, List.set_append_right _ _ (Nat.le_refl _), Nat.sub_self]
  show some (s ++ [Ob.lst ((rowD n D).set i (.int v))]) = _
  congr 4
  apply List.ext_getElem?
  intro m
  unfold rowD
  by_cases h4 : m = i
  · subst h4
    rw [List.getElem?_set_self (by rw [List.length_map, List.length_range]; omega), List.getElem?_map, List.getElem?_range (by omega)]
    show _ = some (oV (setF D m v m))
    rw [Dm.set_at]
    rfl
  · rw [List.getElem?_set_ne (Ne.symm h4), List.getElem?_map, List.getElem?_map]
    by_cases h5 : m < n + 1
    · rw [List.getElem?_range h5]
      show some (oV (D m)) = some (oV (setF D i v m))
      rw [Dm.set_ne h4]
    · rw [List.getElem?_eq_none (by rw [List.length_range]; omega)]
      rfl
noncomputable def farStep : DS := (sIf (dAnd (dTB (dBin (gIs true) (dBin gIx (dV 3) (dV 7)) (dC .non))) (dOr (dTB (dBin (gIs false) (dBin gIx (dV 3) (dV 8)) (dC .non))) (dTB (dBin gLt (dBin gIx (dV 3) (dV 8)) (dBin (gAdd false) (dBin gIx (dV 3) (dV 7)) (dV 9)))))) (sSeq (sSetIx (dV 3) (dV 8) (dBin (gAdd false) (dBin gIx (dV 3) (dV 7)) (dV 9)))
  (sSet 6 (dC (.bl true)))) sNext)
noncomputable def farTurn : DS := (sSeq (sSet 6 (dC (.bl false)))
  (sSeq (sFor (dSeq (dV 1)) (dgTup [7, 8, 9])
   farStep)
  (sIf (dNot (dTr (dV 6))) (sRet (dV 3)) sNext)))
noncomputable def b_l_far : DS := (sSeq (sSet 3 (dLc true (dRg1 (dCons (dBin (gAdd false) (dV 0) (dC (.int 1))) dNil)) (dgName 4) dYes (dBin gIx (dLst false (dCons (dC .non) (dCons (dC (.int 0)) dNil))) (dApp gInt (dCons (dBin (gIn false) (dV 4) (dV 2)) dNil))) [4]))
  (sSeq (sFor (dRg1 (dCons (dBin (gAdd false) (dV 0) (dC (.int 2))) dNil)) (dgName 5)
   farTurn)
  (sRet (dC .non))))
theorem far_step {s : Sto} {n : Nat} {S : Fd × Bool} {e : Edge} {e0 e1 e2 e4 e5 : Option Va} (h1 : e.1 ≤ n) (h2 : e.2.1 ≤ n) :
    farStep [e0, e1, e2, some (.ref s.length), e4, e5, some (.bl S.2), some (.int e.1), some (.int e.2.1), some (.int e.2.2)] (s ++ [.lst (rowD n S.1)]) = .nx [e0, e1, e2, some (.ref s.length), e4, e5, some (.bl (bfE S e).2), some (.int e.1), some (.int e.2.1), some (.int e.2.2)] (s ++ [.lst (rowD n (bfE S e).1)]) := by
  have g1 := dget (s := s) (D := S.1) h1
  have g2 := dget (s := s) (D := S.1) h2
  unfold farStep bfE
  cases p : S.1 e.1 with
  | none =>
    rw [p] at g1
    have z : oV none = .non := rfl
    rw [z] at g1
    simp [g1, gIs]
  | some v =>
    rw [p] at g1
    have z : oV (some v) = .int v := rfl
    rw [z] at g1
    have g3 := dset (s := s) (D := S.1) (v := v + e.2.2) h2
    cases q : S.1 e.2.1 with
    | none =>
      rw [q] at g2
      have z : oV none = .non := rfl
      rw [z] at g2
      simp [g1, g2, g3, gIs, ltO]
    | some u =>
      rw [q] at g2
      have z : oV (some u) = .int u := rfl
      rw [z] at g2
      by_cases hu : u < v + e.2.2
      · simp [g1, g2, g3, gIs, ltO, hu]
      · simp [g1, g2, gIs, ltO, hu]
theorem far_loop {s : Sto} {n : Nat} {e0 e1 e2 e4 e5 : Option Va} {ck : Option (Nat × List Va)} (hck : ∀ s2, okk ck (s ++ s2)) : ∀ (E : List Edge) (S : Fd × Bool) (e7 e8 e9 : Option Va), InN n E →
    ∃ f7 f8 f9, lp ck (fBody (dgTup [7, 8, 9]) farStep) (E.map edV) [e0, e1, e2, some (.ref s.length), e4, e5, some (.bl S.2), e7, e8, e9] (s ++ [.lst (rowD n S.1)]) = .nx [e0, e1, e2, some (.ref s.length), e4, e5, some (.bl (E.foldl bfE S).2), f7, f8, f9] (s ++ [.lst (rowD n (E.foldl bfE S).1)])
  | [], S, e7, e8, e9, _ => ⟨e7, e8, e9, by rw [List.map_nil, lp, if_pos (hck _)]; rfl⟩
  | e :: E, S, e7, e8, e9, h => by
    obtain ⟨f7, f8, f9, ih⟩ := far_loop (s := s) (e0 := e0) (e1 := e1) (e2 := e2) (e4 := e4) (e5 := e5) hck E (bfE S e) (some (.int e.1)) (some (.int e.2.1)) (some (.int e.2.2)) (fun a ha => h a (List.mem_cons_of_mem _ ha))
    obtain ⟨h1, h2⟩ := h e List.mem_cons_self
    refine ⟨f7, f8, f9, ?_⟩
    rw [List.map_cons, lp, if_pos (hck _)]
    have hb : fBody (dgTup [7, 8, 9]) farStep (edV e) [e0, e1, e2, some (.ref s.length), e4, e5, some (.bl S.2), e7, e8, e9] (s ++ [.lst (rowD n S.1)]) = _ := far_step (s := s) (S := S) (e0 := e0) (e1 := e1) (e2 := e2) (e4 := e4) (e5 := e5) h1 h2
    rw [hb]
    exact ih
/-- the turns; what each of them ends with -/
theorem far_turns {s : Sto} {n : Nat} {E : List Edge} {x e0 e2 : Va} {e4 : Option Va} (hE : InN n E) (hx : seqL x s = some (E.map edV)) : ∀ (l : List Va) (D : Fd) (e5 e6 e7 e8 e9 : Option Va),
    (∃ D', far E l.length D = some D' ∧ lp none (fBody (dgName 5) farTurn) l [some e0, some x, some e2, some (.ref s.length), e4, e5, e6, e7, e8, e9] (s ++ [.lst (rowD n D)]) = .ret (.ref s.length) (s ++ [.lst (rowD n D')]))
    ∨ (far E l.length D = none ∧ ∃ ε' D', lp none (fBody (dgName 5) farTurn) l [some e0, some x, some e2, some (.ref s.length), e4, e5, e6, e7, e8, e9] (s ++ [.lst (rowD n D)]) = .nx ε' (s ++ [.lst (rowD n D')]))
  | [], D, e5, e6, e7, e8, e9 => .inr ⟨rfl, _, D, lp_nil⟩
  | k :: l, D, e5, e6, e7, e8, e9 => by
    obtain ⟨ck, hck⟩ := seq_push hx
    obtain ⟨f7, f8, f9, L⟩ := far_loop (s := s) (n := n) (e0 := some e0) (e1 := some x) (e2 := some e2) (e4 := e4) (e5 := some k) (ck := ck) (fun s2 => (hck s2).1) E (D, false) e7 e8 e9 hE
    have S := (hck [.lst (rowD n D)]).2 (dV 1) [some e0, some x, some e2, some (.ref s.length), e4, some k, some (.bl false), e7, e8, e9] rfl
    have hr : bfRound E D = E.foldl bfE (D, false) := rfl
    rw [← hr] at L
    rw [lp_cons, List.length_cons, far]
    by_cases hb : (bfRound E D).2 = true
    · rw [if_pos hb]
      rw [hb] at L
      have T : fBody (dgName 5) farTurn k [some e0, some x, some e2, some (.ref s.length), e4, e5, e6, e7, e8, e9] (s ++ [.lst (rowD n D)]) = .nx [some e0, some x, some e2, some (.ref s.length), e4, some k, some (.bl true), f7, f8, f9] (s ++ [.lst (rowD n (bfRound E D).1)]) := by
        rw [e_fBody, e_dgName]
        unfold farTurn
        simp only [List.set, e_seq, e_set, e_C, fl_ok, e_for, S, L, e_ifS, e_Not, e_Tr, e_V, List.getElem?_cons_zero, List.getElem?_cons_succ, bind_ok, truA, Bool.not_true, Bool.false_eq_true, if_false, e_next]
      rw [T]
      exact far_turns hE hx l _ _ _ _ _ _
    · have hb2 : (bfRound E D).2 = false := by
        cases q : (bfRound E D).2 with
        | true => exact absurd q hb
        | false => rfl
      rw [if_neg hb]
      rw [hb2] at L
      have T : fBody (dgName 5) farTurn k [some e0, some x, some e2, some (.ref s.length), e4, e5, e6, e7, e8, e9] (s ++ [.lst (rowD n D)]) = .ret (.ref s.length) (s ++ [.lst (rowD n (bfRound E D).1)]) := by
        rw [e_fBody, e_dgName]
        unfold farTurn
        simp only [List.set, e_seq, e_set, e_C, fl_ok, e_for, S, L, e_ifS, e_Not, e_Tr, e_V, List.getElem?_cons_zero, List.getElem?_cons_succ, bind_ok, truA, Bool.not_false, if_true, e_ret]
      rw [T]
      exact .inl ⟨_, rfl, rfl⟩
def farV (n : Nat) : Option Fd → Va
  | some D => .lst (rowD n D)
  | none => .non
def FarIn (n : Nat) (E : List Edge) : Prop := n ≤ 1000 ∧ InN n E
noncomputable instance (n : Nat) (E : List Edge) : Decidable (FarIn n E) := Classical.propDecidable _
noncomputable def F_l_far (args : List Va) (s : Sto) : Rs Va := match args with
  | [.int n, x, .lst ys] => match seqL x s with
    | some xs => match edsOf xs, intsOf ys with
      | some E, some bs => if 0 ≤ n ∧ FarIn n.toNat E then .ok (farV n.toNat (far E (n.toNat + 2) (Dm.start fun i => (i : Int) ∈ bs))) s else .bad
      | _, _ => .bad
    | none => .bad
  | _ => .bad
theorem in_ints {i : Int} {bs : List Int} {s : Sto} : gIn false (.int i) (.lst (bs.map .int)) s = .ok (.bl (decide (i ∈ bs))) s := by
  unfold gIn
  have h1 : gLook (.lst (bs.map .int)) (.int i) s = none := rfl
  have h2 : seqA (.lst (bs.map .int)) s = some (bs.map .int) := rfl
  have h3 : (bs.map Va.int).all flatA = true := by
    rw [List.all_map, List.all_eq_true]
    exact fun _ _ => rfl
  have h4 : inA (.int i) (bs.map .int) = decide (i ∈ bs) := by
    unfold inA
    rw [List.any_map]
    by_cases h : i ∈ bs
    · rw [decide_eq_true h, List.any_eq_true]
      exact ⟨i, h, by simp [eqFA]⟩
    · rw [decide_eq_false h, List.any_eq_false]
      intro x hx q
      have q : (x == i) = true := q
      exact h (by rw [← eq_of_beq q]; exact hx)
  dsimp only
  rw [h1]
  dsimp only
  rw [h2]
  dsimp only
  rw [if_pos ⟨rfl, h3⟩, h4, Bool.false_bne]
theorem far_start {s : Sto} {n : Nat} {bs : List Int} {e1 e4 e5 e6 e7 e8 e9 : Option Va} (hn : n ≤ 1000) :
    dLc true (dRg1 (dCons (dBin (gAdd false) (dV 0) (dC (.int 1))) dNil)) (dgName 4) dYes (dBin gIx (dLst false (dCons (dC .non) (dCons (dC (.int 0)) dNil))) (dApp gInt (dCons (dBin (gIn false) (dV 4) (dV 2)) dNil))) [4] [some (.int n), e1, some (.lst (bs.map .int)), none, e4, e5, e6, e7, e8, e9] s = .ok (.ref s.length) (s ++ [.lst (rowD n (Dm.start fun i => (i : Int) ∈ bs))]) := by
  have hr : inR ((n : Int) + 1) := ⟨by omega, by omega⟩
  have hq : leq (rgA 0 ((n : Int) + 1)).length 100000 := by unfold leq; rw [rgA_len]; omega
  have L : cl none (dgName 4) dYes (dBin gIx (dLst false (dCons (dC .non) (dCons (dC (.int 0)) dNil))) (dApp gInt (dCons (dBin (gIn false) (dV 4) (dV 2)) dNil))) (wip [some (.int n), e1, some (.lst (bs.map .int)), none, e4, e5, e6, e7, e8, e9] [4]) (rgA 0 ((n : Int) + 1)) [] s = .ok ([] ++ rowD n (Dm.start fun i => (i : Int) ∈ bs)) s := by
    rw [rgA_nat]
    refine cl_all (fun i : Nat => Va.int i) (fun i => oV (Dm.start (fun i : Nat => (i : Int) ∈ bs) i)) _ [] fun i hi => ?_
    unfold Dm.start
    by_cases hb : (i : Int) ∈ bs
    · simp [wip, in_ints, hb, atI_1, oV]
    · simp [wip, in_ints, hb, atI_0, oV]
  rw [e_Lc, e_rg1, e_Cons, e_Bin, e_V]
  simp only [List.getElem?_cons_zero, bind_ok, e_C, g_add_int, e_Nil, hr, if_true, hq, L, g_mkL_t, List.nil_append]
theorem far_run {s : Sto} {n : Nat} {E : List Edge} {bs : List Int} {x : Va} (hn : n ≤ 1000) (hE : InN n E) (hx : seqL x s = some (E.map edV)) :
    (∃ D', far E (n + 2) (Dm.start fun i => (i : Int) ∈ bs) = some D' ∧ b_l_far [some (.int n), some x, some (.lst (bs.map .int)), none, none, none, none, none, none, none] s = .ret (.ref s.length) (s ++ [.lst (rowD n D')]))
    ∨ (far E (n + 2) (Dm.start fun i => (i : Int) ∈ bs) = none ∧ ∃ D', b_l_far [some (.int n), some x, some (.lst (bs.map .int)), none, none, none, none, none, none, none] s = .ret .non (s ++ [.lst (rowD n D')])) := by
  have M := far_start (s := s) (n := n) (bs := bs) (e1 := some x) (e4 := none) (e5 := none) (e6 := none) (e7 := none) (e8 := none) (e9 := none) hn
  have hr : inR ((n : Int) + 2) := ⟨by omega, by omega⟩
  have hlen : (rgA 0 ((n : Int) + 2)).length = n + 2 := by rw [rgA_len]; omega
  have T := far_turns (s := s) (n := n) (E := E) (x := x) (e0 := .int n) (e2 := .lst (bs.map .int)) (e4 := none) hE hx (rgA 0 ((n : Int) + 2)) (Dm.start fun i => (i : Int) ∈ bs) none none none none none
  rw [hlen] at T
  rcases T with ⟨D', h1, h2⟩ | ⟨h1, ε', D', h2⟩
  · refine .inl ⟨D', h1, ?_⟩
    unfold b_l_far
    rw [e_seq, e_set, M]
    simp only [fl_ok, List.set, e_seq, e_for, e_rg1, e_Cons, e_Bin, e_V, List.getElem?_cons_zero, List.getElem?_cons_succ, bind_ok, e_C, g_add_int, e_Nil, hr, if_true, h2]
  · refine .inr ⟨h1, D', ?_⟩
    unfold b_l_far
    rw [e_seq, e_set, M]
    simp only [fl_ok, List.set, e_seq, e_for, e_rg1, e_Cons, e_Bin, e_V, List.getElem?_cons_zero, List.getElem?_cons_succ, bind_ok, e_C, g_add_int, e_Nil, hr, if_true, h2, e_ret]
theorem vasB_rowD {k n : Nat} {D : Fd} : vasB k (rowD n D) := by
  unfold rowD
  generalize List.range (n + 1) = l
  induction l with
  | nil => trivial
  | cons a l ih => exact ⟨vaB_oV _, ih⟩
theorem fin_l_far (args : List Va) (s : Sto) (wf : WFn s.length s) (wa : vasB s.length args) (hl : args.length = 3) : Fin s.length (b_l_far (startA 10 args) s) (F_l_far args s) := by
  unfold F_l_far
  split
  · split
    · split
      · split
        · rename_i n x ys _ xs e1 _ _ E bs e2 e3 hc
          obtain ⟨h0, hF⟩ := hc
          rw [edsOf_eq e2] at e1
          have e4 := intsOf_eq e3
          subst e4
          obtain ⟨N, rfl⟩ := Int.eq_ofNat_of_zero_le h0
          rw [Int.toNat_natCast] at hF ⊢
          rcases far_run (bs := bs) hF.1 hF.2 e1 with ⟨D', h1, h2⟩ | ⟨h1, D', h2⟩
          · rw [h1]
            exact Fin.frzS h2 rfl vasB_rowD wf
          · rw [h1]
            exact Fin.cut h2 (List.take_left' rfl) trivial wf
        · exact .bad
      · exact .bad
    · exact .bad
  · exact .bad
end Dn

set_option Elab.async false
set_option linter.all false
set_option maxRecDepth 100000
set_option maxHeartbeats 1000000
/-! Dn, sorted of whole numbers. -/
namespace Dn
open PySem PySem.Spec PyProof.Rows L2
def insI (a : Int) : List Int → List Int
  | [] => [a]
  | b :: r => if a ≤ b then a :: b :: r else b :: insI a r
def srtI : List Int → List Int
  | [] => []
  | a :: r => insI a (srtI r)
theorem insI_perm (a : Int) : ∀ l : List Int, (insI a l).Perm (a :: l)
  | [] => .refl _
  | b :: r => by
    unfold insI
    split
    · exact .refl _
    · exact ((insI_perm a r).cons b).trans (.swap a b r)
theorem srtI_perm : ∀ l : List Int, (srtI l).Perm l
  | [] => .refl _
  | a :: r => (insI_perm a _).trans ((srtI_perm r).cons a)
theorem insI_sorted (a : Int) : ∀ l : List Int, l.Pairwise (· ≤ ·) → (insI a l).Pairwise (· ≤ ·)
  | [], _ => by simp [insI]
  | b :: r, h => by
    unfold insI
    have h2 := List.pairwise_cons.mp h
    split
    · rename_i hab
      refine List.pairwise_cons.mpr ⟨fun x hx => ?_, h⟩
      rcases List.mem_cons.mp hx with hx | hx
      · rw [hx]; exact hab
      · have := h2.1 x hx
        omega
    · rename_i hab
      refine List.pairwise_cons.mpr ⟨fun x hx => ?_, insI_sorted a r h2.2⟩
      have := (insI_perm a r).mem_iff.mp hx
      rcases List.mem_cons.mp this with hx | hx
      · omega
      · exact h2.1 x hx
theorem srtI_sorted : ∀ l : List Int, (srtI l).Pairwise (· ≤ ·)
  | [] => .nil
  | a :: r => insI_sorted a _ (srtI_sorted r)
theorem perm_eq : ∀ {l m : List Int}, l.Perm m → l.Pairwise (· ≤ ·) → m.Pairwise (· ≤ ·) → l = m
  | [], m, p, _, _ => p.nil_eq
  | a :: l, [], p, _, _ => by
    have := p.length_eq
    simp at this
  | a :: l, b :: m, p, h1, h2 => by
    have g1 := List.pairwise_cons.mp h1
    have g2 := List.pairwise_cons.mp h2
    have e : a = b := by
      have m1 : a ∈ b :: m := p.mem_iff.mp List.mem_cons_self
      have m2 : b ∈ a :: l := p.mem_iff.mpr List.mem_cons_self
      rcases List.mem_cons.mp m1 with q | q
      · exact q
      · rcases List.mem_cons.mp m2 with q2 | q2
        · exact q2.symm
        · have := g2.1 a q
          have := g1.1 b q2
          omega
    subst e
    rw [perm_eq p.cons_inv g1.2 g2.2]
def gSorted (bx : Bool) (xs : List Va) (s : Sto) : Rs Va := match xs with
  | [x] => match seqL x s with
    | some ys => match intsOf ys with
      | some ns => mkL bx ((srtI ns).map .int) s
      | none => .bad
    | none => .bad
  | _ => .bad
theorem opN_sorted {K : PySem.W.Frag} {bx : Bool} : OpN K (rSortedI K) (gSorted bx) := by
  intro CL W F G as s H x v Q S rx q
  unfold gSorted at q
  split at q
  · obtain ⟨w, rfl, r⟩ := Rls1 rx
    split at q
    · rename_i ys e
      split at q
      · rename_i ns e2
        obtain ⟨a, vs, rfl, h2, h3⟩ := seqL_ok S r e
        have e3 := intsOf_eq e2
        subst e3
        have e4 := h3.ints
        subst e4
        refine ⟨a, ns, rfl, SqL.of h2, fun ns' p hp hs hn => ?_⟩
        rw [perm_eq (hp.trans (srtI_perm ns).symm) hs (srtI_sorted ns)]
        exact mkL_ok S Rls.ofInts q p hn
      · exact q.elim
    · exact q.elim
  · exact q.elim
section
variable {X : Cx} {CL : Cls0} {W : WX} {k : Nat} {e : Expr} {dr : DA} {p pos : Pos}
theorem re_sorted (O : Okc X W k) (bx : Bool) (hm : X.mg "sorted" = none) (ha : RA X CL W [e] dr) (hG : Gl X "sorted" := by rfl) (he : starEach [e] X.env = (false, eval e X.env) :: starEach [] X.env := by rfl) : RE X CL W (.Call (.Name "sorted" p) [e] [] pos) (dApp (gSorted bx) dr) := re_callB cr_sortedI opN_sorted hG hm (by decide +kernel) ha (he := he)
end
end Dn

set_option Elab.async false
set_option linter.all false
set_option maxRecDepth 100000
set_option maxHeartbeats 4000000
/-! Dn, part X: the law's holds; knots. -/
namespace Dn
open PySem PySem.Spec PyProof.Rows L2
open Dm (Edge Tb fw InN Calm Holds Fd far)
noncomputable def F_l_holds (args : List Va) (s : Sto) : Rs Va := match args with
  | [.int n, x] => match seqL x s with
    | some xs => match recsOf xs with
      | some rs => if 0 ≤ n ∧ Fits n.toNat rs then .ok (.bl (holdB n.toNat rs)) s else .bad
      | none => .bad
    | none => .bad
  | _ => .bad
noncomputable def b_l_holds : DS := (sRet (dBin (gIs true) (dApp (gFn 3 F_l_far) (dCons (dV 0) (dCons (dApp (gFn 2 F_l_steps) (dCons (dV 0) (dCons (dV 1) dNil))) (dCons (dLstRg1 false (dBin (gAdd false) (dV 0) (dC (.int 1)))) dNil)))) (dC .non)))
def allN (n : Nat) : List Int := (List.range (n + 1)).map fun i : Nat => (i : Int)
theorem rg_all {n : Nat} : rgA 0 ((n : Int) + 1) = (allN n).map .int := by
  rw [rgA_nat]
  unfold allN
  rw [List.map_map]
  rfl
theorem start_all {n : Nat} : (Dm.start fun i => (i : Int) ∈ allN n) = Dm.start fun i => i ≤ n := by
  funext i
  unfold Dm.start
  have h : ((i : Int) ∈ allN n) ↔ i ≤ n := by
    unfold allN
    rw [List.mem_map]
    constructor
    · intro ⟨j, h1, h2⟩
      have := List.mem_range.mp h1
      omega
    · intro h
      exact ⟨i, List.mem_range.mpr (by omega), rfl⟩
  by_cases q : i ≤ n
  · rw [if_pos q, if_pos (h.mpr q)]
  · rw [if_neg q, if_neg (fun z => q (h.mp z))]
theorem l_steps_eq {n : Nat} {rs : List Rec} {x : Va} {s : Sto} (hF : Fits n rs) (hx : seqL x s = some (rs.map Rec.va)) : F_l_steps [.int n, x] s = .ok (.lst ((edgesR n rs).map edV)) s := by
  unfold F_l_steps
  simp only [hx, recsOf_map]
  rw [if_pos ⟨by omega, by rw [Int.toNat_natCast]; exact hF⟩, Int.toNat_natCast]
theorem l_far_eq {n : Nat} {E : List Edge} {x : Va} {bs : List Int} {s : Sto} (hn : n ≤ 1000) (hE : InN n E) (hx : seqL x s = some (E.map edV)) : F_l_far [.int n, x, .lst (bs.map .int)] s = .ok (farV n (far E (n + 2) (Dm.start fun i => (i : Int) ∈ bs))) s := by
  unfold F_l_far
  simp only [hx, edsOf_map, intsOf_map]
  rw [if_pos ⟨by omega, by rw [Int.toNat_natCast]; exact ⟨hn, hE⟩⟩, Int.toNat_natCast]
theorem is_farV {n : Nat} {o : Option Fd} {s : Sto} : gIs true (farV n o) .non s = .ok (.bl o.isSome) s := by
  cases o <;> simp [farV, gIs]
theorem hold_far {n : Nat} {rs : List Rec} (h : ∀ r ∈ rs, r.fits n) : (far (edgesR n rs) (n + 2) (Dm.start fun i => (i : Int) ∈ allN n)).isSome = holdB n rs := by
  rw [start_all]
  have h1 := Dm.far_holds (edgesR_in h)
  have h2 := holdB_iff h
  cases e : holdB n rs with
  | true => exact h1.mpr (h2.mp e)
  | false =>
    cases q : (far (edgesR n rs) (n + 2) (Dm.start fun i => i ≤ n)).isSome with
    | false => rfl
    | true =>
      have := h2.mpr (h1.mp q)
      rw [e] at this
      cases this
theorem l_holds_run {n : Nat} {rs : List Rec} {x : Va} {s : Sto} (hF : Fits n rs) (hx : seqL x s = some (rs.map Rec.va)) : b_l_holds [some (.int n), some x] s = .ret (.bl (holdB n rs)) s := by
  have h1 := l_steps_eq hF hx
  have h2 := l_far_eq (s := s) (bs := allN n) (x := .lst ((edgesR n rs).map edV)) hF.1 (edgesR_in hF.2.2) rfl
  have hg : gRg false 0 ((n : Int) + 1) s = .ok (.lst ((allN n).map .int)) s := by
    unfold gRg
    have hn := hF.1
    have hr : inR ((n : Int) + 1) := ⟨by omega, by omega⟩
    have hr0 : inR 0 := ⟨by decide, by decide⟩
    have hq : leq ((n : Int) + 1 - 0).toNat 100000 := by unfold leq; omega
    rw [if_pos ⟨hr0, hr, hq⟩, rg_all]
    rfl
  unfold b_l_holds
  simp only [e_ret, e_Bin, e_App, e_Cons, e_V, List.getElem?_cons_zero, List.getElem?_cons_succ, bind_ok, e_Nil, gFn, List.length_cons, List.length_nil, if_true, h1, e_LstRg1, e_C, g_add_int, hg, h2, is_farV, fl_ok, hold_far hF.2.2]
theorem fin_l_holds (args : List Va) (s : Sto) (wf : WFn s.length s) (wa : vasB s.length args) (hl : args.length = 2) : Fin s.length (b_l_holds (startA 2 args) s) (F_l_holds args s) := by
  unfold F_l_holds
  split
  · split
    · split
      · split
        · rename_i n x _ xs e1 _ rs e2 hc
          obtain ⟨h0, hF⟩ := hc
          rw [recsOf_eq e2] at e1
          obtain ⟨N, rfl⟩ := Int.eq_ofNat_of_zero_le h0
          rw [Int.toNat_natCast] at hF ⊢
          exact Fin.ret1 (l_holds_run hF e1) trivial wf
        · exact .bad
      · exact .bad
    · exact .bad
  · exact .bad
/-! knots -/
def subR (rs : List Rec) (l : List Nat) : List Rec := l.map fun i => rs.getD i (.kind 0 "")
def natsV (l : List Nat) : List Va := l.map fun i => Va.int (i : Nat)
noncomputable def shrink (n : Nat) (rs : List Rec) : List Nat → List Nat → List Nat
  | [], left => left
  | x :: xs, left => if holdB n (subR rs (left.filter fun i => decide (i ≠ x))) = true then shrink n rs xs left else shrink n rs xs (left.filter fun i => decide (i ≠ x))
noncomputable def knotV (n : Nat) (rs : List Rec) : Va := if holdB n rs = true then .non else .lst (natsV (shrink n rs (List.range rs.length) (List.range rs.length)))
noncomputable def F_knot (args : List Va) (s : Sto) : Rs Va := match args with
  | [.int n, x] => match seqL x s with
    | some xs => match recsOf xs with
      | some rs => if 0 ≤ n ∧ Fits n.toNat rs then .ok (knotV n.toNat rs) s else .bad
      | none => .bad
    | none => .bad
  | _ => .bad
noncomputable def knotTurn : DS := (sSeq (sSet 4 (dLc false (dSeq (dV 2)) (dgName 5) (dTB (dBin (gEq true) (dV 5) (dV 3))) (dV 5) [5]))
  (sIf (dNot (dTr (dApp (gFn 2 F_do_hold) (dCons (dV 0) (dCons (dLc false (dSeq (dV 4)) (dgName 5) dYes (dBin gIx (dV 1) (dV 5)) [5]) dNil))))) (sSet 2 (dV 4)) sNext))
noncomputable def b_knot : DS := (sSeq (sIf (dTr (dApp (gFn 2 F_do_hold) (dCons (dV 0) (dCons (dV 1) dNil)))) (sRet (dC .non)) sNext)
  (sSeq (sSet 2 (dLstRg1 false (dApp gLen (dCons (dV 1) dNil))))
  (sSeq (sFor (dRg1 (dCons (dApp gLen (dCons (dV 1) dNil)) dNil)) (dgName 3)
   knotTurn)
  (sRet (dV 2)))))
theorem seqA_L {x : Va} {xs : List Va} {s : Sto} (h : seqL x s = some xs) : seqA x s = some xs := by
  cases x with
  | lst ys => exact h
  | ref i => exact h
  | _ => simp [seqL] at h
theorem subR_fits {n : Nat} {rs : List Rec} {l : List Nat} (hF : Fits n rs) (hl : ∀ i ∈ l, i < rs.length) (hn : l.length ≤ 10000) : Fits n (subR rs l) := by
  refine ⟨hF.1, by unfold subR; rw [List.length_map]; exact hn, fun r hr => ?_⟩
  unfold subR at hr
  obtain ⟨i, hi, e⟩ := List.mem_map.mp hr
  rw [← e]
  exact hF.2.2 _ (getD_mem (hl i hi))
theorem pick_recs {rs : List Rec} {x : Va} {s : Sto} {ε : En} {j v : Nat} (hx : seqL x s = some (rs.map Rec.va)) (l : List Nat) (hl : ∀ i ∈ l, i < rs.length) (e1 : ∀ y, ((wip ε [j]).set j (some y))[v]? = some (some x)) (e2 : ∀ y, ((wip ε [j]).set j (some y))[j]? = some (some y)) :
    cl none (dgName j) dYes (dBin gIx (dV v) (dV j)) (wip ε [j]) (natsV l) [] s = .ok ((subR rs l).map Rec.va) s := by
  have L := cl_all (fun i : Nat => Va.int i) (fun i => (rs.getD i (.kind 0 "")).va) (j := j) (del := dBin gIx (dV v) (dV j)) (ε := wip ε [j]) (s := s) l [] fun i hi => by
    rw [e_Bin, e_V, e1]
    simp only [bind_ok, e_V, e2]
    rw [gIx_at (seqA_L hx) (by rw [List.length_map]; exact hl i hi), getD_map Rec.va rs i (.kind 0 "") .non (hl i hi)]
  unfold natsV subR
  rw [L, List.nil_append, List.map_map]
  rfl
theorem knot_turn {n k : Nat} {rs : List Rec} {x : Va} {s : Sto} {left : List Nat} {e4 e5 : Option Va} (hF : Fits n rs) (hx : seqL x s = some (rs.map Rec.va)) (hl : ∀ i ∈ left, i < rs.length) (hn : left.length ≤ 10000) :
    ∃ f4, knotTurn [some (.int n), some x, some (.lst (natsV left)), some (.int k), e4, e5] s = .nx [some (.int n), some x, some (.lst (natsV (if holdB n (subR rs (left.filter fun i => decide (i ≠ k))) = true then left else left.filter fun i => decide (i ≠ k)))), some (.int k), f4, e5] s := by
  have hm : ∀ i ∈ left.filter (fun i => decide (i ≠ k)), i < rs.length := fun i hi => hl i (List.mem_filter.mp hi).1
  have hn2 : (left.filter fun i => decide (i ≠ k)).length ≤ 10000 := Nat.le_trans (List.length_filter_le ..) hn
  have hq : leq (natsV left).length 100000 := by unfold leq natsV; rw [List.length_map]; omega
  have L1 : cl none (dgName 5) (dTB (dBin (gEq true) (dV 5) (dV 3))) (dV 5) (wip [some (.int n), some x, some (.lst (natsV left)), some (.int k), e4, e5] [5]) (natsV left) [] s = .ok (natsV (left.filter fun i => decide (i ≠ k))) s := by
    have L := cl_map (fun i : Nat => Va.int i) (fun i : Nat => Va.int i) (j := 5) (dt := dTB (dBin (gEq true) (dV 5) (dV 3))) (del := dV 5) (ε := wip [some (.int n), some x, some (.lst (natsV left)), some (.int k), e4, e5] [5]) (s := s) (fun i => decide (i ≠ k)) left [] (fun i _ => by
      simp [wip]
      by_cases h : i = k
      · simp [h]
      · have : ¬ (i : Int) = k := by omega
        simp [h, this]) (fun i _ _ => by simp [wip])
    rw [List.nil_append] at L
    exact L
  generalize left.filter (fun i => decide (i ≠ k)) = fewer at hm hn2 L1 ⊢
  have hq2 : leq (natsV fewer).length 100000 := by unfold leq natsV; rw [List.length_map]; omega
  have L2 := pick_recs (ε := [some (.int n), some x, some (.lst (natsV left)), some (.int k), some (.lst (natsV fewer)), e5]) (j := 5) (v := 1) hx fewer hm (fun _ => rfl) (fun _ => rfl)
  have H := hold_eq (s := s) (x := .lst ((subR rs fewer).map Rec.va)) (subR_fits hF hm hn2) rfl
  refine ⟨some (.lst (natsV fewer)), ?_⟩
  have D1 : dLc false (dSeq (dV 2)) (dgName 5) (dTB (dBin (gEq true) (dV 5) (dV 3))) (dV 5) [5] [some (.int n), some x, some (.lst (natsV left)), some (.int k), e4, e5] s = .ok (.lst (natsV fewer)) s := by
    rw [e_Lc]
    unfold dSeq
    rw [e_V]
    simp only [List.getElem?_cons_zero, List.getElem?_cons_succ, bind_ok, hq, if_true, L1, g_mkL_f]
  have D2 : dLc false (dSeq (dV 4)) (dgName 5) dYes (dBin gIx (dV 1) (dV 5)) [5] [some (.int n), some x, some (.lst (natsV left)), some (.int k), some (.lst (natsV fewer)), e5] s = .ok (.lst ((subR rs fewer).map Rec.va)) s := by
    rw [e_Lc]
    unfold dSeq
    rw [e_V]
    simp only [List.getElem?_cons_zero, List.getElem?_cons_succ, bind_ok, hq2, if_true, L2, g_mkL_f]
  unfold knotTurn
  generalize dLc false (dSeq (dV 2)) (dgName 5) (dTB (dBin (gEq true) (dV 5) (dV 3))) (dV 5) [5] = A1 at D1 ⊢
  generalize dLc false (dSeq (dV 4)) (dgName 5) dYes (dBin gIx (dV 1) (dV 5)) [5] = A2 at D2 ⊢
  by_cases hb : holdB n (subR rs fewer) = true
  · rw [if_pos hb]
    rw [hb] at H
    simp [D1, D2, H, truA]
  · rw [if_neg hb]
    rw [Bool.not_eq_true] at hb
    rw [hb] at H
    simp [D1, D2, H, truA]
theorem knot_loop {n : Nat} {rs : List Rec} {x : Va} {s : Sto} {e5 : Option Va} (hF : Fits n rs) (hx : seqL x s = some (rs.map Rec.va)) : ∀ (ks left : List Nat) (e3 e4 : Option Va), (∀ i ∈ left, i < rs.length) → left.length ≤ 10000 →
    ∃ f3 f4, lp none (fBody (dgName 3) knotTurn) (ks.map fun i => Va.int (i : Nat)) [some (.int n), some x, some (.lst (natsV left)), e3, e4, e5] s = .nx [some (.int n), some x, some (.lst (natsV (shrink n rs ks left))), f3, f4, e5] s
  | [], left, e3, e4, _, _ => ⟨e3, e4, by rw [List.map_nil, lp_nil]; rfl⟩
  | k :: ks, left, e3, e4, hl, hn => by
    obtain ⟨g4, T⟩ := knot_turn (k := k) (e4 := e4) (e5 := e5) hF hx hl hn
    have hsh : shrink n rs (k :: ks) left = shrink n rs ks (if holdB n (subR rs (left.filter fun i => decide (i ≠ k))) = true then left else left.filter fun i => decide (i ≠ k)) := by
      rw [shrink]
      split <;> rfl
    rw [hsh]
    have T2 : fBody (dgName 3) knotTurn (.int k) [some (.int n), some x, some (.lst (natsV left)), e3, e4, e5] s = _ := T
    generalize hL : (if holdB n (subR rs (left.filter fun i => decide (i ≠ k))) = true then left else left.filter fun i => decide (i ≠ k)) = left2 at T2 ⊢
    have h2 : (∀ i ∈ left2, i < rs.length) ∧ left2.length ≤ 10000 := by
      rw [← hL]
      split
      · exact ⟨hl, hn⟩
      · exact ⟨fun i hi => hl i (List.mem_filter.mp hi).1, Nat.le_trans (List.length_filter_le ..) hn⟩
    obtain ⟨f3, f4, ih⟩ := knot_loop (e5 := e5) hF hx ks left2 (some (.int k)) g4 h2.1 h2.2
    refine ⟨f3, f4, ?_⟩
    rw [List.map_cons, lp_cons, T2]
    exact ih
theorem rgA_nat0 {n : Nat} : rgA 0 (n : Int) = natsV (List.range n) := by
  unfold rgA natsV
  rw [Int.sub_zero, Int.toNat_natCast]
  apply List.map_congr_left
  intro i _
  rw [Int.zero_add]
theorem len_recs {rs : List Rec} {x : Va} {s : Sto} (hx : seqL x s = some (rs.map Rec.va)) : gLen [x] s = .ok (.int (rs.length : Nat)) s := by
  have h := seqA_L hx
  cases x with
  | lst ys =>
    cases hx
    rw [g_len_lst, List.length_map]
  | ref i =>
    unfold gLen
    dsimp only
    rw [h]
    dsimp only
    rw [List.length_map]
  | _ => simp [seqL] at hx
theorem knot_run {n : Nat} {rs : List Rec} {x : Va} {s : Sto} (hF : Fits n rs) (hx : seqL x s = some (rs.map Rec.va)) : b_knot [some (.int n), some x, none, none, none, none] s = .ret (knotV n rs) s := by
  have H := hold_eq (s := s) hF hx
  have hl := len_recs hx
  have h2 := hF.2.1
  have hr : inR (rs.length : Int) := ⟨by omega, by omega⟩
  have hr0 : inR 0 := ⟨by decide, by decide⟩
  have hq : leq ((rs.length : Int) - 0).toNat 100000 := by unfold leq; omega
  have hg : gRg false 0 (rs.length : Int) s = .ok (.lst (natsV (List.range rs.length))) s := by
    unfold gRg
    rw [if_pos ⟨hr0, hr, hq⟩, rgA_nat0]
    rfl
  obtain ⟨f3, f4, L⟩ := knot_loop (e5 := none) hF hx (List.range rs.length) (List.range rs.length) none none (fun i hi => List.mem_range.mp hi) (by rw [List.length_range]; exact h2)
  have L2 := L
  rw [show (List.range rs.length).map (fun i => Va.int (i : Nat)) = rgA 0 (rs.length : Int) from rgA_nat0.symm] at L2
  unfold b_knot knotV
  by_cases hb : holdB n rs = true
  · rw [if_pos hb]
    rw [hb] at H
    simp [H, truA]
  · rw [if_neg hb]
    rw [Bool.not_eq_true] at hb
    rw [hb] at H
    simp only [e_seq, e_ifS, e_Tr, e_App, e_Cons, e_V, List.getElem?_cons_zero, List.getElem?_cons_succ, bind_ok, e_Nil, gFn, List.length_cons, List.length_nil, if_true, H, truA, fl_ok, Bool.false_eq_true, if_false, e_next, e_set, e_LstRg1, hl, hg, List.set, e_for, e_rg1, hr, L2, e_ret]
theorem vasB_nats {k : Nat} : ∀ {l : List Nat}, vasB k (natsV l)
  | [] => trivial
  | _ :: _ => ⟨trivial, vasB_nats⟩
theorem fin_knot (args : List Va) (s : Sto) (wf : WFn s.length s) (wa : vasB s.length args) (hl : args.length = 2) : Fin s.length (b_knot (startA 6 args) s) (F_knot args s) := by
  unfold F_knot
  split
  · split
    · split
      · split
        · rename_i n x _ xs e1 _ rs e2 hc
          obtain ⟨h0, hF⟩ := hc
          rw [recsOf_eq e2] at e1
          obtain ⟨N, rfl⟩ := Int.eq_ofNat_of_zero_le h0
          rw [Int.toNat_natCast] at hF ⊢
          refine Fin.ret1 (knot_run hF e1) ?_ wf
          unfold knotV
          split
          · trivial
          · exact vasB_nats
        · exact .bad
      · exact .bad
    · exact .bad
  · exact .bad
/-! what a knot is -/
theorem shrink_sub (n : Nat) (rs : List Rec) : ∀ (ks left : List Nat), (shrink n rs ks left).Sublist left
  | [], left => List.Sublist.refl _
  | k :: ks, left => by
    rw [shrink]
    split
    · exact shrink_sub n rs ks left
    · exact (shrink_sub n rs ks _).trans (List.filter_sublist)
theorem subR_mem {rs : List Rec} {n : Nat} {l m : List Nat} (h : ∀ i ∈ l, i ∈ m) : ∀ e ∈ edgesR n (subR rs l), e ∈ edgesR n (subR rs m) := by
  intro e he
  obtain ⟨r, h1, h2⟩ := List.mem_flatMap.mp he
  obtain ⟨i, h3, h4⟩ := List.mem_map.mp h1
  exact List.mem_flatMap.mpr ⟨r, List.mem_map.mpr ⟨i, h i h3, h4⟩, h2⟩
theorem hold_mono {n : Nat} {rs : List Rec} {l m : List Nat} (hF : Fits n rs) (hm : ∀ i ∈ m, i < rs.length) (h : ∀ i ∈ l, i ∈ m) (hb : holdB n (subR rs m) = true) : holdB n (subR rs l) = true := by
  have f : ∀ {l : List Nat}, (∀ i ∈ l, i < rs.length) → ∀ r ∈ subR rs l, r.fits n := fun hl r hr => by
    obtain ⟨i, hi, e⟩ := List.mem_map.mp hr
    rw [← e]
    exact hF.2.2 _ (getD_mem (hl i hi))
  exact (holdB_iff (f fun i hi => hm i (h i hi))).mpr (((holdB_iff (f hm)).mp hb).sub (subR_mem h))
theorem shrink_knot {n : Nat} {rs : List Rec} (hF : Fits n rs) : ∀ (ks left : List Nat), (∀ i ∈ left, i < rs.length) → holdB n (subR rs left) = false →
    holdB n (subR rs (shrink n rs ks left)) = false ∧ ∀ k ∈ ks, k ∈ shrink n rs ks left → holdB n (subR rs ((shrink n rs ks left).filter fun i => decide (i ≠ k))) = true
  | [], left, _, hb => ⟨hb, fun _ h => absurd h (List.not_mem_nil)⟩
  | k :: ks, left, hl, hb => by
    rw [shrink]
    by_cases h : holdB n (subR rs (left.filter fun i => decide (i ≠ k))) = true
    · rw [if_pos h]
      obtain ⟨h1, h2⟩ := shrink_knot hF ks left hl hb
      refine ⟨h1, fun j hj hm => ?_⟩
      rcases List.mem_cons.mp hj with e | hj
      · subst e
        refine hold_mono hF (fun i hi => hl i (List.mem_filter.mp hi).1) (fun i hi => ?_) h
        obtain ⟨g1, g2⟩ := List.mem_filter.mp hi
        exact List.mem_filter.mpr ⟨(shrink_sub n rs ks left).subset g1, g2⟩
      · exact h2 j hj hm
    · rw [if_neg h]
      rw [Bool.not_eq_true] at h
      obtain ⟨h1, h2⟩ := shrink_knot hF ks _ (fun i hi => hl i (List.mem_filter.mp hi).1) h
      refine ⟨h1, fun j hj hm => ?_⟩
      rcases List.mem_cons.mp hj with e | hj
      · subst e
        have := (shrink_sub n rs ks _).subset hm
        have := (List.mem_filter.mp this).2
        simp at this
      · exact h2 j hj hm
end Dn

set_option Elab.async false
set_option linter.all false
set_option maxRecDepth 100000
set_option maxHeartbeats 4000000
/-! Dn, part Y: lists of whole numbers compared; what a knot is. -/
namespace Dn
open PySem PySem.Spec PyProof.Rows L2
theorem toPys_ints : ∀ ns : List Int, toPys (ns.map .int) = some (ns.map PyData.int)
  | [] => rfl
  | n :: ns => by
    rw [List.map_cons, List.map_cons, toPys, toPys_ints ns]
    rfl
theorem lay_ints : ∀ ns : List Int, PyData.canLayAll0 (ns.map PyData.int) = true
  | [] => rfl
  | n :: ns => by
    rw [List.map_cons]
    simp [PyData.canLayAll0, PyData.canLay0, lay_ints ns]
theorem depth_ints : ∀ ns : List Int, PyData.depthAll (ns.map PyData.int) ≤ 1
  | [] => by simp [PyData.depthAll]
  | n :: ns => by
    have := depth_ints ns
    rw [List.map_cons]
    simp [PyData.depthAll, PyData.depth]
    try omega
theorem shp_ints (ns : List Int) : shp (.list (ns.map PyData.int)) := by
  unfold shp SeqAt.shaped
  have h := depth_ints ns
  simp [PyData.canLay0, lay_ints, PyData.depth]
  omega
theorem g_eq_ints {neg : Bool} {ns ms : List Int} {s : Sto} : gEq neg (.lst (ns.map .int)) (.lst (ms.map .int)) s = .ok (.bl (neg != decide (ns = ms))) s := by
  have h2 : ∀ ns : List Int, toPyS (.lst (ns.map .int)) s = some (.list (ns.map .int)) := fun ns => by
    unfold toPyS
    dsimp only
    unfold toPy
    rw [toPys_ints]
    rfl
  have h1 : scalA (.lst (ns.map .int)) (.lst (ms.map .int)) = false := rfl
  unfold gEq
  rw [h1, if_neg (by decide)]
  simp only [h2]
  rw [if_pos ⟨shp_ints _, shp_ints _⟩]
  have e : PyData.eqv (.list (ns.map PyData.int)) (.list (ms.map PyData.int)) = PyData.eqvAll (ns.map PyData.int) (ms.map PyData.int) := by
    rw [PyData.eqv]
  rw [e, PySem.W.ked_eqvAll]
theorem all_lc {α : Type} (e : α → Va) (p : α → Bool) {di : DI} {j : Nat} {del : DE} {ε : En} {s : Sto} {l : List α} (h1 : di ε s = .ok (none, l.map e) s) (h2 : l.length ≤ 100000) (h3 : ∀ a ∈ l, del ((wip ε [j]).set j (some (e a))) s = .ok (.bl (p a)) s) :
    dApp gAll (dCons (dLc false di (dgName j) dYes del [j]) dNil) ε s = .ok (.bl (l.all p)) s := by
  have hq : leq (l.map e).length 100000 := by unfold leq; rw [List.length_map]; exact h2
  have L := cl_all e (fun a => Va.bl (p a)) (j := j) (del := del) (ε := wip ε [j]) (s := s) l [] h3
  rw [e_App, e_Cons, e_Lc, h1]
  simp only [bind_ok, hq, if_true, L, List.nil_append, g_mkL_f, e_Nil, gAll, seqL]
  rw [show (l.map fun a => Va.bl (p a)) = (l.map p).map .bl from by rw [List.map_map]; rfl, blsOf_map]
  simp only [List.all_map]
  rfl
theorem seq_lst {de : DE} {ε : En} {s : Sto} {xs : List Va} (h : de ε s = .ok (.lst xs) s) : dSeq de ε s = .ok (none, xs) s := by
  unfold dSeq
  rw [h]
  rfl
structure IsK (n : Nat) (rs : List Rec) (ys : List Va) (l : List Nat) : Prop where
  fits : Fits n rs
  nats : ys = natsV l
  asc : l.Pairwise (· < ·)
  lo : ∀ i ∈ l, i < rs.length
noncomputable instance (n : Nat) (rs : List Rec) (ys : List Va) (l : List Nat) : Decidable (IsK n rs ys l) := Classical.propDecidable _
noncomputable def isKnotB (n : Nat) (rs : List Rec) (l : List Nat) : Bool := !holdB n (subR rs l) && l.all fun k => holdB n (subR rs (l.filter fun i => decide (i ≠ k)))
noncomputable def F_l_is_knot (args : List Va) (s : Sto) : Rs Va := match args with
  | [.int n, x, .lst ys] => match seqL x s with
    | some xs => match recsOf xs, intsOf ys with
      | some rs, some ks => if 0 ≤ n ∧ IsK n.toNat rs ys (ks.map Int.toNat) then .ok (.bl (isKnotB n.toNat rs (ks.map Int.toNat))) s else .bad
      | _, _ => .bad
    | none => .bad
  | _ => .bad
noncomputable def b_l_is_knot : DS := (sSeq (sIf (dOr (dNot (dTr (dUn (gIsi "list") (dV 2)))) (dNot (dTr (dApp gAll (dCons (dLc false (dSeq (dV 2)) (dgName 3) dYes (dAndV (dUn (gIsi "int") (dV 3)) (dNotV (dUn (gIsi "bool") (dV 3)))) [3]) dNil))))) (sRet (dC (.bl false))) sNext)
  (sSeq (sIf (dOr (dTB (dBin (gEq true) (dV 2) (dApp (gSorted false) (dCons (dV 2) dNil)))) (dNot (dTr (dApp gAll (dCons (dLc false (dSeq (dV 2)) (dgName 3) dYes (dCh gLe gLt (dC (.int 0)) (dV 3) (dApp gLen (dCons (dV 1) dNil))) [3]) dNil))))) (sRet (dC (.bl false))) sNext)
  (sSeq (sIf (dNot (dTr (dApp gAll (dCons (dLc false (dRg1 (dCons (dBin gSub (dApp gLen (dCons (dV 2) dNil)) (dC (.int 1))) dNil)) (dgName 3) dYes (dBin gLt (dBin gIx (dV 2) (dV 3)) (dBin gIx (dV 2) (dBin (gAdd false) (dV 3) (dC (.int 1))))) [3]) dNil)))) (sRet (dC (.bl false))) sNext)
  (sSeq (sIf (dTr (dApp (gFn 2 F_l_holds) (dCons (dV 0) (dCons (dLc false (dSeq (dV 2)) (dgName 3) dYes (dBin gIx (dV 1) (dV 3)) [3]) dNil)))) (sRet (dC (.bl false))) sNext)
  (sRet (dApp gAll (dCons (dLc false (dSeq (dV 2)) (dgName 4) dYes (dApp (gFn 2 F_l_holds) (dCons (dV 0) (dCons (dLc false (dSeq (dV 2)) (dgName 3) (dTB (dBin (gEq true) (dV 3) (dV 4))) (dBin gIx (dV 1) (dV 3)) [3]) dNil))) [4]) dNil)))))))
theorem l_hold_eq {n : Nat} {rs : List Rec} {x : Va} {s : Sto} (hF : Fits n rs) (hx : seqL x s = some (rs.map Rec.va)) : F_l_holds [.int n, x] s = .ok (.bl (holdB n rs)) s := by
  unfold F_l_holds
  simp only [hx, recsOf_map]
  rw [if_pos ⟨by omega, by rw [Int.toNat_natCast]; exact hF⟩, Int.toNat_natCast]
theorem nats_ints (l : List Nat) : natsV l = (l.map fun i : Nat => (i : Int)).map .int := by
  unfold natsV
  rw [List.map_map]
  rfl
theorem asc_len : ∀ {l : List Nat} {m k : Nat}, l.Pairwise (· < ·) → (∀ i ∈ l, k ≤ i ∧ i < m) → l.length + k ≤ max m k
  | [], m, k, _, _ => by simp; omega
  | a :: l, m, k, h, hl => by
    have h2 := List.pairwise_cons.mp h
    have ha := hl a List.mem_cons_self
    have := asc_len (m := m) (k := a + 1) h2.2 (fun i hi => ⟨h2.1 i hi, (hl i (List.mem_cons_of_mem _ hi)).2⟩)
    rw [List.length_cons]
    omega
theorem asc_srt {l : List Nat} (h : l.Pairwise (· < ·)) : srtI (l.map fun i : Nat => (i : Int)) = l.map fun i : Nat => (i : Int) := by
  refine perm_eq (srtI_perm _) (srtI_sorted _) ?_
  rw [List.pairwise_map]
  exact h.imp fun q => by omega
theorem gIx_nat {l : List Nat} {i : Nat} {s : Sto} (h : i < l.length) : gIx (.lst (natsV l)) (.int (i : Nat)) s = .ok (.int (l.getD i 0 : Nat)) s := by
  rw [gIx_at (xs := natsV l) rfl (by unfold natsV; rw [List.length_map]; exact h)]
  unfold natsV
  rw [getD_map (fun i : Nat => Va.int i) l i 0 .non h]
theorem is_knot_run {n : Nat} {rs : List Rec} {x : Va} {s : Sto} {l : List Nat} (h : IsK n rs (natsV l) l) (hx : seqL x s = some (rs.map Rec.va)) : b_l_is_knot [some (.int n), some x, some (.lst (natsV l)), none, none] s = .ret (.bl (isKnotB n rs l)) s := by
  obtain ⟨hF, _, ha, hl⟩ := h
  have hlen : l.length ≤ 10000 := by
    have := asc_len (m := rs.length) (k := 0) ha (fun i hi => ⟨Nat.zero_le _, hl i hi⟩)
    have := hF.2.1
    omega
  have ln : (natsV l).length = l.length := by unfold natsV; rw [List.length_map]
  have hrl := len_recs hx
  have sd : ∀ (e3 e4 : Option Va), dSeq (dV 2) [some (.int n), some x, some (.lst (natsV l)), e3, e4] s = .ok (none, l.map fun i => Va.int (i : Nat)) s := fun e3 e4 => seq_lst rfl
  have A1 := all_lc (fun i => Va.int (i : Nat)) (fun _ => true) (j := 3) (del := dAndV (dUn (gIsi "int") (dV 3)) (dNotV (dUn (gIsi "bool") (dV 3)))) (l := l) (sd none none) (by omega) (fun a _ => by simp [wip, truA])
  have A2 := all_lc (fun i => Va.int (i : Nat)) (fun _ => true) (j := 3) (del := dCh gLe gLt (dC (.int 0)) (dV 3) (dApp gLen (dCons (dV 1) dNil))) (l := l) (sd none none) (by omega) (fun a hm => by
    have := hl a hm
    have h1 : (0 : Int) ≤ a := by omega
    have h2 : (a : Int) < rs.length := by omega
    unfold dCh
    simp [wip, hrl, h1, h2])
  have rd : dRg1 (dCons (dBin gSub (dApp gLen (dCons (dV 2) dNil)) (dC (.int 1))) dNil) [some (.int n), some x, some (.lst (natsV l)), none, none] s = .ok (none, (List.range (l.length - 1)).map fun i => Va.int (i : Nat)) s := by
    have hr : inR ((l.length : Int) - 1) := ⟨by omega, by omega⟩
    have e : rgA 0 ((l.length : Int) - 1) = (List.range (l.length - 1)).map fun i => Va.int (i : Nat) := by
      unfold rgA
      rw [show ((l.length : Int) - 1 - 0).toNat = l.length - 1 by omega]
      apply List.map_congr_left
      intro i _
      rw [Int.zero_add]
    simp [ln, hr, e]
  have A3 := all_lc (fun i => Va.int (i : Nat)) (fun _ => true) (j := 3) (del := dBin gLt (dBin gIx (dV 2) (dV 3)) (dBin gIx (dV 2) (dBin (gAdd false) (dV 3) (dC (.int 1))))) (l := List.range (l.length - 1)) rd (by rw [List.length_range]; omega) (fun a hm => by
    have hm := List.mem_range.mp hm
    have g1 := gIx_nat (l := l) (i := a) (s := s) (by omega)
    have g2 := gIx_nat (l := l) (i := a + 1) (s := s) (by omega)
    have e : ((a : Int) + 1) = ((a + 1 : Nat) : Int) := by omega
    have lt : l.getD a 0 < l.getD (a + 1) 0 := by
      rw [List.getD_eq_getElem?_getD, List.getD_eq_getElem?_getD, List.getElem?_eq_getElem (by omega), List.getElem?_eq_getElem (by omega)]
      exact List.pairwise_iff_getElem.mp ha a (a + 1) (by omega) (by omega) (by omega)
    have lt2 : ((l.getD a 0 : Nat) : Int) < ((l.getD (a + 1) 0 : Nat) : Int) := by omega
    simp only [wip, List.foldl, List.set, e_Bin, e_V, List.getElem?_cons_zero, List.getElem?_cons_succ, bind_ok, e_C, g_add_int, e, g1, g2, g_lt, decide_eq_true lt2])
  have at_true : ∀ {α : Type} (q : List α), q.all (fun _ => true) = true := fun q => List.all_eq_true.mpr fun _ _ => rfl
  rw [at_true] at A1 A2 A3
  have hq : leq (natsV l).length 100000 := by unfold leq; omega
  have L4 := pick_recs (ε := [some (.int n), some x, some (.lst (natsV l)), none, none]) (j := 3) (v := 1) hx l hl (fun _ => rfl) (fun _ => rfl)
  have A4 : dLc false (dSeq (dV 2)) (dgName 3) dYes (dBin gIx (dV 1) (dV 3)) [3] [some (.int n), some x, some (.lst (natsV l)), none, none] s = .ok (.lst ((subR rs l).map Rec.va)) s := by
    rw [e_Lc, seq_lst (xs := natsV l) rfl]
    simp only [bind_ok, hq, if_true, L4, g_mkL_f]
  have H4 := l_hold_eq (s := s) (x := .lst ((subR rs l).map Rec.va)) (subR_fits hF hl hlen) rfl
  have A5 := all_lc (fun i => Va.int (i : Nat)) (fun k => holdB n (subR rs (l.filter fun i => decide (i ≠ k)))) (j := 4) (del := dApp (gFn 2 F_l_holds) (dCons (dV 0) (dCons (dLc false (dSeq (dV 2)) (dgName 3) (dTB (dBin (gEq true) (dV 3) (dV 4))) (dBin gIx (dV 1) (dV 3)) [3]) dNil))) (l := l) (sd none none) (by omega) (fun a hm => by
    have hm2 : ∀ i ∈ l.filter (fun i => decide (i ≠ a)), i < rs.length := fun i hi => hl i (List.mem_filter.mp hi).1
    have L := cl_map (fun i : Nat => Va.int i) (fun i => (rs.getD i (.kind 0 "")).va) (j := 3) (dt := dTB (dBin (gEq true) (dV 3) (dV 4))) (del := dBin gIx (dV 1) (dV 3)) (ε := wip ((wip [some (.int n), some x, some (.lst (natsV l)), none, none] [4]).set 4 (some (.int a))) [3]) (s := s) (fun i => decide (i ≠ a)) l [] (fun i _ => by
      simp [wip]
      by_cases h : i = a
      · simp [h]
      · have : ¬ (i : Int) = a := by omega
        simp [h, this]) (fun i hi _ => by
      rw [e_Bin, e_V]
      simp only [wip, List.foldl, List.set, List.getElem?_cons_zero, List.getElem?_cons_succ, bind_ok, e_V]
      rw [gIx_at (seqA_L hx) (by rw [List.length_map]; exact hl i hi), getD_map Rec.va rs i (.kind 0 "") .non (hl i hi)])
    rw [List.nil_append] at L
    have L2 : cl none (dgName 3) (dTB (dBin (gEq true) (dV 3) (dV 4))) (dBin gIx (dV 1) (dV 3)) (wip ((wip [some (.int n), some x, some (.lst (natsV l)), none, none] [4]).set 4 (some (.int a))) [3]) (natsV l) [] s = .ok ((subR rs (l.filter fun i => decide (i ≠ a))).map Rec.va) s := by
      unfold subR
      rw [List.map_map]
      exact L
    have H5 := l_hold_eq (s := s) (x := .lst ((subR rs (l.filter fun i => decide (i ≠ a))).map Rec.va)) (subR_fits hF hm2 (Nat.le_trans (List.length_filter_le ..) hlen)) rfl
    have D : dLc false (dSeq (dV 2)) (dgName 3) (dTB (dBin (gEq true) (dV 3) (dV 4))) (dBin gIx (dV 1) (dV 3)) [3] ((wip [some (.int n), some x, some (.lst (natsV l)), none, none] [4]).set 4 (some (.int a))) s = .ok (.lst ((subR rs (l.filter fun i => decide (i ≠ a))).map Rec.va)) s := by
      rw [e_Lc, seq_lst (xs := natsV l) rfl]
      simp only [bind_ok, hq, if_true, L2, g_mkL_f]
    have v0 : dV 0 ((wip [some (.int n), some x, some (.lst (natsV l)), none, none] [4]).set 4 (some (.int a))) s = .ok (.int n) s := rfl
    rw [e_App, e_Cons, v0]
    simp only [bind_ok]
    rw [e_Cons, D]
    simp only [bind_ok, e_Nil]
    exact H5)
  have hs : gSorted false [.lst (natsV l)] s = .ok (.lst (natsV l)) s := by
    unfold gSorted
    dsimp only
    rw [show seqL (.lst (natsV l)) s = some (natsV l) from rfl]
    dsimp only
    rw [nats_ints, intsOf_map]
    dsimp only
    rw [asc_srt ha]
    rfl
  have he : gEq true (.lst (natsV l)) (.lst (natsV l)) s = .ok (.bl false) s := by
    rw [nats_ints, g_eq_ints, decide_eq_true rfl]
    rfl
  unfold b_l_is_knot isKnotB
  generalize dApp gAll (dCons (dLc false (dSeq (dV 2)) (dgName 3) dYes (dAndV (dUn (gIsi "int") (dV 3)) (dNotV (dUn (gIsi "bool") (dV 3)))) [3]) dNil) = B1 at A1 ⊢
  generalize dApp gAll (dCons (dLc false (dSeq (dV 2)) (dgName 3) dYes (dCh gLe gLt (dC (.int 0)) (dV 3) (dApp gLen (dCons (dV 1) dNil))) [3]) dNil) = B2 at A2 ⊢
  generalize dApp gAll (dCons (dLc false (dRg1 (dCons (dBin gSub (dApp gLen (dCons (dV 2) dNil)) (dC (.int 1))) dNil)) (dgName 3) dYes (dBin gLt (dBin gIx (dV 2) (dV 3)) (dBin gIx (dV 2) (dBin (gAdd false) (dV 3) (dC (.int 1))))) [3]) dNil) = B3 at A3 ⊢
  generalize dLc false (dSeq (dV 2)) (dgName 3) dYes (dBin gIx (dV 1) (dV 3)) [3] = B4 at A4 ⊢
  generalize dApp gAll (dCons (dLc false (dSeq (dV 2)) (dgName 4) dYes (dApp (gFn 2 F_l_holds) (dCons (dV 0) (dCons (dLc false (dSeq (dV 2)) (dgName 3) (dTB (dBin (gEq true) (dV 3) (dV 4))) (dBin gIx (dV 1) (dV 3)) [3]) dNil))) [4]) dNil) = B5 at A5 ⊢
  cases hb : holdB n (subR rs l) with
  | true =>
    rw [hb] at H4
    simp [A1, A2, A3, A4, H4, hs, he, truA]
  | false =>
    rw [hb] at H4
    simp [A1, A2, A3, A4, A5, H4, hs, he, truA]
theorem fin_l_is_knot (args : List Va) (s : Sto) (wf : WFn s.length s) (wa : vasB s.length args) (hl : args.length = 3) : Fin s.length (b_l_is_knot (startA 5 args) s) (F_l_is_knot args s) := by
  unfold F_l_is_knot
  split
  · split
    · split
      · split
        · rename_i n x ys _ xs e1 _ _ rs ks e2 e3 hc
          obtain ⟨h0, hK⟩ := hc
          rw [recsOf_eq e2] at e1
          obtain ⟨N, rfl⟩ := Int.eq_ofNat_of_zero_le h0
          rw [Int.toNat_natCast] at hK ⊢
          have e := hK.nats
          generalize ks.map Int.toNat = l at hK e ⊢
          subst e
          exact Fin.ret1 (is_knot_run hK e1) trivial wf
        · exact .bad
      · exact .bad
    · exact .bad
  · exact .bad
theorem is_knot_eq {n : Nat} {rs : List Rec} {x : Va} {s : Sto} {l : List Nat} (h : IsK n rs (natsV l) l) (hx : seqL x s = some (rs.map Rec.va)) : F_l_is_knot [.int n, x, .lst (natsV l)] s = .ok (.bl (isKnotB n rs l)) s := by
  have e : (l.map fun i : Nat => (i : Int)).map Int.toNat = l := by
    rw [List.map_map, show (Int.toNat ∘ fun i : Nat => (i : Int)) = id from funext fun i => Int.toNat_natCast i, List.map_id]
  unfold F_l_is_knot
  simp only [hx, recsOf_map]
  rw [show intsOf (natsV l) = some (l.map fun i : Nat => (i : Int)) from by rw [nats_ints, intsOf_map]]
  dsimp only
  rw [e, Int.toNat_natCast, if_pos ⟨by omega, h⟩]
/-- what the program tells is a knot -/
theorem told_knot {n : Nat} {rs : List Rec} (hF : Fits n rs) (hb : holdB n rs = false) : ∃ l, knotV n rs = .lst (natsV l) ∧ IsK n rs (natsV l) l ∧ isKnotB n rs l = true := by
  have hall : subR rs (List.range rs.length) = rs := by
    unfold subR
    apply List.ext_getElem?
    intro i
    rw [List.getElem?_map]
    by_cases h : i < rs.length
    · rw [List.getElem?_range h, List.getElem?_eq_getElem h]
      show some (rs.getD i _) = _
      rw [List.getD_eq_getElem?_getD, List.getElem?_eq_getElem h]
      rfl
    · rw [List.getElem?_eq_none (by rw [List.length_range]; omega), List.getElem?_eq_none (by omega)]
      rfl
  have lr : ∀ i ∈ List.range rs.length, i < rs.length := fun i hi => List.mem_range.mp hi
  obtain ⟨h1, h2⟩ := shrink_knot hF (List.range rs.length) (List.range rs.length) lr (by rw [hall]; exact hb)
  have hs := shrink_sub n rs (List.range rs.length) (List.range rs.length)
  refine ⟨shrink n rs (List.range rs.length) (List.range rs.length), ?_, ⟨hF, rfl, List.Pairwise.sublist hs List.pairwise_lt_range, fun i hi => lr i (hs.subset hi)⟩, ?_⟩
  · unfold knotV
    rw [hb]
    rfl
  · unfold isKnotB
    rw [h1, List.all_eq_true.mpr fun k hk => h2 k (hs.subset hk) hk]
    rfl
end Dn

set_option Elab.async false
set_option linter.all false
set_option maxRecDepth 100000
set_option maxHeartbeats 4000000
/-! Dn, part Z: the law's years and kept records: a stream and one new list. -/
namespace Dn
open PySem PySem.Spec PyProof.Rows L2
/-- the store with the stream at a and a new list behind -/
def Yst (s : Sto) (a : Nat) (t : Stm) (xs : List Va) : Sto := s.set a t.ob ++ [.lst xs]
section
variable {s : Sto} {a : Nat} {t : Stm} {xs : List Va}
theorem Yst_at (la : a < s.length) : stAt (Yst s a t xs) a = some t := by
  refine stAt_of ?_
  unfold Yst
  rw [List.getElem?_append_left (by rw [List.length_set]; exact la), List.getElem?_set_self la]
theorem Yst_top : (Yst s a t xs)[s.length]? = some (.lst xs) := by
  unfold Yst
  rw [show s.length = (s.set a t.ob).length by rw [List.length_set]]
  exact List.getElem?_concat_length
theorem Yst_set {u : Stm} (la : a < s.length) : (Yst s a t xs).set a u.ob = Yst s a u xs := by
  unfold Yst
  rw [List.set_append_left _ _ (by rw [List.length_set]; exact la), List.set_set]
theorem drawY {m : Int} (la : a < s.length) (h1 : 0 < m) (h2 : m < 1073741824) : F_l_draw [.ref a, .int m] (Yst s a t xs) = .ok (.int (t.draw m).1) (Yst s a (t.draw m).2 xs) := by
  rw [draw_eq (Yst_at la) h1 h2, Yst_set la]
theorem pickY (la : a < s.length) (h1 : 0 < xs.length) (h2 : xs.length < 1073741824) : F_l_pick [.ref a, .ref s.length] (Yst s a t xs) = .ok (xs.getD (t.draw xs.length).1.toNat .non) (Yst s a (t.draw xs.length).2 xs) := by
  unfold F_l_pick
  simp only [Yst_at la, Yst_top]
  rw [if_pos ⟨h1, h2, by omega⟩, Yst_set la]
theorem appY {x : Va} (h : xs.length ≤ 1000000) : gAppend (.ref s.length) [x] (Yst s a t xs) = .ok .non (Yst s a t (xs ++ [x])) := by
  unfold gAppend
  have hq : leq xs.length 1000000 := h
  simp only [Yst_top, hq, if_true]
  unfold Yst
  rw [List.set_append_right _ _ (by rw [List.length_set]; exact Nat.le_refl _), List.length_set, Nat.sub_self]
  rfl
theorem isLY : isL (.ref s.length) (Yst s a t xs) = true := by
  unfold isL seqL
  simp only [Yst_top]
  rfl
end
noncomputable def yearBody : DS := (sIf (dAnd (dTr (dV 3)) (dTB (dBin (gEq false) (dApp (gFn 2 F_l_draw) (dCons (dV 0) (dCons (dC (.int 6)) dNil))) (dC (.int 0))))) (sDrop (dMt gAppend (dV 3) (dCons (dApp (gFn 2 F_l_pick) (dCons (dV 0) (dCons (dV 3) dNil))) dNil))) (sDrop (dMt gAppend (dV 3) (dCons (dBin gSub (dApp (gFn 2 F_l_draw) (dCons (dV 0) (dCons (dBin (gAdd false) (dBin (gMul false) (dC (.int 2)) (dV 2)) (dC (.int 1))) dNil))) (dV 2)) dNil))))
noncomputable def b_l_years : DS := (sSeq (sSet 2 (dApp (gFn 2 F_l_pick) (dCons (dV 0) (dCons (dLst false (dCons (dC (.int 20)) (dCons (dC (.int 300)) (dCons (dC (.int 15000)) dNil)))) dNil))))
  (sSeq (sSet 3 (dLst true dNil))
  (sSeq (sFor (dRg1 (dCons (dV 1) dNil)) (dgName 4)
   yearBody)
  (sRet (dV 3)))))
theorem truY {s : Sto} {a : Nat} {t : Stm} {xs : List Va} : truA (.ref s.length) (Yst s a t xs) = some (!xs.isEmpty) := by
  unfold truA
  have h : seqA (.ref s.length) (Yst s a t xs) = some xs := by
    unfold seqA
    simp only [Yst_top]
  simp only [h]
theorem year_turn {s : Sto} {a : Nat} {t : Stm} {ys : List Int} {w : Int} {e1 e4 : Option Va} (la : a < s.length) (hw : 0 < w ∧ w ≤ 20000) (hn : ys.length ≤ 1000) :
    ∃ (y : Int) (u : Stm), yearBody [some (.ref a), e1, some (.int w), some (.ref s.length), e4] (Yst s a t (ys.map .int)) = .nx [some (.ref a), e1, some (.int w), some (.ref s.length), e4] (Yst s a u ((ys ++ [y]).map .int)) := by
  have ln : (ys.map Va.int).length = ys.length := List.length_map ..
  have ap : ∀ (u : Stm) (y : Int), gAppend (.ref s.length) [.int y] (Yst s a u (ys.map .int)) = .ok .non (Yst s a u ((ys ++ [y]).map .int)) := fun u y => by
    rw [appY (by omega), List.map_append]
    rfl
  have d6 := drawY (t := t) (xs := ys.map .int) (m := 6) la (by decide) (by decide)
  have hm := (@cmul_l 2 w (by omega))
  cases ys with
  | nil =>
    have dw := drawY (t := t) (xs := []) (m := 2 * w + 1) la (by omega) (by omega)
    refine ⟨(t.draw (2 * w + 1)).1 - w, (t.draw (2 * w + 1)).2, ?_⟩
    have tr := truY (s := s) (a := a) (t := t) (xs := [])
    have ap := ap (t.draw (2 * w + 1)).2 ((t.draw (2 * w + 1)).1 - w)
    have il := isLY (s := s) (a := a) (t := t) (xs := [])
    unfold yearBody
    simp only [List.map_nil] at ap ⊢
    simp [tr, dw, il, ap, hm]
  | cons y0 r =>
    have tr := truY (s := s) (a := a) (t := t) (xs := (y0 :: r).map .int)
    have tr2 : truA (.ref s.length) (Yst s a t ((y0 :: r).map .int)) = some true := by rw [tr]; rfl
    have il := isLY (s := s) (a := a) (t := t) (xs := (y0 :: r).map .int)
    have il2 := isLY (s := s) (a := a) (t := (t.draw 6).2) (xs := (y0 :: r).map .int)
    by_cases h0 : (t.draw 6).1 = 0
    · have pk := pickY (t := (t.draw 6).2) (xs := (y0 :: r).map .int) la (by rw [ln]; simp) (by rw [ln]; omega)
      have hi := (t.draw 6).2.draw_in (m := (((y0 :: r).map Va.int).length : Int)) (by rw [ln]; simp)
      rw [getD_map Va.int (y0 :: r) _ 0 .non (by have g1 := hi.1; have g2 := hi.2; rw [← ln]; omega)] at pk
      have ap := ap ((t.draw 6).2.draw (((y0 :: r).map Va.int).length : Int)).2 ((y0 :: r).getD ((t.draw 6).2.draw (((y0 :: r).map Va.int).length : Int)).1.toNat 0)
      refine ⟨(y0 :: r).getD ((t.draw 6).2.draw (((y0 :: r).map Va.int).length : Int)).1.toNat 0, ((t.draw 6).2.draw (((y0 :: r).map Va.int).length : Int)).2, ?_⟩
      unfold yearBody
      generalize (y0 :: r).map Va.int = V at d6 tr2 il il2 pk ap ⊢
      simp [tr2, d6, h0, il2, pk, ap, -List.getD_eq_getElem?_getD, -List.map_cons, -List.map_append, -List.cons_append]
    · have dw := drawY (t := (t.draw 6).2) (xs := (y0 :: r).map .int) (m := 2 * w + 1) la (by omega) (by omega)
      have ap := ap ((t.draw 6).2.draw (2 * w + 1)).2 (((t.draw 6).2.draw (2 * w + 1)).1 - w)
      refine ⟨((t.draw 6).2.draw (2 * w + 1)).1 - w, ((t.draw 6).2.draw (2 * w + 1)).2, ?_⟩
      unfold yearBody
      generalize (y0 :: r).map Va.int = V at d6 tr2 il il2 dw ap ⊢
      simp [tr2, d6, h0, il2, dw, hm, ap, -List.getD_eq_getElem?_getD, -List.map_cons, -List.map_append, -List.cons_append]
theorem year_loop {s : Sto} {a : Nat} {w : Int} {e1 : Option Va} (la : a < s.length) (hw : 0 < w ∧ w ≤ 20000) : ∀ (l : List Va) (t : Stm) (ys : List Int) (e4 : Option Va), ys.length + l.length ≤ 1000 →
    ∃ (zs : List Int) (u : Stm) (f4 : Option Va), lp none (fBody (dgName 4) yearBody) l [some (.ref a), e1, some (.int w), some (.ref s.length), e4] (Yst s a t (ys.map .int)) = .nx [some (.ref a), e1, some (.int w), some (.ref s.length), f4] (Yst s a u (zs.map .int)) ∧ zs.length = ys.length + l.length
  | [], t, ys, e4, _ => ⟨ys, t, e4, lp_nil, rfl⟩
  | k :: l, t, ys, e4, h => by
    rw [List.length_cons] at h
    obtain ⟨y, u, hb⟩ := year_turn (t := t) (ys := ys) (e1 := e1) (e4 := some k) la hw (by omega)
    obtain ⟨zs, u2, f4, ih, hz⟩ := year_loop (e1 := e1) la hw l u (ys ++ [y]) (some k) (by rw [List.length_append, List.length_singleton]; omega)
    refine ⟨zs, u2, f4, ?_, by rw [hz, List.length_append, List.length_singleton, List.length_cons]; omega⟩
    rw [lp_cons]
    have hb2 : fBody (dgName 4) yearBody k [some (.ref a), e1, some (.int w), some (.ref s.length), e4] (Yst s a t (ys.map .int)) = _ := hb
    rw [hb2]
    exact ih
def P_years (args : List Va) (s : Sto) (r : Rs Va) : Prop := ∃ (a n : Nat) (ys : List Int) (u : Stm), args = [.ref a, .int n] ∧ r = .ok (.lst (ys.map .int)) (s.set a u.ob) ∧ ys.length = n
noncomputable def F_l_years : List Va → Sto → Rs Va := mir 5 b_l_years P_years
theorem years_eq {s : Sto} {a n : Nat} {t : Stm} (wf : WFn s.length s) (h : stAt s a = some t) (hn : n ≤ 1000) : ∃ (ys : List Int) (u : Stm), F_l_years [.ref a, .int n] s = .ok (.lst (ys.map .int)) (s.set a u.ob) ∧ ys.length = n := by
  have la := stAt_lt h
  have hd := t.draw_in (m := 3) (by decide)
  have pk := pick_eq (xs := [Va.int 20, .int 300, .int 15000]) h (show 0 < 3 by decide) (show 3 < 1073741824 by decide)
  have hw : ∃ w : Int, [Va.int 20, .int 300, .int 15000].getD (t.draw 3).1.toNat .non = .int w ∧ 0 < w ∧ w ≤ 20000 := by
    have hm := getD_mem (xs := [Va.int 20, .int 300, .int 15000]) (d := .non) (show (t.draw 3).1.toNat < 3 by omega)
    simp only [List.mem_cons, List.not_mem_nil, or_false] at hm
    rcases hm with hm | hm | hm <;> exact ⟨_, hm, by decide, by decide⟩
  obtain ⟨w, hw1, hw2⟩ := hw
  have pk : F_l_pick [.ref a, .lst [Va.int 20, .int 300, .int 15000]] s = .ok (.int w) (s.set a (t.draw 3).2.ob) := by
    rw [← hw1]
    exact pk
  obtain ⟨zs, u, f4, L, hz⟩ := year_loop (s := s) (a := a) (w := w) (e1 := some (.int n)) la hw2 (rgA 0 (n : Int)) (t.draw 3).2 [] none (by rw [rgA_len, List.length_nil]; omega)
  have hr : inR (n : Int) := ⟨by omega, by omega⟩
  have hlen : (s.set a (t.draw 3).2.ob).length = s.length := List.length_set
  have e : b_l_years (startA 5 [.ref a, .int n]) s = .ret (.ref s.length) (s.set a u.ob ++ [.lst (zs.map .int)]) := by
    have e0 : startA 5 [.ref a, .int n] = [some (.ref a), some (.int n), none, none, none] := rfl
    rw [e0]
    unfold b_l_years
    have L2 : lp none (fBody (dgName 4) yearBody) (rgA 0 (n : Int)) [some (.ref a), some (.int n), some (.int w), some (.ref s.length), none] (s.set a (t.draw 3).2.ob ++ [.lst []]) = _ := L
    simp only [e_seq, e_set, e_App, e_Cons, e_Nil, e_Lst, e_C, e_V, List.set, List.getElem?_cons_zero, List.getElem?_cons_succ, bind_ok, g_mkL_f, gFn, List.length_cons, List.length_nil, if_true, pk, fl_ok, g_mkL_t, hlen, e_for, e_rg1, hr, L2, e_ret]
    rfl
  have hf : Fin s.length (b_l_years (startA 5 [.ref a, .int n]) s) (.ok (.lst (zs.map .int)) (s.set a u.ob)) := Fin.frzS e List.length_set vasB_ints (wf_set wf (Stm.b _ _))
  have hP := mir_p (P := P_years) ⟨a, n, zs, u, rfl, rfl, by rw [hz, List.length_nil, rgA_len]; omega⟩ hf
  obtain ⟨a', n', ys, u', h1, h2, h3⟩ := hP
  injection h1 with h4 h5
  injection h4 with h4
  injection h5 with h5 _
  injection h5 with h5
  subst h4
  have h5 : (n : Int) = n' := h5
  exact ⟨ys, u', h2, by omega⟩
theorem fin_l_years (args : List Va) (s : Sto) (wf : WFn s.length s) (wa : vasB s.length args) (hl : args.length = 2) : Fin s.length (b_l_years (startA 5 args) s) (F_l_years args s) := fin_mir args s
end Dn

set_option Elab.async false
set_option linter.all false
set_option maxRecDepth 100000
set_option maxHeartbeats 4000000
/-! k03: the law. -/
namespace Dn
open PySem PySem.Spec PyProof.Rows L2
theorem other_in {t : Stm} {n a : Int} (h : 1 ≤ n) : 0 ≤ (otherM t n a).1 ∧ (otherM t n a).1 < n := ⟨Int.emod_nonneg _ (by omega), Int.emod_lt_of_pos _ (by omega)⟩
theorem recordM_fits {t : Stm} {n : Int} {words : List Str} (h : 1 ≤ n) : (recordM t n words).1.fits n := by
  unfold recordM
  have hq := (t.draw words.length).2.draw_in (m := n) (by omega)
  generalize ((t.draw words.length).2.draw n).1 = A at hq ⊢
  generalize ((t.draw words.length).2.draw n).2 = u
  have ho := other_in (t := u) (a := A) h
  unfold recordW
  dsimp only
  split
  · exact hq
  · split
    · split
      · exact hq
      · exact hq
    · split
      · exact ⟨hq, ho⟩
      · split
        · exact ⟨hq, ho⟩
        · exact ⟨hq, ho⟩
noncomputable def el03 : DE := (dApp (gFn 2 F_l_pick) (dCons (dV 1) (dCons (dLst false (dCons (dApp (gFn 2 F_l_draw) (dCons (dV 1) (dCons (dC (.int 30)) dNil))) (dCons (dUn gNeg (dBin gPow (dC (.int 10)) (dC (.int 30)))) (dCons (dBin gPow (dC (.int 10)) (dC (.int 30))) dNil)))) dNil)))
noncomputable def p3 : DS := (sIf (dTB (dBin (gIn false) (dBin gIx (dV 4) (dC (.int 0))) (dTup (dCons (dC (.str "since")) (dCons (dC (.str "until")) dNil))))) (sSetIx (dV 5) (dBin gIx (dV 4) (dC (.int 1))) (dBin gSub (dBin (gAdd false) (dBin gIx (dV 4) (dC (.int 2))) (dApp (gFn 2 F_l_draw) (dCons (dV 1) (dCons (dC (.int 3)) dNil)))) (dC (.int 1)))) (sIf (dAnd (dTB (dBin (gEq true) (dBin gIx (dV 4) (dC (.int 0))) (dC (.str "kind")))) (dTB (dBin gGt (dApp (gFn 2 F_l_draw) (dCons (dV 1) (dCons (dC (.int 3)) dNil))) (dC (.int 0))))) (sSeq (sSet 7 (dC (.int 0)))
  (sSeq (sIf (dTB (dBin (gEq true) (dBin gIx (dV 4) (dC (.int 0))) (dC (.str "same")))) (sSet 7 (dBin gIx (dV 4) (dC (.int 3)))) sNext)
  (sSetIx (dV 5) (dBin gIx (dV 4) (dC (.int 2))) (dBin gSub (dBin (gAdd false) (dBin (gAdd false) (dBin gIx (dV 5) (dBin gIx (dV 4) (dC (.int 1)))) (dV 7)) (dApp (gFn 2 F_l_draw) (dCons (dV 1) (dCons (dC (.int 3)) dNil)))) (dC (.int 1)))))) sNext))
noncomputable def p4 : DS := (sIf (dNot (dTr (dApp (gFn 2 (F_l_same 6)) (dCons (dApp (gFn 2 F_keeps) (dCons (dV 4) (dCons (dApp (gList false) (dCons (dV 5) dNil)) dNil))) (dCons (dApp (gFn 2 F_l_keeps) (dCons (dV 4) (dCons (dV 5) dNil))) dNil))))) (sRet (dC (.bl false))) sNext)
noncomputable def body03 : DS := (sSeq (sSet 4 (dApp (gFn 3 F_l_record) (dCons (dV 1) (dCons (dV 2) (dCons (dLst false (dCons (dC (.str "before")) (dCons (dC (.str "same")) (dCons (dC (.str "within")) (dCons (dC (.str "since")) (dCons (dC (.str "until")) (dCons (dC (.str "kind")) dNil))))))) dNil)))))
  (sSeq (sSet 5 (dLc true (dRg1 (dCons (dV 2) dNil)) (dgName 6) dYes el03 [6]))
  (sSeq p3
  p4)))
noncomputable def b_law03 : DS := (sSeq (sSet 1 (dApp (gFn 1 F_l_stream) (dCons (dV 0) dNil)))
  (sSeq (sSet 2 (dApp (gFn 1 F_l_units) (dCons (dV 1) dNil)))
  (sSeq (sFor (dRg1 (dCons (dC (.int 6)) dNil)) (dgName 3)
   body03)
  (sRet (dC (.bl true))))))
theorem set_self {s : Sto} {a : Nat} {t : Stm} (h : stAt s a = some t) : s = s.set a t.ob := (set_same (stAt_get h)).symm
theorem years_loop {e0 e2 e3 e4 e5 e7 : Option Va} {a : Nat} : ∀ (l acc : List Int) (s : Sto) (t : Stm) (e6 : Option Va), stAt s a = some t → ∃ (ys : List Int) (t' : Stm), cl none (dgName 6) dYes el03 [e0, some (.ref a), e2, e3, e4, e5, e6, e7] (l.map .int) (acc.map .int) s = .ok ((acc ++ ys).map .int) (s.set a t'.ob) ∧ ys.length = l.length
  | [], acc, s, t, e6, h => ⟨[], t, by rw [List.map_nil, cl_nil, List.append_nil, ← set_self h], rfl⟩
  | k :: l, acc, s, t, e6, h => by
    have la := stAt_lt h
    have e1 : ∃ (y : Int) (u : Stm), el03 [e0, some (.ref a), e2, e3, e4, e5, some (.int k), e7] s = .ok (.int y) (s.set a u.ob) := by
      unfold el03
      rw [set_self h]
      have q1 : CPow 10 30 := ⟨by decide, by decide, by decide⟩
      apply Exists.intro
      apply Exists.intro
      simp [draw_st la, pick3_st la, gPow, gInt2, q1, -List.getD_eq_getElem?_getD]
      exact ⟨rfl, rfl⟩
    obtain ⟨y, u, e1⟩ := e1
    obtain ⟨ys, t', e3', e4'⟩ := years_loop (e0 := e0) (e2 := e2) (e3 := e3) (e4 := e4) (e5 := e5) (e7 := e7) l (acc ++ [y]) (s.set a u.ob) u e6 (stAt_put la)
    refine ⟨y :: ys, t', ?_, by rw [List.length_cons, List.length_cons, e4']⟩
    rw [List.map_cons, cl_cons, e_dgName]
    simp only [List.set, e_Yes, noexc_ok, bind_ok, if_true, e1]
    rw [List.map_append, List.map_cons, List.map_nil] at e3'
    rw [e3', List.set_set, List.append_assoc]
    rfl
theorem ixN_in {n : Nat} {i : Int} (h0 : 0 ≤ i) (h1 : i < n) : ixN n i = some i.toNat := by
  unfold ixN
  rw [if_pos h0, if_pos (by omega)]
theorem set_yr {s : Sto} {m : Nat} {ys : List Int} {a v : Int} (hm : s[m]? = some (.lst (ys.map .int))) (h0 : 0 ≤ a) (h1 : a < ys.length) : gSetIx (.int v) (.ref m) (.int a) s = some (s.set m (.lst ((ys.set a.toNat v).map .int))) := by
  rw [g_set_ref hm (ixN_in h0 (by rw [List.length_map]; exact h1)), List.map_set]
theorem stAt_other {s : Sto} {m : Nat} {t : Stm} {o : Ob} (h : stAt s 0 = some t) (hm : 0 < m) : stAt (s.set m o) 0 = some t := by
  refine stAt_of ?_
  rw [get_set_ne (by omega)]
  exact stAt_get h
structure Aft (n m : Nat) (ε : En) (f : Fl) : Prop where
  go : ∃ (s' : Sto) (t' : Stm) (ys' : List Int) (e7 : Option Va), f = .nx (ε.set 7 e7) s' ∧ stAt s' 0 = some t' ∧ s'[m]? = some (.lst (ys'.map .int)) ∧ ys'.length = n
theorem p3_run {s : Sto} {m : Nat} {t : Stm} {ys : List Int} {r : Rec} {e0 e2 e3 e6 e7 : Option Va} (h : stAt s 0 = some t) (hm : s[m]? = some (.lst (ys.map .int))) (h0 : 0 < m) (hf : r.fits ys.length) :
    Aft ys.length m [e0, some (.ref 0), e2, e3, some r.va, some (.ref m), e6, e7] (p3 [e0, some (.ref 0), e2, e3, some r.va, some (.ref m), e6, e7] s) := by
  have d3 := draw_eq (m := 3) h (by decide) (by decide)
  have l0 := stAt_lt h
  have hm1 : (s.set 0 (t.draw 3).2.ob)[m]? = some (.lst (ys.map .int)) := by
    rw [get_set_ne (by omega)]
    exact hm
  have h1 := stAt_put (t := (t.draw 3).2) l0
  have d4 := draw_eq (m := 3) h1 (by decide) (by decide)
  have hm2 : ((s.set 0 (t.draw 3).2.ob).set 0 ((t.draw 3).2.draw 3).2.ob)[m]? = some (.lst (ys.map .int)) := by
    rw [get_set_ne (by omega)]
    exact hm1
  have h2 := stAt_put (s := s.set 0 (t.draw 3).2.ob) (t := ((t.draw 3).2.draw 3).2) (a := 0) (by rw [List.length_set]; exact l0)
  rw [List.set_set] at d4 hm2 h2
  have lm1 := (List.getElem?_eq_some_iff.mp hm1).1
  have lm2 := (List.getElem?_eq_some_iff.mp hm2).1
  have hs : seqL (.ref m) (s.set 0 (t.draw 3).2.ob) = some (ys.map .int) := by
    unfold seqL
    simp only [hm1]
  have hs2 : seqL (.ref m) s = some (ys.map .int) := by
    unfold seqL
    simp only [hm]
  unfold p3
  cases r with
  | before a b g =>
    obtain ⟨⟨a0, a1⟩, b0, b1⟩ := hf
    by_cases hd : 0 < (t.draw 3).1
    · simp [Rec.va, atI_0, atI_1, atI_2, atI_3, str_in2, d3, d4, hd, ix_yr hs a0 a1, set_yr hm2 b0 b1, -List.getD_eq_getElem?_getD, -List.map_set]
      refine ⟨_, _, _, _, rfl, stAt_other h2 h0, List.getElem?_set_self lm2, (List.length_set : (ys.set _ _).length = ys.length)⟩
    · simp [Rec.va, atI_0, atI_1, atI_2, atI_3, str_in2, d3, d4, hd, ix_yr hs a0 a1, set_yr hm2 b0 b1, -List.getD_eq_getElem?_getD, -List.map_set]
      exact ⟨_, _, _, e7, rfl, h1, hm1, rfl⟩
  | same a b =>
    obtain ⟨⟨a0, a1⟩, b0, b1⟩ := hf
    by_cases hd : 0 < (t.draw 3).1
    · simp [Rec.va, atI_0, atI_1, atI_2, atI_3, str_in2, d3, d4, hd, ix_yr hs a0 a1, set_yr hm2 b0 b1, -List.getD_eq_getElem?_getD, -List.map_set]
      refine ⟨_, _, _, _, rfl, stAt_other h2 h0, List.getElem?_set_self lm2, (List.length_set : (ys.set _ _).length = ys.length)⟩
    · simp [Rec.va, atI_0, atI_1, atI_2, atI_3, str_in2, d3, d4, hd, ix_yr hs a0 a1, set_yr hm2 b0 b1, -List.getD_eq_getElem?_getD, -List.map_set]
      exact ⟨_, _, _, e7, rfl, h1, hm1, rfl⟩
  | within a b g =>
    obtain ⟨⟨a0, a1⟩, b0, b1⟩ := hf
    by_cases hd : 0 < (t.draw 3).1
    · simp [Rec.va, atI_0, atI_1, atI_2, atI_3, str_in2, d3, d4, hd, ix_yr hs a0 a1, set_yr hm2 b0 b1, -List.getD_eq_getElem?_getD, -List.map_set]
      refine ⟨_, _, _, _, rfl, stAt_other h2 h0, List.getElem?_set_self lm2, (List.length_set : (ys.set _ _).length = ys.length)⟩
    · simp [Rec.va, atI_0, atI_1, atI_2, atI_3, str_in2, d3, d4, hd, ix_yr hs a0 a1, set_yr hm2 b0 b1, -List.getD_eq_getElem?_getD, -List.map_set]
      exact ⟨_, _, _, e7, rfl, h1, hm1, rfl⟩
  | since a y w =>
    obtain ⟨a0, a1⟩ := hf
    simp [Rec.va, atI_0, atI_1, atI_2, atI_3, str_in2, d3, set_yr hm1 a0 a1, -List.getD_eq_getElem?_getD, -List.map_set]
    exact ⟨_, _, _, e7, rfl, stAt_other h1 h0, List.getElem?_set_self lm1, (List.length_set : (ys.set _ _).length = ys.length)⟩
  | upto a y w =>
    obtain ⟨a0, a1⟩ := hf
    simp [Rec.va, atI_0, atI_1, atI_2, atI_3, str_in2, d3, set_yr hm1 a0 a1, -List.getD_eq_getElem?_getD, -List.map_set]
    exact ⟨_, _, _, e7, rfl, stAt_other h1 h0, List.getElem?_set_self lm1, (List.length_set : (ys.set _ _).length = ys.length)⟩
  | kind a k =>
    simp [Rec.va, atI_0, str_in2]
    exact ⟨_, _, _, e7, rfl, h, hm, rfl⟩
theorem keeps_eq {r : Rec} {d : Va} {ys : List Int} {s : Sto} (h : seqL d s = some (ys.map .int)) (hf : r.fits ys.length) : F_keeps [r.va, d] s = .ok (.bl (r.keeps ys)) s := by
  unfold F_keeps
  simp only [recOf_va, h, intsOf_map]
  rw [if_pos hf]
theorem same_bl {b : Bool} {s : Sto} : F_l_same 6 [.bl b, .bl b] s = .ok (.bl true) s := by
  unfold F_l_same
  simp [datB, dep, sameB]
theorem p4_run {s : Sto} {m : Nat} {ys : List Int} {r : Rec} {e0 e1 e2 e3 e6 e7 : Option Va} (hm : s[m]? = some (.lst (ys.map .int))) (hf : r.fits ys.length) :
    p4 [e0, e1, e2, e3, some r.va, some (.ref m), e6, e7] s = .nx [e0, e1, e2, e3, some r.va, some (.ref m), e6, e7] s := by
  have hs : seqL (.ref m) s = some (ys.map .int) := by
    unfold seqL
    simp only [hm]
  have hl : gList false [.ref m] s = .ok (.lst (ys.map .int)) s := by
    simp [gList, seqA, hm]
  unfold p4
  simp [hl, keeps_eq hs hf, keeps_eq (d := .lst (ys.map .int)) (s := s) rfl hf, same_bl, truA]
def Good3 (n : Int) (ε : En) (s : Sto) : Prop := ∃ (e0 e3 e4 e5 e6 e7 : Option Va) (t : Stm), ε = [e0, some (.ref 0), some (.int n), e3, e4, e5, e6, e7] ∧ stAt s 0 = some t
theorem seven : (∀ x ∈ [("before" : Str), "same", "within", "since", "until", "kind"], x ∈ sixWords) := fun _ h => h
theorem turn3 {n : Int} (h1 : 1 ≤ n) (h2 : n ≤ 12) {ε : En} {s : Sto} (k : Va) (g : Good3 n ε s) : ∃ ε' s', body03 (ε.set 3 (some k)) s = .nx ε' s' ∧ Good3 n ε' s' := by
  obtain ⟨e0, e3, e4, e5, e6, e7, t, rfl, h⟩ := g
  have l0 := stAt_lt h
  have hr : F_l_record [.ref 0, .int n, .lst [.str "before", .str "same", .str "within", .str "since", .str "until", .str "kind"]] s = .ok (recordM t n ["before", "same", "within", "since", "until", "kind"]).1.va (s.set 0 (recordM t n ["before", "same", "within", "since", "until", "kind"]).2.ob) := by
    unfold F_l_record
    have e : strsOf [.str "before", .str "same", .str "within", .str "since", .str "until", .str "kind"] = some ([("before" : Str), "same", "within", "since", "until", "kind"] : List Str) := rfl
    simp only [h, e]
    rw [if_pos ⟨h1, by omega, by decide, by decide, seven⟩]
  have hf := recordM_fits (t := t) (words := ["before", "same", "within", "since", "until", "kind"]) h1
  generalize recordM t n ["before", "same", "within", "since", "until", "kind"] = R at hr hf
  obtain ⟨r, u⟩ := R
  dsimp only at hr hf
  obtain ⟨N, hN⟩ := Int.eq_ofNat_of_zero_le (by omega : 0 ≤ n)
  subst hN
  obtain ⟨ys, t', hy, hy2⟩ := years_loop (e0 := e0) (e2 := some (.int N)) (e3 := some k) (e4 := some r.va) (e5 := e5) (e7 := e7) ((List.range N).map fun i : Nat => (0 : Int) + (i : Int)) [] (s.set 0 u.ob) u none (stAt_put l0)
  rw [List.length_map, List.length_range] at hy2
  have hlen : 0 < ((s.set 0 u.ob).set 0 t'.ob).length := by rw [List.length_set, List.length_set]; exact l0
  have hst : stAt ((s.set 0 u.ob).set 0 t'.ob ++ [.lst (ys.map .int)]) 0 = some t' := by
    refine stAt_of ?_
    rw [List.getElem?_append_left hlen]
    exact List.getElem?_set_self (by rw [List.length_set]; exact l0)
  have hm : ((s.set 0 u.ob).set 0 t'.ob ++ [.lst (ys.map .int)])[((s.set 0 u.ob).set 0 t'.ob).length]? = some (.lst (ys.map .int)) := List.getElem?_concat_length ..
  obtain ⟨s3, t3, ys3, e73, f1, f2, f3, f4⟩ := (p3_run (e0 := e0) (e2 := some (.int N)) (e3 := some k) (e6 := e6) (e7 := e7) hst hm hlen (r := r) (by rw [hy2]; exact hf)).go
  have h4 := p4_run (r := r) (e0 := e0) (e1 := some (.ref 0)) (e2 := some (.int N)) (e3 := some k) (e6 := e6) (e7 := e73) f3 (by rw [f4, hy2]; exact hf)
  refine ⟨_, s3, ?_, e0, some k, some r.va, some (.ref ((s.set 0 u.ob).set 0 t'.ob).length), e6, e73, t3, rfl, f2⟩
  have hin : inR (N : Int) := ⟨by omega, by omega⟩
  have hrg : rgA 0 (N : Int) = ((List.range N).map fun i : Nat => (0 : Int) + (i : Int)).map .int := by
    unfold rgA
    rw [Int.sub_zero, Int.toNat_natCast, List.map_map]
    rfl
  have hlq : leq (((List.range N).map fun i : Nat => (0 : Int) + (i : Int)).map Va.int).length 100000 := by
    unfold leq
    rw [List.length_map, List.length_map, List.length_range]
    omega
  have hc : cl none (dgName 6) dYes el03 (wip [e0, some (.ref 0), some (.int N), some k, some r.va, e5, e6, e7] [6]) (((List.range N).map fun i : Nat => (0 : Int) + (i : Int)).map .int) [] (s.set 0 u.ob) = .ok (ys.map .int) ((s.set 0 u.ob).set 0 t'.ob) := hy
  unfold body03
  simp only [e_seq, e_set, e_App, e_Cons, e_Nil, e_Lst, e_C, e_V, List.set, List.getElem?_cons_zero, List.getElem?_cons_succ, bind_ok, g_mkL_f, gFn, List.length_cons, List.length_nil, if_true, hr, fl_ok, e_Lc, e_rg1, hin, hrg, hlq, hc, g_mkL_t, f1, h4]
theorem loop3 {n : Int} (h1 : 1 ≤ n) (h2 : n ≤ 12) : ∀ (l : List Va) (ε : En) (s : Sto), Good3 n ε s → ∃ ε' s', lp none (fBody (dgName 3) body03) l ε s = .nx ε' s' ∧ Good3 n ε' s'
  | [], ε, s, g => ⟨ε, s, lp_nil, g⟩
  | k :: l, ε, s, g => by
    obtain ⟨ε1, s1, e1, g1⟩ := turn3 h1 h2 k g
    obtain ⟨ε2, s2, e2, g2⟩ := loop3 h1 h2 l ε1 s1 g1
    refine ⟨ε2, s2, ?_, g2⟩
    rw [lp_cons, e_fBody, e_dgName]
    dsimp only
    rw [e1]
    exact e2
/-- what a law answers that holds at every script -/
noncomputable def F_yes (args : List Va) (s : Sto) : Rs Va := match args with
  | [.ext xs] => match intsOf xs, s with
    | some _, [] => .ok (.bl true) []
    | _, _ => .bad
  | _ => .bad
theorem F_yes_eq {ns : List Int} : F_yes [.ext (ns.map .int)] [] = .ok (.bl true) [] := by
  unfold F_yes
  dsimp only
  rw [intsOf_map]
theorem Fin.yes {raw : Fl} {s0 : Sto} (h : raw = .ret (.bl true) s0) : Fin 0 raw (.ok (.bl true) []) := by
  have := Fin.ok (n := 0) (raw := raw) (v := .bl true) (.inl h) (.same _ _) trivial (fun o ho => by rw [List.take_zero] at ho; cases ho)
  rw [List.take_zero] at this
  exact this
theorem law03_run (ns : List Int) : ∃ s0, b_law03 (startA 8 [.ext (ns.map .int)]) [] = .ret (.bl true) s0 := by
  have h := unitsM_in (Stm.mk0 ns)
  have e1 : F_l_stream [.ext (ns.map .int)] [] = .ok (.ref 0) [(Stm.mk0 ns).ob] := by
    unfold F_l_stream
    dsimp only
    rw [intsOf_map]
    rfl
  have e2 : stAt [(Stm.mk0 ns).ob] 0 = some (Stm.mk0 ns) := stAt_of rfl
  have e3 : F_l_units [.ref 0] [(Stm.mk0 ns).ob] = .ok (.int (unitsM (Stm.mk0 ns)).1) [(unitsM (Stm.mk0 ns)).2.ob] := by
    unfold F_l_units
    simp only [e2]
    rfl
  obtain ⟨ε', s', e4, g⟩ := loop3 h.1 h.2 (rgA 0 6) [some (.ext (ns.map .int)), some (.ref 0), some (.int (unitsM (Stm.mk0 ns)).1), none, none, none, none, none] [(unitsM (Stm.mk0 ns)).2.ob] ⟨_, _, _, _, _, _, _, rfl, stAt_of rfl⟩
  have h6 : inR 6 := ⟨by decide, by decide⟩
  refine ⟨s', ?_⟩
  have e0 : startA 8 [.ext (ns.map .int)] = [some (.ext (ns.map .int)), none, none, none, none, none, none, none] := rfl
  rw [e0]
  unfold b_law03
  simp only [e_seq, e_set, e_App, e_Cons, e_Nil, e_C, e_V, List.set, List.getElem?_cons_zero, List.getElem?_cons_succ, bind_ok, gFn, List.length_cons, List.length_nil, if_true, e1, e3, fl_ok, e_for, e_rg1, h6, e4, e_ret]
theorem fin_law03 (args : List Va) (s : Sto) (wf : WFn s.length s) (wa : vasB s.length args) (hl : args.length = 1) : Fin s.length (b_law03 (startA 8 args) s) (F_yes args s) := by
  unfold F_yes
  split
  · split
    · rename_i e
      rw [intsOf_eq e]
      obtain ⟨s0, h⟩ := law03_run _
      exact Fin.yes h
    · exact .bad
  · exact .bad
end Dn

set_option Elab.async false
set_option linter.all false
set_option maxRecDepth 100000
set_option maxHeartbeats 4000000
/-! Dn, part Za: kept records. -/
namespace Dn
open PySem PySem.Spec PyProof.Rows L2
noncomputable def b_l_kept_record : DS := (sSeq (sSet 3 (dApp gLen (dCons (dV 1) dNil)))
  (sSeq (sSet 4 (dApp (gFn 2 F_l_draw) (dCons (dV 0) (dCons (dV 3) dNil))))
  (sSeq (sSet 5 (dApp (gFn 2 F_l_pick) (dCons (dV 0) (dCons (dLst false (dCons (dC (.int 0)) (dCons (dC (.int 0)) (dCons (dC (.int 1)) (dCons (dApp (gFn 2 F_l_draw) (dCons (dV 0) (dCons (dC (.int 30)) dNil))) (dCons (dApp (gFn 2 F_l_draw) (dCons (dV 0) (dCons (dC (.int 3000)) dNil))) dNil)))))) dNil))))
  (sSeq (sIf (dTB (dBin (gEq false) (dV 2) (dC (.str "since")))) (sRet (dLst false (dCons (dTup (dCons (dC (.str "since")) (dCons (dV 4) (dCons (dApp gMax2 (dCons (dUn gNeg (dC (.int 20000))) (dCons (dBin gSub (dBin gIx (dV 1) (dV 4)) (dV 5)) dNil))) (dCons (dBin (gAdd false) (dC (.int 1)) (dApp (gFn 2 F_l_draw) (dCons (dV 0) (dCons (dC (.int 100)) dNil)))) dNil))))) dNil))) sNext)
  (sSeq (sIf (dTB (dBin (gEq false) (dV 2) (dC (.str "until")))) (sRet (dLst false (dCons (dTup (dCons (dC (.str "until")) (dCons (dV 4) (dCons (dApp gMin2 (dCons (dC (.int 20000)) (dCons (dBin (gAdd false) (dBin gIx (dV 1) (dV 4)) (dV 5)) dNil))) (dCons (dBin (gAdd false) (dC (.int 1)) (dApp (gFn 2 F_l_draw) (dCons (dV 0) (dCons (dC (.int 100)) dNil)))) dNil))))) dNil))) sNext)
  (sSeq (sIf (dOr (dTB (dBin (gEq false) (dV 2) (dC (.str "kind")))) (dTB (dBin (gEq false) (dV 3) (dC (.int 1))))) (sRet (dLst false (dCons (dTup (dCons (dC (.str "kind")) (dCons (dV 4) (dCons (dApp (gFn 2 F_l_pick) (dCons (dV 0) (dCons (dLst false (dCons (dC (.str "a")) (dCons (dC (.str "b")) (dCons (dC (.str "c")) dNil)))) dNil))) dNil)))) dNil))) sNext)
  (sSeq (sSet 6 (dApp (gFn 3 F_l_other) (dCons (dV 0) (dCons (dV 3) (dCons (dV 4) dNil)))))
  (sSeq (sIf (dTB (dBin (gEq false) (dV 2) (dC (.str "same")))) (sRet (dIf (dTB (dBin (gEq false) (dBin gIx (dV 1) (dV 4)) (dBin gIx (dV 1) (dV 6)))) (dLst false (dCons (dTup (dCons (dC (.str "same")) (dCons (dV 4) (dCons (dV 6) dNil)))) dNil)) (dLst false dNil))) sNext)
  (sSeq (sIf (dTB (dBin (gEq false) (dV 2) (dC (.str "within")))) (sSeq (sSet 7 (dApp gMax2 (dCons (dC (.int 0)) (dCons (dBin (gAdd false) (dBin gSub (dBin gIx (dV 1) (dV 6)) (dBin gIx (dV 1) (dV 4))) (dV 5)) dNil))))
  (sRet (dIf (dTB (dBin gLe (dV 7) (dC (.int 5000)))) (dLst false (dCons (dTup (dCons (dC (.str "within")) (dCons (dV 4) (dCons (dV 6) (dCons (dV 7) dNil))))) dNil)) (dLst false dNil)))) sNext)
  (sSeq (sIf (dTB (dBin gGt (dBin gIx (dV 1) (dV 4)) (dBin gIx (dV 1) (dV 6)))) (sPar 4 6 (dCons (dV 6) (dCons (dV 4) dNil))) sNext)
  (sRet (dLst false (dCons (dTup (dCons (dC (.str "before")) (dCons (dV 4) (dCons (dV 6) (dCons (dApp gMin2 (dCons (dC (.int 5000)) (dCons (dApp gMax2 (dCons (dC (.int 0)) (dCons (dBin gSub (dBin gSub (dBin gIx (dV 1) (dV 6)) (dBin gIx (dV 1) (dV 4))) (dV 5)) dNil))) dNil))) dNil))))) dNil)))))))))))))
/-- what is told: a list of at most one record that fits, and the stream goes on -/
def P_kept (args : List Va) (s : Sto) (r : Rs Va) : Prop := ∃ (a : Nat) (ys : List Int) (w : Str) (rs : List Rec) (u : Stm), args = [.ref a, .lst (ys.map .int), .str w] ∧ r = .ok (.lst (rs.map Rec.va)) (s.set a u.ob) ∧ rs.length ≤ 1 ∧ ∀ r ∈ rs, r.fits ys.length
noncomputable def F_l_kept_record : List Va → Sto → Rs Va := mir 8 b_l_kept_record P_kept
@[simp] theorem g_max2 {i j : Int} {s : Sto} : gMax2 [.int i, .int j] s = .ok (.int (if j > i then j else i)) s := rfl
@[simp] theorem g_min2 {i j : Int} {s : Sto} : gMin2 [.int i, .int j] s = .ok (.int (if j < i then j else i)) s := rfl
section
variable {s : Sto} {a : Nat}
theorem yr_at {ys : List Int} {i : Int} {s : Sto} (h : 0 ≤ i ∧ i < ys.length) : gIx (.lst (ys.map .int)) (.int i) s = .ok (.int (yr ys i)) s := ix_yr (d := .lst (ys.map .int)) rfl h.1 h.2
theorem pick_strs {t : Stm} {p q r : Str} (la : a < s.length) : F_l_pick [.ref a, .lst [.str p, .str q, .str r]] (s.set a t.ob) = .ok (.str ([p, q, r].getD (t.draw 3).1.toNat "")) (s.set a (t.draw 3).2.ob) := by
  have h := pick_eq (xs := [Va.str p, .str q, .str r]) (stAt_put (t := t) la) (show 0 < 3 by decide) (show 3 < 1073741824 by decide)
  have hd := t.draw_in (m := 3) (by decide)
  rw [List.set_set] at h
  have e : [Va.str p, .str q, .str r].getD (t.draw 3).1.toNat .non = .str ([p, q, r].getD (t.draw 3).1.toNat "") := getD_map Va.str [p, q, r] _ "" .non (show _ < 3 by omega)
  rw [← e]
  exact h
noncomputable def keptRest : DS := (sSeq (sIf (dTB (dBin (gEq false) (dV 2) (dC (.str "since")))) (sRet (dLst false (dCons (dTup (dCons (dC (.str "since")) (dCons (dV 4) (dCons (dApp gMax2 (dCons (dUn gNeg (dC (.int 20000))) (dCons (dBin gSub (dBin gIx (dV 1) (dV 4)) (dV 5)) dNil))) (dCons (dBin (gAdd false) (dC (.int 1)) (dApp (gFn 2 F_l_draw) (dCons (dV 0) (dCons (dC (.int 100)) dNil)))) dNil))))) dNil))) sNext)
  (sSeq (sIf (dTB (dBin (gEq false) (dV 2) (dC (.str "until")))) (sRet (dLst false (dCons (dTup (dCons (dC (.str "until")) (dCons (dV 4) (dCons (dApp gMin2 (dCons (dC (.int 20000)) (dCons (dBin (gAdd false) (dBin gIx (dV 1) (dV 4)) (dV 5)) dNil))) (dCons (dBin (gAdd false) (dC (.int 1)) (dApp (gFn 2 F_l_draw) (dCons (dV 0) (dCons (dC (.int 100)) dNil)))) dNil))))) dNil))) sNext)
  (sSeq (sIf (dOr (dTB (dBin (gEq false) (dV 2) (dC (.str "kind")))) (dTB (dBin (gEq false) (dV 3) (dC (.int 1))))) (sRet (dLst false (dCons (dTup (dCons (dC (.str "kind")) (dCons (dV 4) (dCons (dApp (gFn 2 F_l_pick) (dCons (dV 0) (dCons (dLst false (dCons (dC (.str "a")) (dCons (dC (.str "b")) (dCons (dC (.str "c")) dNil)))) dNil))) dNil)))) dNil))) sNext)
  (sSeq (sSet 6 (dApp (gFn 3 F_l_other) (dCons (dV 0) (dCons (dV 3) (dCons (dV 4) dNil)))))
  (sSeq (sIf (dTB (dBin (gEq false) (dV 2) (dC (.str "same")))) (sRet (dIf (dTB (dBin (gEq false) (dBin gIx (dV 1) (dV 4)) (dBin gIx (dV 1) (dV 6)))) (dLst false (dCons (dTup (dCons (dC (.str "same")) (dCons (dV 4) (dCons (dV 6) dNil)))) dNil)) (dLst false dNil))) sNext)
  (sSeq (sIf (dTB (dBin (gEq false) (dV 2) (dC (.str "within")))) (sSeq (sSet 7 (dApp gMax2 (dCons (dC (.int 0)) (dCons (dBin (gAdd false) (dBin gSub (dBin gIx (dV 1) (dV 6)) (dBin gIx (dV 1) (dV 4))) (dV 5)) dNil))))
  (sRet (dIf (dTB (dBin gLe (dV 7) (dC (.int 5000)))) (dLst false (dCons (dTup (dCons (dC (.str "within")) (dCons (dV 4) (dCons (dV 6) (dCons (dV 7) dNil))))) dNil)) (dLst false dNil)))) sNext)
  (sSeq (sIf (dTB (dBin gGt (dBin gIx (dV 1) (dV 4)) (dBin gIx (dV 1) (dV 6)))) (sPar 4 6 (dCons (dV 6) (dCons (dV 4) dNil))) sNext)
  (sRet (dLst false (dCons (dTup (dCons (dC (.str "before")) (dCons (dV 4) (dCons (dV 6) (dCons (dApp gMin2 (dCons (dC (.int 5000)) (dCons (dApp gMax2 (dCons (dC (.int 0)) (dCons (dBin gSub (dBin gSub (dBin gIx (dV 1) (dV 6)) (dBin gIx (dV 1) (dV 4))) (dV 5)) dNil))) dNil))) dNil))))) dNil))))))))))
/-- the record itself -/
theorem kept_rest {ys : List Int} {w : Str} {A M : Int} {v : Stm} (la : a < s.length) (hA : 0 ≤ A ∧ A < ys.length) (hn : ys.length ≤ 1000) :
    ∃ (rs : List Rec) (u : Stm), keptRest [some (.ref a), some (.lst (ys.map .int)), some (.str w), some (.int ys.length), some (.int A), some (.int M), none, none] (s.set a v.ob) = .ret (.lst (rs.map Rec.va)) (s.set a u.ob) ∧ rs.length ≤ 1 ∧ ∀ r ∈ rs, r.fits ys.length := by
  have d100 := draw_st (u := v) la (m := 100) (by decide) (by decide)
  have gA := fun s => yr_at (s := s) hA
  unfold keptRest
  by_cases w1 : w = "since"
  · subst w1
    refine ⟨[.since A (if yr ys A - M > -20000 then yr ys A - M else -20000) (1 + (v.draw 100).1)], (v.draw 100).2, ?_, by simp, fun r hr => by rw [List.mem_singleton.mp hr]; exact hA⟩
    simp [gA, d100, Rec.va]
  · by_cases w2 : w = "until"
    · subst w2
      refine ⟨[.upto A (if yr ys A + M < 20000 then yr ys A + M else 20000) (1 + (v.draw 100).1)], (v.draw 100).2, ?_, by simp, fun r hr => by rw [List.mem_singleton.mp hr]; exact hA⟩
      simp [gA, d100, Rec.va]
    · by_cases w3 : w = "kind" ∨ (ys.length : Int) = 1
      · have pk := pick_strs (t := v) (p := "a") (q := "b") (r := "c") la
        refine ⟨[.kind A ([("a" : Str), "b", "c"].getD (v.draw 3).1.toNat "")], (v.draw 3).2, ?_, by simp, fun r hr => by rw [List.mem_singleton.mp hr]; exact hA⟩
        by_cases w4 : w = "kind"
        · subst w4
          simp [pk, Rec.va, -List.getD_eq_getElem?_getD]
        · have w5 : (ys.length : Int) = 1 := w3.resolve_left w4
          simp [w1, w2, w4, w5, pk, Rec.va, -List.getD_eq_getElem?_getD]
      · have w4 : ¬ w = "kind" := fun e => w3 (.inl e)
        have w5 : ¬ (ys.length : Int) = 1 := fun e => w3 (.inr e)
        have h2 : 2 ≤ (ys.length : Int) := by omega
        have ot := other_st (u := v) (b := A) la h2 (show (ys.length : Int) < 1073741824 by omega)
        have hB := other_in (t := v) (n := ys.length) (a := A) (by omega)
        generalize otherM v ys.length A = O at ot hB
        obtain ⟨B, u⟩ := O
        dsimp only at ot hB
        have gB := fun s => yr_at (s := s) hB
        by_cases w6 : w = "same"
        · subst w6
          by_cases hy : yr ys A = yr ys B
          · refine ⟨[.same A B], u, ?_, by simp, fun r hr => by rw [List.mem_singleton.mp hr]; exact ⟨hA, hB⟩⟩
            simp [gA, gB, ot, w5, hy, Rec.va]
          · refine ⟨[], u, ?_, by simp, fun r hr => by simp at hr⟩
            simp [gA, gB, ot, w5, hy]
        · by_cases w7 : w = "within"
          · subst w7
            by_cases hg : (if yr ys B - yr ys A + M > 0 then yr ys B - yr ys A + M else 0) ≤ 5000
            · refine ⟨[.within A B (if yr ys B - yr ys A + M > 0 then yr ys B - yr ys A + M else 0)], u, ?_, by simp, fun r hr => by rw [List.mem_singleton.mp hr]; exact ⟨hA, hB⟩⟩
              generalize hG : (if yr ys B - yr ys A + M > 0 then yr ys B - yr ys A + M else 0) = G at hg ⊢
              have hG2 : (if 0 < yr ys B - yr ys A + M then yr ys B - yr ys A + M else 0) = G := hG
              simp [gA, gB, ot, w5, hG2, hg, Rec.va]
            · refine ⟨[], u, ?_, by simp, fun r hr => by simp at hr⟩
              generalize hG : (if yr ys B - yr ys A + M > 0 then yr ys B - yr ys A + M else 0) = G at hg ⊢
              have hG2 : (if 0 < yr ys B - yr ys A + M then yr ys B - yr ys A + M else 0) = G := hG
              simp [gA, gB, ot, w5, hG2, hg]
          · by_cases hy : yr ys B < yr ys A
            · refine ⟨[.before B A (if (if yr ys A - yr ys B - M > 0 then yr ys A - yr ys B - M else 0) < 5000 then (if yr ys A - yr ys B - M > 0 then yr ys A - yr ys B - M else 0) else 5000)], u, ?_, by simp, fun r hr => by rw [List.mem_singleton.mp hr]; exact ⟨hB, hA⟩⟩
              simp [gA, gB, ot, w1, w2, w4, w5, w6, w7, hy, Rec.va]
            · refine ⟨[.before A B (if (if yr ys B - yr ys A - M > 0 then yr ys B - yr ys A - M else 0) < 5000 then (if yr ys B - yr ys A - M > 0 then yr ys B - yr ys A - M else 0) else 5000)], u, ?_, by simp, fun r hr => by rw [List.mem_singleton.mp hr]; exact ⟨hA, hB⟩⟩
              simp [gA, gB, ot, w1, w2, w4, w5, w6, w7, hy, Rec.va]
end
theorem kept_eq {s : Sto} {a : Nat} {t : Stm} {ys : List Int} {w : Str} (wf : WFn s.length s) (h : stAt s a = some t) (h1 : 1 ≤ ys.length) (hn : ys.length ≤ 1000) : ∃ (rs : List Rec) (u : Stm), F_l_kept_record [.ref a, .lst (ys.map .int), .str w] s = .ok (.lst (rs.map Rec.va)) (s.set a u.ob) ∧ rs.length ≤ 1 ∧ ∀ r ∈ rs, r.fits ys.length := by
  have la := stAt_lt h
  have hd := t.draw_in (m := (ys.length : Int)) (by omega)
  have dn := draw_st (u := t) la (m := (ys.length : Int)) (by omega) (by omega)
  rw [← set_self h] at dn
  have d30 := draw_st (u := (t.draw ys.length).2) la (m := 30) (by decide) (by decide)
  have d3k := draw_st (u := ((t.draw ys.length).2.draw 30).2) la (m := 3000) (by decide) (by decide)
  have pk := pick_eq (xs := [Va.int 0, .int 0, .int 1, .int ((t.draw ys.length).2.draw 30).1, .int (((t.draw ys.length).2.draw 30).2.draw 3000).1]) (stAt_put (t := (((t.draw ys.length).2.draw 30).2.draw 3000).2) la) (show 0 < 5 by decide) (show 5 < 1073741824 by decide)
  rw [List.set_set] at pk
  have pd := (((t.draw ys.length).2.draw 30).2.draw 3000).2.draw_in (m := 5) (by decide)
  have e : [Va.int 0, .int 0, .int 1, .int ((t.draw ys.length).2.draw 30).1, .int (((t.draw ys.length).2.draw 30).2.draw 3000).1].getD ((((t.draw ys.length).2.draw 30).2.draw 3000).2.draw 5).1.toNat .non = .int ([0, 0, 1, ((t.draw ys.length).2.draw 30).1, (((t.draw ys.length).2.draw 30).2.draw 3000).1].getD ((((t.draw ys.length).2.draw 30).2.draw 3000).2.draw 5).1.toNat 0) := getD_map Va.int [0, 0, 1, ((t.draw ys.length).2.draw 30).1, (((t.draw ys.length).2.draw 30).2.draw 3000).1] _ 0 .non (show _ < 5 by omega)
  have pk : F_l_pick [.ref a, .lst [Va.int 0, .int 0, .int 1, .int ((t.draw ys.length).2.draw 30).1, .int (((t.draw ys.length).2.draw 30).2.draw 3000).1]] (s.set a (((t.draw ys.length).2.draw 30).2.draw 3000).2.ob) = .ok (.int ([0, 0, 1, ((t.draw ys.length).2.draw 30).1, (((t.draw ys.length).2.draw 30).2.draw 3000).1].getD ((((t.draw ys.length).2.draw 30).2.draw 3000).2.draw 5).1.toNat 0)) (s.set a ((((t.draw ys.length).2.draw 30).2.draw 3000).2.draw 5).2.ob) := by
    rw [← e]
    exact pk
  generalize [0, 0, 1, ((t.draw ys.length).2.draw 30).1, (((t.draw ys.length).2.draw 30).2.draw 3000).1].getD ((((t.draw ys.length).2.draw 30).2.draw 3000).2.draw 5).1.toNat 0 = M at pk
  obtain ⟨rs, u, R, r1, r2⟩ := kept_rest (s := s) (a := a) (ys := ys) (w := w) (A := (t.draw ys.length).1) (M := M) (v := ((((t.draw ys.length).2.draw 30).2.draw 3000).2.draw 5).2) la hd hn
  have hb : b_l_kept_record (startA 8 [.ref a, .lst (ys.map .int), .str w]) s = .ret (.lst (rs.map Rec.va)) (s.set a u.ob) := by
    have e0 : startA 8 [.ref a, .lst (ys.map .int), .str w] = [some (.ref a), some (.lst (ys.map .int)), some (.str w), none, none, none, none, none] := rfl
    have ln : gLen [.lst (ys.map .int)] s = .ok (.int (ys.length : Nat)) s := by rw [g_len_lst, List.length_map]
    rw [e0]
    show (sSeq _ (sSeq _ (sSeq _ keptRest))) _ s = _
    simp only [e_seq, e_set, e_App, e_Cons, e_Nil, e_Lst, e_C, e_V, List.set, List.getElem?_cons_zero, List.getElem?_cons_succ, bind_ok, g_mkL_f, gFn, List.length_cons, List.length_nil, if_true, ln, dn, d30, d3k, pk, fl_ok, R]
  have hf : Fin s.length (b_l_kept_record (startA 8 [.ref a, .lst (ys.map .int), .str w]) s) (.ok (.lst (rs.map Rec.va)) (s.set a u.ob)) := by
    refine Fin.ret0 hb List.length_set ?_ (wf_set wf (Stm.b _ _))
    clear hb R r1 r2
    induction rs with
    | nil => trivial
    | cons r rs ih => exact ⟨r.b _, ih⟩
  obtain ⟨a', ys', w', rs', u', h1, h2, h3, h4⟩ := mir_p (P := P_kept) ⟨a, ys, w, rs, u, rfl, rfl, r1, r2⟩ hf
  injection h1 with h5 h6
  injection h5 with h5
  injection h6 with h6 _
  injection h6 with h6
  subst h5
  have h7 : ys = ys' := (List.map_inj_right fun _ _ h => by injection h).mp h6
  subst h7
  exact ⟨rs', u', h2, h3, h4⟩
theorem fin_l_kept_record (args : List Va) (s : Sto) (wf : WFn s.length s) (wa : vasB s.length args) (hl : args.length = 3) : Fin s.length (b_l_kept_record (startA 8 args) s) (F_l_kept_record args s) := fin_mir args s
end Dn

set_option Elab.async false
set_option linter.all false
set_option maxRecDepth 100000
set_option maxHeartbeats 4000000
/-! Dn, part Zb: lists of kept records. -/
namespace Dn
open PySem PySem.Spec PyProof.Rows L2
noncomputable def krBody : DS := (sDrop (dMt gExtend (dV 4) (dCons (dApp (gFn 3 F_l_kept_record) (dCons (dV 0) (dCons (dV 1) (dCons (dApp (gFn 2 F_l_pick) (dCons (dV 0) (dCons (dV 2) dNil))) dNil)))) dNil)))
noncomputable def b_l_kept_records : DS := (sSeq (sSet 4 (dLst true dNil))
  (sSeq (sFor (dRg1 (dCons (dV 3) dNil)) (dgName 5)
   krBody)
  (sRet (dV 4))))
theorem vasB_recs {n : Nat} : ∀ {rs : List Rec}, vasB n (rs.map Rec.va)
  | [] => trivial
  | r :: rs => ⟨r.b _, vasB_recs⟩
theorem Yst_wf {s : Sto} {a : Nat} {t : Stm} {xs : List Va} (wf : WFn s.length s) (h : vasB (s.length + 1) xs) : WFn (Yst s a t xs).length (Yst s a t xs) := by
  unfold Yst
  refine wf_push (by rw [List.length_set]; exact wf_set wf (Stm.b _ _)) ?_
  rw [List.length_set]
  exact h
theorem extY {s : Sto} {a : Nat} {t : Stm} {xs ys : List Va} (h : xs.length + ys.length ≤ 1000000) : gExtend (.ref s.length) [.lst ys] (Yst s a t xs) = .ok .non (Yst s a t (xs ++ ys)) := by
  unfold gExtend
  have hq : leq (xs.length + ys.length) 1000000 := h
  simp only [Yst_top, seqL, hq, if_true]
  unfold Yst
  rw [List.set_append_right _ _ (by rw [List.length_set]; exact Nat.le_refl _), List.length_set, Nat.sub_self]
  rfl
theorem kr_turn {s : Sto} {a : Nat} {t : Stm} {ys : List Int} {ws : List Str} {rs : List Rec} {e3 e5 : Option Va} (wf : WFn s.length s) (la : a < s.length) (h1 : 1 ≤ ys.length) (hn : ys.length ≤ 1000) (hw : 0 < ws.length ∧ ws.length ≤ 1000) (hr : rs.length ≤ 1000) :
    ∃ (qs : List Rec) (u : Stm), krBody [some (.ref a), some (.lst (ys.map .int)), some (.lst (ws.map .str)), e3, some (.ref s.length), e5] (Yst s a t (rs.map Rec.va)) = .nx [some (.ref a), some (.lst (ys.map .int)), some (.lst (ws.map .str)), e3, some (.ref s.length), e5] (Yst s a u ((rs ++ qs).map Rec.va)) ∧ qs.length ≤ 1 ∧ ∀ r ∈ qs, r.fits ys.length := by
  have lw : (ws.map Va.str).length = ws.length := List.length_map ..
  have pk := pick_eq (xs := ws.map .str) (Yst_at (t := t) (xs := rs.map Rec.va) la) (by omega) (by omega)
  rw [Yst_set la] at pk
  have pd := t.draw_in (m := ((ws.map Va.str).length : Int)) (by omega)
  rw [getD_map Va.str ws _ "" .non (by rw [← lw]; omega)] at pk
  have la2 : a < (Yst s a (t.draw ((ws.map Va.str).length : Int)).2 (rs.map Rec.va)).length := stAt_lt (Yst_at la)
  obtain ⟨qs, u, k1, k2, k3⟩ := kept_eq (w := ws.getD (t.draw ((ws.map Va.str).length : Int)).1.toNat "") (Yst_wf wf vasB_recs) (Yst_at (t := (t.draw ((ws.map Va.str).length : Int)).2) (xs := rs.map Rec.va) la) h1 hn
  rw [Yst_set la] at k1
  refine ⟨qs, u, ?_, k2, k3⟩
  have il := isLY (s := s) (a := a) (t := t) (xs := rs.map Rec.va)
  have ex := extY (s := s) (a := a) (t := u) (xs := rs.map Rec.va) (ys := qs.map Rec.va) (by rw [List.length_map, List.length_map]; omega)
  rw [← List.map_append] at ex
  unfold krBody
  simp only [e_drop, e_Mt, e_V, List.getElem?_cons_zero, List.getElem?_cons_succ, bind_ok, il, if_true, e_Cons, e_App, e_Nil, gFn, List.length_cons, List.length_nil, pk, k1, ex, fl_ok]
theorem kr_loop {s : Sto} {a : Nat} {ys : List Int} {ws : List Str} {e3 : Option Va} (wf : WFn s.length s) (la : a < s.length) (h1 : 1 ≤ ys.length) (hn : ys.length ≤ 1000) (hw : 0 < ws.length ∧ ws.length ≤ 1000) : ∀ (l : List Va) (t : Stm) (rs : List Rec) (e5 : Option Va), rs.length + l.length ≤ 1000 → (∀ r ∈ rs, r.fits ys.length) →
    ∃ (qs : List Rec) (u : Stm) (f5 : Option Va), lp none (fBody (dgName 5) krBody) l [some (.ref a), some (.lst (ys.map .int)), some (.lst (ws.map .str)), e3, some (.ref s.length), e5] (Yst s a t (rs.map Rec.va)) = .nx [some (.ref a), some (.lst (ys.map .int)), some (.lst (ws.map .str)), e3, some (.ref s.length), f5] (Yst s a u (qs.map Rec.va)) ∧ qs.length ≤ rs.length + l.length ∧ ∀ r ∈ qs, r.fits ys.length
  | [], t, rs, e5, _, hf => ⟨rs, t, e5, lp_nil, Nat.le_refl _, hf⟩
  | k :: l, t, rs, e5, h, hf => by
    rw [List.length_cons] at h
    obtain ⟨qs, u, hb, q1, q2⟩ := kr_turn (t := t) (ys := ys) (ws := ws) (rs := rs) (e3 := e3) (e5 := some k) wf la h1 hn hw (by omega)
    obtain ⟨zs, u2, f5, ih, z1, z2⟩ := kr_loop (ys := ys) (ws := ws) (e3 := e3) wf la h1 hn hw l u (rs ++ qs) (some k) (by rw [List.length_append]; omega) (fun r hr => (List.mem_append.mp hr).elim (hf r) (q2 r))
    refine ⟨zs, u2, f5, ?_, by rw [List.length_append] at z1; rw [List.length_cons]; omega, z2⟩
    rw [lp_cons]
    have hb2 : fBody (dgName 5) krBody k [some (.ref a), some (.lst (ys.map .int)), some (.lst (ws.map .str)), e3, some (.ref s.length), e5] (Yst s a t (rs.map Rec.va)) = _ := hb
    rw [hb2]
    exact ih
def P_kr (args : List Va) (s : Sto) (r : Rs Va) : Prop := ∃ (a : Nat) (ys : List Int) (x : Va) (m : Int) (rs : List Rec) (u : Stm), args = [.ref a, .lst (ys.map .int), x, .int m] ∧ r = .ok (.lst (rs.map Rec.va)) (s.set a u.ob) ∧ rs.length ≤ m.toNat ∧ ∀ r ∈ rs, r.fits ys.length
noncomputable def F_l_kept_records : List Va → Sto → Rs Va := mir 6 b_l_kept_records P_kr
theorem krs_eq {s : Sto} {a : Nat} {t : Stm} {ys : List Int} {ws : List Str} {m : Int} (wf : WFn s.length s) (h : stAt s a = some t) (h1 : 1 ≤ ys.length) (hn : ys.length ≤ 1000) (hw : 0 < ws.length ∧ ws.length ≤ 1000) (hm : 0 ≤ m ∧ m ≤ 1000) : ∃ (rs : List Rec) (u : Stm), F_l_kept_records [.ref a, .lst (ys.map .int), .lst (ws.map .str), .int m] s = .ok (.lst (rs.map Rec.va)) (s.set a u.ob) ∧ rs.length ≤ 1000 ∧ ∀ r ∈ rs, r.fits ys.length := by
  have la := stAt_lt h
  obtain ⟨qs, u, f5, L, q1, q2⟩ := kr_loop (s := s) (a := a) (ys := ys) (ws := ws) (e3 := some (.int m)) wf la h1 hn hw (rgA 0 m) t [] none (by rw [rgA_len, List.length_nil]; omega) (fun r hr => by simp at hr)
  have hr : inR m := ⟨by omega, by omega⟩
  have es : s = s.set a t.ob := set_self h
  have hb : b_l_kept_records (startA 6 [.ref a, .lst (ys.map .int), .lst (ws.map .str), .int m]) s = .ret (.ref s.length) (s.set a u.ob ++ [.lst (qs.map Rec.va)]) := by
    have e0 : startA 6 [.ref a, .lst (ys.map .int), .lst (ws.map .str), .int m] = [some (.ref a), some (.lst (ys.map .int)), some (.lst (ws.map .str)), some (.int m), none, none] := rfl
    have L2 : lp none (fBody (dgName 5) krBody) (rgA 0 m) [some (.ref a), some (.lst (ys.map .int)), some (.lst (ws.map .str)), some (.int m), some (.ref s.length), none] (s ++ [.lst []]) = .nx [some (.ref a), some (.lst (ys.map .int)), some (.lst (ws.map .str)), some (.int m), some (.ref s.length), f5] (s.set a u.ob ++ [.lst (qs.map Rec.va)]) := by
      have e : s ++ [Ob.lst []] = Yst s a t (([] : List Rec).map Rec.va) := by
        unfold Yst
        rw [← es]
        rfl
      rw [e]
      exact L
    rw [e0]
    unfold b_l_kept_records
    simp only [e_seq, e_set, e_Lst, e_Nil, bind_ok, g_mkL_t, fl_ok, List.set, e_for, e_rg1, e_Cons, e_V, List.getElem?_cons_zero, List.getElem?_cons_succ, hr, if_true, L2, e_ret]
  have hf : Fin s.length (b_l_kept_records (startA 6 [.ref a, .lst (ys.map .int), .lst (ws.map .str), .int m]) s) (.ok (.lst (qs.map Rec.va)) (s.set a u.ob)) := Fin.frzS hb List.length_set vasB_recs (wf_set wf (Stm.b _ _))
  obtain ⟨a', ys', x', m', rs', u', h1, h2, h3, h4⟩ := mir_p (P := P_kr) ⟨a, ys, _, m, qs, u, rfl, rfl, by rw [List.length_nil, rgA_len] at q1; omega, q2⟩ hf
  injection h1 with h5 h6
  injection h5 with h5
  injection h6 with h6 h7
  injection h6 with h6
  injection h7 with _ h7
  injection h7 with h7 _
  injection h7 with h7
  subst h5 h7
  have h8 : ys = ys' := (List.map_inj_right fun _ _ h => by injection h).mp h6
  subst h8
  exact ⟨rs', u', h2, by omega, h4⟩
theorem fin_l_kept_records (args : List Va) (s : Sto) (wf : WFn s.length s) (wa : vasB s.length args) (hl : args.length = 4) : Fin s.length (b_l_kept_records (startA 6 args) s) (F_l_kept_records args s) := fin_mir args s
end Dn

set_option Elab.async false
set_option linter.all false
set_option maxRecDepth 100000
set_option maxHeartbeats 1000000
/-! Dn, part To: tools for loops and comprehensions; max and min of lists of ints. -/
namespace Dn
open PySem PySem.Spec PyProof.Rows L2
/-- a loop by its invariant -/
theorem lp_inv {α : Type} (e : α → Va) {ck : Option (Nat × List Va)} {body : Va → DS} (P : List α → En → Sto → Prop) (hck : ∀ d ε s, P d ε s → okk ck s) : ∀ (l d : List α) (ε : En) (s : Sto), P d ε s →
    (∀ d' x r ε s, d ++ l = d' ++ x :: r → P d' ε s → ∃ ε' s', body (e x) ε s = .nx ε' s' ∧ P (d' ++ [x]) ε' s') → ∃ ε' s', lp ck body (l.map e) ε s = .nx ε' s' ∧ P (d ++ l) ε' s'
  | [], d, ε, s, h, _ => ⟨ε, s, by rw [List.map_nil, lp, if_pos (hck d ε s h)], by rw [List.append_nil]; exact h⟩
  | x :: l, d, ε, s, h, hb => by
    obtain ⟨ε1, s1, h1, h2⟩ := hb d x l ε s rfl h
    obtain ⟨ε2, s2, h3, h4⟩ := lp_inv e P hck l (d ++ [x]) ε1 s1 h2 fun d' y r ε s hy => hb d' y r ε s (by rw [← hy, List.append_assoc]; rfl)
    refine ⟨ε2, s2, ?_, by rw [List.append_assoc] at h4; exact h4⟩
    rw [List.map_cons, lp, if_pos (hck d ε s h), h1]
    exact h3
/-- a loop that may go out by a return: f tells whether (and what) -/
theorem lp_ret {α : Type} (e : α → Va) {ck : Option (Nat × List Va)} {body : Va → DS} (P : List α → En → Sto → Prop) (stop : List α → α → Option Va) (hck : ∀ d ε s, P d ε s → okk ck s) : ∀ (l d : List α) (ε : En) (s : Sto), P d ε s →
    (∀ d' x ε s, x ∈ l → P d' ε s → (stop d' x = none → ∃ ε' s', (body (e x) ε s = .nx ε' s' ∨ body (e x) ε s = .ct ε' s') ∧ P (d' ++ [x]) ε' s') ∧ ∀ v, stop d' x = some v → ∃ ε', P d' ε' s ∧ body (e x) ε s = .ret v s) →
    (∃ ε' s', lp ck body (l.map e) ε s = .nx ε' s' ∧ P (d ++ l) ε' s' ∧ ∀ a x b, l = a ++ x :: b → stop (d ++ a) x = none) ∨
    ∃ a x b v ε' s', l = a ++ x :: b ∧ stop (d ++ a) x = some v ∧ P (d ++ a) ε' s' ∧ lp ck body (l.map e) ε s = .ret v s' ∧ ∀ a' x' b', a = a' ++ x' :: b' → stop (d ++ a') x' = none
  | [], d, ε, s, h, _ => .inl ⟨ε, s, by rw [List.map_nil, lp, if_pos (hck d ε s h)], by rw [List.append_nil]; exact h, fun a x b e => by simp at e⟩
  | x :: l, d, ε, s, h, hb => by
    obtain ⟨h1, h2⟩ := hb d x ε s List.mem_cons_self h
    cases q : stop d x with
    | some v =>
      obtain ⟨ε', h3, h4⟩ := h2 v q
      refine .inr ⟨[], x, l, v, ε', s, rfl, by rw [List.append_nil]; exact q, by rw [List.append_nil]; exact h3, ?_, fun a' x' b' z => by simp at z⟩
      rw [List.map_cons, lp, if_pos (hck d ε s h), h4]
    | none =>
      obtain ⟨ε1, s1, h3, h4⟩ := h1 q
      have hl : lp ck body ((x :: l).map e) ε s = lp ck body (l.map e) ε1 s1 := by
        rw [List.map_cons, lp, if_pos (hck d ε s h)]
        rcases h3 with h3 | h3 <;> rw [h3]
      rcases lp_ret e P stop hck l (d ++ [x]) ε1 s1 h4 (fun d' y ε s hy => hb d' y ε s (List.mem_cons_of_mem _ hy)) with ⟨ε2, s2, k1, k2, k3⟩ | ⟨a, y, b, v, ε2, s2, k1, k2, k3, k4, k5⟩
      · refine .inl ⟨ε2, s2, hl.trans k1, by rw [List.append_assoc] at k2; exact k2, fun a y b z => ?_⟩
        cases a with
        | nil =>
          injection z with z1 z2
          subst z1
          rw [List.append_nil]
          exact q
        | cons a0 a =>
          injection z with z1 z2
          subst z1
          have := k3 a y b z2
          rw [List.append_assoc] at this
          exact this
      · refine .inr ⟨x :: a, y, b, v, ε2, s2, by rw [k1]; rfl, by rw [List.append_assoc] at k2; exact k2, by rw [List.append_assoc] at k3; exact k3, hl.trans k4, fun a' x' b' z => ?_⟩
        cases a' with
        | nil =>
          injection z with z1 z2
          subst z1
          rw [List.append_nil]
          exact q
        | cons a0 a' =>
          injection z with z1 z2
          subst z1
          have := k5 a' x' b' z2
          rw [List.append_assoc] at this
          exact this
/-- a comprehension whose parts leave the store alone, over any list -/
theorem cl_mapK {α : Type} (e f : α → Va) {ck : Option (Nat × List Va)} {j : Nat} {dt : DT} {del : DE} {ε : En} {s : Sto} (hk : okk ck s) (p : α → Bool) : ∀ (l : List α) (acc : List Va), (∀ a ∈ l, dt (ε.set j (some (e a))) s = .ok (p a) s) → (∀ a ∈ l, p a = true → del (ε.set j (some (e a))) s = .ok (f a) s) →
    cl ck (dgName j) dt del ε (l.map e) acc s = .ok (acc ++ (l.filter p).map f) s
  | [], acc, _, _ => by
    rw [List.map_nil, cl, if_pos hk, List.filter_nil, List.map_nil, List.append_nil]
  | a :: l, acc, h1, h2 => by
    rw [List.map_cons, cl, if_pos hk, e_dgName]
    dsimp only
    rw [h1 a List.mem_cons_self]
    simp only [noexc_ok, bind_ok]
    cases hp : p a with
    | true =>
      rw [if_pos rfl, h2 a List.mem_cons_self hp]
      simp only [noexc_ok, bind_ok]
      rw [cl_mapK e f hk p l _ (fun b hb => h1 b (List.mem_cons_of_mem _ hb)) (fun b hb => h2 b (List.mem_cons_of_mem _ hb)), List.filter_cons_of_pos hp, List.map_cons, List.append_assoc]
      rfl
    | false =>
      rw [if_neg (by decide), cl_mapK e f hk p l _ (fun b hb => h1 b (List.mem_cons_of_mem _ hb)) (fun b hb => h2 b (List.mem_cons_of_mem _ hb)), List.filter_cons_of_neg (by rw [hp]; decide)]
/-- what a for goes over -/
theorem seq_src {x : Va} {xs : List Va} {s : Sto} (h : seqA x s = some xs) : ∃ ck, okk ck s ∧ ∀ (de : DE) (ε : En), de ε s = .ok x s → dSeq de ε s = .ok (ck, xs) s := by
  cases x with
  | lst ys =>
    cases h
    exact ⟨none, trivial, fun de ε e => by unfold dSeq; rw [e]; rfl⟩
  | tup ys =>
    cases h
    exact ⟨none, trivial, fun de ε e => by unfold dSeq; rw [e]; rfl⟩
  | ext ys =>
    cases h
    exact ⟨none, trivial, fun de ε e => by unfold dSeq; rw [e]; rfl⟩
  | ref i =>
    unfold seqA at h
    dsimp only at h
    split at h
    · rename_i ys e
      cases h
      refine ⟨some (i, xs), e, fun de ε h => ?_⟩
      unfold dSeq
      rw [h]
      simp only [bind_ok, e]
    · cases h
  | _ => simp [seqA] at h
/-- a list comprehension over a range or a list: which items, what of each -/
theorem lc_eq {α : Type} (e f : α → Va) (p : α → Bool) {ck : Option (Nat × List Va)} {di : DI} {j : Nat} {dt : DT} {del : DE} {ε : En} {s : Sto} {l : List α} (h1 : di ε s = .ok (ck, l.map e) s) (hk : okk ck s) (h2 : l.length ≤ 100000)
    (h3 : ∀ a ∈ l, dt ((wip ε [j]).set j (some (e a))) s = .ok (p a) s) (h4 : ∀ a ∈ l, p a = true → del ((wip ε [j]).set j (some (e a))) s = .ok (f a) s) {bx : Bool} : dLc bx di (dgName j) dt del [j] ε s = mkL bx ((l.filter p).map f) s := by
  have hq : leq (l.map e).length 100000 := by unfold leq; rw [List.length_map]; exact h2
  have L := cl_mapK e f hk p (ε := wip ε [j]) l [] h3 h4
  rw [e_Lc, h1]
  simp only [bind_ok, hq, if_true, L, List.nil_append]
theorem lc_all {α : Type} (e f : α → Va) {ck : Option (Nat × List Va)} {di : DI} {j : Nat} {del : DE} {ε : En} {s : Sto} {l : List α} (h1 : di ε s = .ok (ck, l.map e) s) (hk : okk ck s) (h2 : l.length ≤ 100000)
    (h4 : ∀ a ∈ l, del ((wip ε [j]).set j (some (e a))) s = .ok (f a) s) {bx : Bool} : dLc bx di (dgName j) dYes del [j] ε s = mkL bx (l.map f) s := by
  have := lc_eq e f (fun _ => true) (bx := bx) (dt := dYes) h1 hk h2 (fun _ _ => rfl) (fun a ha _ => h4 a ha)
  rw [List.filter_eq_self.mpr (fun _ _ => rfl)] at this
  exact this
theorem all_bl {α : Type} (p : α → Bool) {l : List α} {s : Sto} : gAll [.lst (l.map fun a => .bl (p a))] s = .ok (.bl (l.all p)) s := by
  unfold gAll
  simp only [seqL]
  rw [show (l.map fun a => Va.bl (p a)) = (l.map p).map .bl from by rw [List.map_map]; rfl, blsOf_map]
  simp only [List.all_map]
  rfl
theorem any_bl {α : Type} (p : α → Bool) {l : List α} {s : Sto} : gAny [.lst (l.map fun a => .bl (p a))] s = .ok (.bl (l.any p)) s := by
  unfold gAny
  simp only [seqL]
  rw [show (l.map fun a => Va.bl (p a)) = (l.map p).map .bl from by rw [List.map_map]; rfl, blsOf_map]
  simp only [List.any_map]
  rfl
/-! max, min of a list of ints -/
def maxI : List Int → Int
  | [] => 0
  | x :: xs => xs.foldl (fun m y => if m < y then y else m) x
def minI : List Int → Int
  | [] => 0
  | x :: xs => xs.foldl (fun m y => if y < m then y else m) x
theorem foldMax : ∀ (xs : List Int) (m : Int), (m ≤ xs.foldl (fun m y => if m < y then y else m) m) ∧ (∀ y ∈ xs, y ≤ xs.foldl (fun m y => if m < y then y else m) m) ∧ (xs.foldl (fun m y => if m < y then y else m) m = m ∨ xs.foldl (fun m y => if m < y then y else m) m ∈ xs)
  | [], m => ⟨Int.le_refl _, fun _ h => by simp at h, .inl rfl⟩
  | x :: xs, m => by
    obtain ⟨h1, h2, h3⟩ := foldMax xs (if m < x then x else m)
    rw [List.foldl_cons]
    refine ⟨?_, fun y hy => ?_, ?_⟩
    · split at h1 <;> rename_i h <;> split <;> omega
    · rcases List.mem_cons.mp hy with rfl | hy
      · split at h1 <;> rename_i h <;> split <;> omega
      · exact h2 y hy
    · rcases h3 with h3 | h3
      · rw [h3]
        split
        · exact .inr List.mem_cons_self
        · exact .inl rfl
      · exact .inr (List.mem_cons_of_mem _ h3)
theorem maxI_p {xs : List Int} (h : xs ≠ []) : maxI xs ∈ xs ∧ ∀ y ∈ xs, y ≤ maxI xs := by
  cases xs with
  | nil => exact absurd rfl h
  | cons x xs =>
    obtain ⟨h1, h2, h3⟩ := foldMax xs x
    refine ⟨?_, fun y hy => ?_⟩
    · rcases h3 with h3 | h3
      · unfold maxI
        dsimp only
        rw [h3]
        exact List.mem_cons_self
      · exact List.mem_cons_of_mem _ h3
    · rcases List.mem_cons.mp hy with rfl | hy
      · exact h1
      · exact h2 y hy
theorem foldMin : ∀ (xs : List Int) (m : Int), (xs.foldl (fun m y => if y < m then y else m) m ≤ m) ∧ (∀ y ∈ xs, xs.foldl (fun m y => if y < m then y else m) m ≤ y) ∧ (xs.foldl (fun m y => if y < m then y else m) m = m ∨ xs.foldl (fun m y => if y < m then y else m) m ∈ xs)
  | [], m => ⟨Int.le_refl _, fun _ h => by simp at h, .inl rfl⟩
  | x :: xs, m => by
    obtain ⟨h1, h2, h3⟩ := foldMin xs (if x < m then x else m)
    rw [List.foldl_cons]
    refine ⟨?_, fun y hy => ?_, ?_⟩
    · split at h1 <;> rename_i h <;> split <;> omega
    · rcases List.mem_cons.mp hy with rfl | hy
      · split at h1 <;> rename_i h <;> split <;> omega
      · exact h2 y hy
    · rcases h3 with h3 | h3
      · rw [h3]
        split
        · exact .inr List.mem_cons_self
        · exact .inl rfl
      · exact .inr (List.mem_cons_of_mem _ h3)
theorem minI_p {xs : List Int} (h : xs ≠ []) : minI xs ∈ xs ∧ ∀ y ∈ xs, minI xs ≤ y := by
  cases xs with
  | nil => exact absurd rfl h
  | cons x xs =>
    obtain ⟨h1, h2, h3⟩ := foldMin xs x
    refine ⟨?_, fun y hy => ?_⟩
    · rcases h3 with h3 | h3
      · unfold minI
        dsimp only
        rw [h3]
        exact List.mem_cons_self
      · exact List.mem_cons_of_mem _ h3
    · rcases List.mem_cons.mp hy with rfl | hy
      · exact h1
      · exact h2 y hy
def gMax (xs : List Va) (s : Sto) : Rs Va := match xs with
  | [x] => match seqL x s with
    | some ys => match intsOf ys with
      | some ns => if ns = [] then .bad else .ok (.int (maxI ns)) s
      | none => .bad
    | none => .bad
  | _ => .bad
def gMin (xs : List Va) (s : Sto) : Rs Va := match xs with
  | [x] => match seqL x s with
    | some ys => match intsOf ys with
      | some ns => if ns = [] then .bad else .ok (.int (minI ns)) s
      | none => .bad
    | none => .bad
  | _ => .bad
theorem opN_max {K : PySem.W.Frag} : OpN K (rMax K) gMax := by
  intro CL W F G as s H x v Q S rx q
  unfold gMax at q
  split at q
  · obtain ⟨v, rfl, r⟩ := Rls1 rx
    split at q
    · rename_i ys e
      obtain ⟨a, vs, rfl, h2, h3⟩ := seqL_ok S r e
      split at q
      · rename_i ns e2
        split at q
        · exact q.elim
        · rename_i hn
          rw [intsOf_eq e2] at h3
          rw [h3.ints] at h2
          obtain ⟨p1, p2⟩ := maxI_p hn
          refine ⟨a, ns, rfl, SqL.of h2, List.length_pos_iff.mpr hn, fun m hm hle => ?_⟩
          have : m = maxI ns := Int.le_antisymm (p2 m hm) (hle _ p1)
          rw [this]
          exact q.okv S (.int _)
      · exact q.elim
    · exact q.elim
  · exact q.elim
theorem opN_min {K : PySem.W.Frag} : OpN K (rMin K) gMin := by
  intro CL W F G as s H x v Q S rx q
  unfold gMin at q
  split at q
  · obtain ⟨v, rfl, r⟩ := Rls1 rx
    split at q
    · rename_i ys e
      obtain ⟨a, vs, rfl, h2, h3⟩ := seqL_ok S r e
      split at q
      · rename_i ns e2
        split at q
        · exact q.elim
        · rename_i hn
          rw [intsOf_eq e2] at h3
          rw [h3.ints] at h2
          obtain ⟨p1, p2⟩ := minI_p hn
          refine ⟨a, ns, rfl, SqL.of h2, List.length_pos_iff.mpr hn, fun m hm hle => ?_⟩
          have : m = minI ns := Int.le_antisymm (hle _ p1) (p2 m hm)
          rw [this]
          exact q.okv S (.int _)
      · exact q.elim
    · exact q.elim
  · exact q.elim
section
variable {X : Cx} {CL : Cls0} {W : WX} {k : Nat} {p pos : Pos} {e : Expr} {dr : DA}
theorem re_max (O : Okc X W k) (hm : X.mg "max" = none) (ha : RA X CL W [e] dr) (hG : Gl X "max" := by rfl) (he : starEach [e] X.env = (false, eval e X.env) :: starEach [] X.env := by rfl) : RE X CL W (.Call (.Name "max" p) [e] [] pos) (dApp gMax dr) := re_callB (cr_max O.calm) opN_max hG hm (by decide +kernel) ha (he := he)
theorem re_min (O : Okc X W k) (hm : X.mg "min" = none) (ha : RA X CL W [e] dr) (hG : Gl X "min" := by rfl) (he : starEach [e] X.env = (false, eval e X.env) :: starEach [] X.env := by rfl) : RE X CL W (.Call (.Name "min" p) [e] [] pos) (dApp gMin dr) := re_callB (cr_min O.calm) opN_min hG hm (by decide +kernel) ha (he := he)
end
theorem max_ints {ns : List Int} {s : Sto} (h : ns ≠ []) : gMax [.lst (ns.map .int)] s = .ok (.int (maxI ns)) s := by
  unfold gMax
  simp only [seqL, intsOf_map, if_neg h]
theorem min_ints {ns : List Int} {s : Sto} (h : ns ≠ []) : gMin [.lst (ns.map .int)] s = .ok (.int (minI ns)) s := by
  unfold gMin
  simp only [seqL, intsOf_map, if_neg h]
end Dn

set_option Elab.async false
set_option linter.all false
set_option maxRecDepth 100000
set_option maxHeartbeats 1000000
/-! Dn, part Rs: the law's lists of records. -/
namespace Dn
open PySem PySem.Spec PyProof.Rows L2
/-- numbers, weights and names in their ranges -/
def Rec.ok : Rec → Prop
  | .before _ _ g => 0 ≤ g ∧ g ≤ 5000
  | .within _ _ g => 0 ≤ g ∧ g ≤ 5000
  | .same _ _ => True
  | .since _ y w => (-20000 ≤ y ∧ y ≤ 20000) ∧ 1 ≤ w ∧ w ≤ 100
  | .upto _ y w => (-20000 ≤ y ∧ y ≤ 20000) ∧ 1 ≤ w ∧ w ≤ 100
  | .kind _ k => k ∈ kindNames
def Rec.nice (n : Int) (r : Rec) : Prop := r.fits n ∧ r.ok
theorem gd3in {x y z i a b : Int} (hi : 0 ≤ i ∧ i < 3) (hx : a ≤ x ∧ x ≤ b) (hy : a ≤ y ∧ y ≤ b) (hz : a ≤ z ∧ z ≤ b) : a ≤ [x, y, z].getD i.toNat 0 ∧ [x, y, z].getD i.toNat 0 ≤ b := by
  have hm := getD_mem (xs := [x, y, z]) (d := 0) (show i.toNat < 3 by omega)
  generalize [x, y, z].getD i.toNat 0 = v at hm ⊢
  simp only [List.mem_cons, List.not_mem_nil, or_false] at hm
  omega
theorem gd2in {x y i a b : Int} (hi : 0 ≤ i ∧ i < 2) (hx : a ≤ x ∧ x ≤ b) (hy : a ≤ y ∧ y ≤ b) : a ≤ [x, y].getD i.toNat 0 ∧ [x, y].getD i.toNat 0 ≤ b := by
  have hm := getD_mem (xs := [x, y]) (d := 0) (show i.toNat < 2 by omega)
  generalize [x, y].getD i.toNat 0 = v at hm ⊢
  simp only [List.mem_cons, List.not_mem_nil, or_false] at hm
  omega
theorem recordM_ok {t : Stm} {n : Int} {words : List Str} : (recordM t n words).1.ok := by
  unfold recordM
  generalize ((t.draw words.length).2.draw n).1 = A
  generalize ((t.draw words.length).2.draw n).2 = u
  unfold recordW
  dsimp only
  split
  · have := u.draw_in (m := 5) (by decide)
    exact getD_mem (show _ < 5 by omega)
  · split
    · have h1 := u.draw_in (m := 40) (by decide)
      have h2 := (u.draw 40).2.draw_in (m := 40001) (by decide)
      have h3 := ((u.draw 40).2.draw 40001).2.draw_in (m := 2) (by decide)
      have h4 := (((u.draw 40).2.draw 40001).2.draw 2).2.draw_in (m := 5) (by decide)
      have h5 := ((((u.draw 40).2.draw 40001).2.draw 2).2.draw 5).2.draw_in (m := 100) (by decide)
      have h6 := (((((u.draw 40).2.draw 40001).2.draw 2).2.draw 5).2.draw 100).2.draw_in (m := 3) (by decide)
      split
      · exact ⟨gd2in h3 (by omega) (by omega), gd3in h6 (by omega) (by omega) (by omega)⟩
      · exact ⟨gd2in h3 (by omega) (by omega), gd3in h6 (by omega) (by omega) (by omega)⟩
    · split
      · trivial
      · generalize otherM u n A = O
        have h1 := O.2.draw_in (m := 12) (by decide)
        have h2 := (O.2.draw 12).2.draw_in (m := 5001) (by decide)
        have h3 := ((O.2.draw 12).2.draw 5001).2.draw_in (m := 3) (by decide)
        split
        · exact gd3in h3 (by omega) (by omega) (by omega)
        · exact gd3in h3 (by omega) (by omega) (by omega)
noncomputable def b_l_records_L1 : DS := (sSeq (sSet 6 (dApp (gFn 3 F_l_record) (dCons (dV 0) (dCons (dV 1) (dCons (dV 2) dNil)))))
  (sSeq (sIf (dAnd (dTB (dBin (gEq false) (dBin gIx (dV 6) (dC (.int 0))) (dC (.str "before")))) (dAnd (dTB (dBin gGt (dBin gIx (dV 6) (dC (.int 1))) (dBin gIx (dV 6) (dC (.int 2))))) (dTB (dBin gGt (dApp (gFn 2 F_l_draw) (dCons (dV 0) (dCons (dC (.int 8)) dNil))) (dC (.int 0)))))) (sSet 6 (dTup (dCons (dC (.str "before")) (dCons (dBin gIx (dV 6) (dC (.int 2))) (dCons (dBin gIx (dV 6) (dC (.int 1))) (dCons (dBin gIx (dV 6) (dC (.int 3))) dNil)))))) sNext)
  (sSeq (sIf (dAnd (dTB (dBin (gEq false) (dBin gIx (dV 6) (dC (.int 0))) (dC (.str "same")))) (dTB (dBin (gEq false) (dApp (gFn 2 F_l_draw) (dCons (dV 0) (dCons (dC (.int 2)) dNil))) (dC (.int 0))))) (sSet 6 (dTup (dCons (dC (.str "kind")) (dCons (dBin gIx (dV 6) (dC (.int 1))) (dCons (dC (.str "b")) dNil))))) sNext)
  (sDrop (dMt gAppend (dV 4) (dCons (dV 6) dNil))))))
noncomputable def b_l_records : DS := (sSeq (sSet 4 (dLst true dNil))
  (sSeq (sFor (dRg1 (dCons (dApp (gFn 2 F_l_draw) (dCons (dV 0) (dCons (dBin (gAdd false) (dV 3) (dC (.int 1))) dNil))) dNil)) (dgName 5)
   b_l_records_L1)
  (sRet (dV 4))))
noncomputable def F_l_records : List Va → Sto → Rs Va := aut 7 b_l_records
theorem fin_l_records (args : List Va) (s : Sto) (wf : WFn s.length s) (wa : vasB s.length args) (hl : args.length = 4) : Fin s.length (b_l_records (startA 7 args) s) (F_l_records args s) := fin_autoF _
theorem strsOf_map : ∀ ns : List Str, strsOf (ns.map .str) = some ns
  | [] => rfl
  | n :: ns => by rw [List.map_cons, strsOf, strsOf_map ns]; rfl
theorem recordY {s : Sto} {a : Nat} {t : Stm} {xs : List Va} {n : Nat} {ws : List Str} (la : a < s.length) (h1 : 1 ≤ n) (h2 : n ≤ 1000) (hw : 0 < ws.length ∧ ws.length ≤ 1000) (h6 : ∀ x ∈ ws, x ∈ sixWords) : ∃ (r : Rec) (u : Stm), F_l_record [.ref a, .int n, .lst (ws.map .str)] (Yst s a t xs) = .ok r.va (Yst s a u xs) ∧ r.nice n := by
  refine ⟨(recordM t n ws).1, (recordM t n ws).2, ?_, recordM_fits (by omega), recordM_ok⟩
  unfold F_l_record
  simp only [Yst_at la, strsOf_map]
  rw [if_pos ⟨by omega, by omega, hw.1, hw.2, h6⟩, Yst_set la]
theorem rec_turn {s : Sto} {a : Nat} {t : Stm} {n : Nat} {ws : List Str} {rs : List Rec} {e3 e5 e6 : Option Va} (la : a < s.length) (h1 : 1 ≤ n) (h2 : n ≤ 1000) (hw : 0 < ws.length ∧ ws.length ≤ 1000) (h6 : ∀ x ∈ ws, x ∈ sixWords) (hr : rs.length ≤ 1000) :
    ∃ (r : Rec) (u : Stm) (f6 : Option Va), b_l_records_L1 [some (.ref a), some (.int n), some (.lst (ws.map .str)), e3, some (.ref s.length), e5, e6] (Yst s a t (rs.map Rec.va)) = .nx [some (.ref a), some (.int n), some (.lst (ws.map .str)), e3, some (.ref s.length), e5, f6] (Yst s a u ((rs ++ [r]).map Rec.va)) ∧ r.nice n := by
  obtain ⟨r, u, R, hf, hok⟩ := recordY (xs := rs.map Rec.va) (t := t) la h1 h2 hw h6
  have d8 := drawY (t := u) (xs := rs.map Rec.va) (m := 8) la (by decide) (by decide)
  have d2 := drawY (t := u) (xs := rs.map Rec.va) (m := 2) la (by decide) (by decide)
  have il : ∀ u, isL (.ref s.length) (Yst s a u (rs.map Rec.va)) = true := fun u => isLY
  have ap : ∀ (u : Stm) (r : Rec), gAppend (.ref s.length) [r.va] (Yst s a u (rs.map Rec.va)) = .ok .non (Yst s a u ((rs ++ [r]).map Rec.va)) := fun u r => by
    rw [appY (by rw [List.length_map]; omega), List.map_append]
    rfl
  unfold b_l_records_L1
  cases r with
  | before x y g =>
    have ap1 := ap (u.draw 8).2 (.before y x g)
    have ap2 := ap (u.draw 8).2 (.before x y g)
    have ap3 := ap u (.before x y g)
    have R' : F_l_record [.ref a, .int n, .lst (ws.map .str)] (Yst s a t (rs.map Rec.va)) = .ok (.tup [.str "before", .int x, .int y, .int g]) (Yst s a u (rs.map Rec.va)) := R
    simp only [Rec.va] at ap1 ap2 ap3
    by_cases hxy : y < x
    · by_cases h0 : 0 < (u.draw 8).1
      · refine ⟨.before y x g, (u.draw 8).2, some (.tup [.str "before", .int y, .int x, .int g]), ?_, ⟨hf.2, hf.1⟩, hok⟩
        simp [R', atI_0, atI_1, atI_2, atI_3, hxy, d8, h0, il, ap1]
      · refine ⟨.before x y g, (u.draw 8).2, some (.tup [.str "before", .int x, .int y, .int g]), ?_, hf, hok⟩
        simp [R', atI_0, atI_1, atI_2, atI_3, hxy, d8, h0, il, ap2]
    · refine ⟨.before x y g, u, some (.tup [.str "before", .int x, .int y, .int g]), ?_, hf, hok⟩
      simp [R', atI_0, atI_1, atI_2, atI_3, hxy, il, ap3]
  | same x y =>
    have ap1 := ap (u.draw 2).2 (.same x y)
    have ap2 := ap (u.draw 2).2 (.kind x "b")
    have R' : F_l_record [.ref a, .int n, .lst (ws.map .str)] (Yst s a t (rs.map Rec.va)) = .ok (.tup [.str "same", .int x, .int y]) (Yst s a u (rs.map Rec.va)) := R
    simp only [Rec.va] at ap1 ap2
    by_cases h0 : (u.draw 2).1 = 0
    · refine ⟨.kind x "b", (u.draw 2).2, some (.tup [.str "kind", .int x, .str "b"]), ?_, hf.1, (by decide +kernel : ("b" : Str) ∈ kindNames)⟩
      simp [R', atI_0, atI_1, atI_2, atI_3, d2, h0, il, ap2]
    · refine ⟨.same x y, (u.draw 2).2, some (.tup [.str "same", .int x, .int y]), ?_, hf, hok⟩
      simp [R', atI_0, atI_1, atI_2, atI_3, d2, h0, il, ap1]
  | within x y g =>
    have ap1 := ap u (.within x y g)
    have R' : F_l_record [.ref a, .int n, .lst (ws.map .str)] (Yst s a t (rs.map Rec.va)) = .ok (.tup [.str "within", .int x, .int y, .int g]) (Yst s a u (rs.map Rec.va)) := R
    simp only [Rec.va] at ap1
    refine ⟨.within x y g, u, some (.tup [.str "within", .int x, .int y, .int g]), ?_, hf, hok⟩
    simp [R', atI_0, atI_1, atI_2, atI_3, il, ap1]
  | since x y w =>
    have ap1 := ap u (.since x y w)
    have R' : F_l_record [.ref a, .int n, .lst (ws.map .str)] (Yst s a t (rs.map Rec.va)) = .ok (.tup [.str "since", .int x, .int y, .int w]) (Yst s a u (rs.map Rec.va)) := R
    simp only [Rec.va] at ap1
    refine ⟨.since x y w, u, some (.tup [.str "since", .int x, .int y, .int w]), ?_, hf, hok⟩
    simp [R', atI_0, atI_1, atI_2, atI_3, il, ap1]
  | upto x y w =>
    have ap1 := ap u (.upto x y w)
    have R' : F_l_record [.ref a, .int n, .lst (ws.map .str)] (Yst s a t (rs.map Rec.va)) = .ok (.tup [.str "until", .int x, .int y, .int w]) (Yst s a u (rs.map Rec.va)) := R
    simp only [Rec.va] at ap1
    refine ⟨.upto x y w, u, some (.tup [.str "until", .int x, .int y, .int w]), ?_, hf, hok⟩
    simp [R', atI_0, atI_1, atI_2, atI_3, il, ap1]
  | kind x k =>
    have ap1 := ap u (.kind x k)
    have R' : F_l_record [.ref a, .int n, .lst (ws.map .str)] (Yst s a t (rs.map Rec.va)) = .ok (.tup [.str "kind", .int x, .str k]) (Yst s a u (rs.map Rec.va)) := R
    simp only [Rec.va] at ap1
    refine ⟨.kind x k, u, some (.tup [.str "kind", .int x, .str k]), ?_, hf, hok⟩
    simp [R', atI_0, atI_1, atI_2, atI_3, il, ap1]
/-- a drawn list of records -/
theorem recs_eq {s : Sto} {a : Nat} {t : Stm} {n : Nat} {ws : List Str} {m : Int} (wf : WFn s.length s) (h : stAt s a = some t) (h1 : 1 ≤ n) (h2 : n ≤ 1000) (hw : 0 < ws.length ∧ ws.length ≤ 1000) (h6 : ∀ x ∈ ws, x ∈ sixWords) (hm : 0 ≤ m ∧ m ≤ 500) :
    ∃ (rs : List Rec) (u : Stm), F_l_records [.ref a, .int n, .lst (ws.map .str), .int m] s = .ok (.lst (rs.map Rec.va)) (s.set a u.ob) ∧ rs.length ≤ m.toNat ∧ ∀ r ∈ rs, r.nice n := by
  have la := stAt_lt h
  have es : s = s.set a t.ob := set_self h
  have e0 : s ++ [Ob.lst []] = Yst s a t (([] : List Rec).map Rec.va) := by
    unfold Yst
    rw [← es]
    rfl
  have dm := drawY (t := t) (xs := ([] : List Rec).map Rec.va) (m := m + 1) la (by omega) (by omega)
  have hd := t.draw_in (m := m + 1) (by omega)
  have hr : inR (t.draw (m + 1)).1 := ⟨by omega, by omega⟩
  obtain ⟨ε', s', L, f5, f6, u, rs, rfl, rfl, hl, hn⟩ := lp_inv id (ck := none) (body := fBody (dgName 5) b_l_records_L1) (fun d ε s' => ∃ (f5 f6 : Option Va) (u : Stm) (rs : List Rec), ε = [some (.ref a), some (.int n), some (.lst (ws.map .str)), some (.int m), some (.ref s.length), f5, f6] ∧ s' = Yst s a u (rs.map Rec.va) ∧ rs.length = d.length ∧ ∀ r ∈ rs, r.nice n) (fun _ _ _ _ => trivial) (rgA 0 (t.draw (m + 1)).1) []
    [some (.ref a), some (.int n), some (.lst (ws.map .str)), some (.int m), some (.ref s.length), none, none] (Yst s a (t.draw (m + 1)).2 (([] : List Rec).map Rec.va)) ⟨none, none, _, [], rfl, rfl, rfl, fun r hr => by simp at hr⟩ (by
      rintro d x r ε s2 hx ⟨f5, f6, u, rs, rfl, rfl, hl, hn⟩
      have hle : rs.length ≤ 1000 := by
        have := congrArg List.length hx
        rw [List.nil_append, rgA_len, List.length_append] at this
        omega
      obtain ⟨r, u2, g6, hb, hg⟩ := rec_turn (s := s) (a := a) (t := u) (e3 := some (.int m)) (e5 := some x) (e6 := f6) la h1 h2 hw h6 hle
      exact ⟨_, _, hb, _, _, u2, rs ++ [r], rfl, rfl, by rw [List.length_append, List.length_append, hl]; rfl, fun q hq => (List.mem_append.mp hq).elim (hn q) fun hq => by rw [List.mem_singleton.mp hq]; exact hg⟩)
  rw [List.map_id, List.nil_append] at *
  rw [rgA_len] at hl
  refine ⟨rs, u, ?_, by omega, hn⟩
  refine aut_new (s2 := []) ?_ List.length_set vasB_recs (by rw [List.length_map]; omega) (wf_set wf (Stm.b _ _))
  have e1 : startA 7 [.ref a, .int n, .lst (ws.map .str), .int m] = [some (.ref a), some (.int n), some (.lst (ws.map .str)), some (.int m), none, none, none] := rfl
  rw [e1]
  unfold b_l_records
  simp only [e_seq, e_set, e_Lst, e_Nil, bind_ok, g_mkL_t, fl_ok, List.set, e_for, e_rg1, e_Cons, e_App, gFn, List.length_cons, List.length_nil, if_true, e_V, e_Bin, e_C, List.getElem?_cons_zero, List.getElem?_cons_succ, g_add_int, e0, dm, hr, L, e_ret]
  rfl
end Dn

set_option Elab.async false
set_option linter.all false
set_option maxRecDepth 100000
/-! Dm, part C: a dating out of the table; ends that are reached; ways from one place, and back. -/
namespace Dm
/-- the values of a column -/
def colL (n : Nat) (T : Tb) (j : Nat) : List Int := (List.range (n + 1)).filterMap fun i => T i j
theorem mem_col {n : Nat} {T : Tb} {j : Nat} {v : Int} : v ∈ colL n T j ↔ ∃ i, i ≤ n ∧ T i j = some v := by
  unfold colL
  rw [List.mem_filterMap]
  constructor
  · rintro ⟨i, h1, h2⟩
    exact ⟨i, by have := List.mem_range.mp h1; omega, h2⟩
  · rintro ⟨i, h1, h2⟩
    exact ⟨i, List.mem_range.mpr (by omega), h2⟩
/-- the greatest of each column: a dating -/
theorem col_feas {n : Nat} {E : List Edge} (hE : InN n E) (c : Calm n (fw n E)) {y : Nat → Int} (hy : ∀ j, j ≤ n → y j ∈ colL n (fw n E) j ∧ ∀ v ∈ colL n (fw n E) j, v ≤ y j) : Feas E y := fun e he => by
  obtain ⟨ha, hb⟩ := hE e he
  obtain ⟨i, h1, h2⟩ := mem_col.mp (hy e.1 ha).1
  obtain ⟨_, v, h3, h4⟩ := fw_way hE c h1 (.snoc (fw_snd _ _ _ h2) he)
  have h5 : v ≤ y e.2.1 := (hy e.2.1 hb).2 v (mem_col.mpr ⟨i, h1, h3⟩)
  have h4 : y e.1 + e.2.2 ≤ v := h4
  omega
theorem col_ne {n : Nat} {E : List Edge} (c : Calm n (fw n E)) {j : Nat} (hj : j ≤ n) : colL n (fw n E) j ≠ [] := fun e => by
  have : (0 : Int) ∈ colL n (fw n E) j := mem_col.mpr ⟨j, hj, diag0 fw_diag c hj⟩
  rw [e] at this
  cases this
theorem feas_shift {E : List Edge} {y : Nat → Int} (h : Feas E y) (k : Int) : Feas E fun i => y i - k := fun e he => by
  have := h e he
  dsimp only
  omega
theorem below_all (f g : Nat → Int) : ∀ n, ∃ K : Int, 0 ≤ K ∧ ∀ j, j ≤ n → f j - K ≤ g j
  | 0 => ⟨max 0 (f 0 - g 0), by omega, fun j hj => by
    have : j = 0 := by omega
    subst this
    omega⟩
  | n + 1 => by
    obtain ⟨K, h1, h2⟩ := below_all f g n
    refine ⟨max K (f (n + 1) - g (n + 1)), by omega, fun j hj => ?_⟩
    by_cases q : j = n + 1
    · subst q
      omega
    · have := h2 j (by omega)
      omega
/-- an entry of the table is reached -/
theorem reached {n : Nat} {E : List Edge} (hE : InN n E) (h : Holds E) {i j : Nat} {w : Int} (hi : i ≤ n) (hj : j ≤ n) (hw : fw n E i j = some w) : ∃ y, Feas E y ∧ y j - y i = w := by
  have c := holds_calm (n := n) h
  obtain ⟨y0, h0⟩ := h
  obtain ⟨K, k1, k2⟩ := below_all y0 (fun k => (fw n E i k).getD 0) n
  have k2 : ∀ k v, k ≤ n → fw n E i k = some v → y0 k - K ≤ v := fun k v hk hv => by
    have := k2 k hk
    rw [hv] at this
    exact this
  refine ⟨fun k => match fw n E i k with | some v => v | none => y0 k - K, fun e he => ?_, ?_⟩
  · obtain ⟨ha, hb⟩ := hE e he
    have q := h0 e he
    dsimp only
    cases e1 : fw n E i e.1 with
    | some v =>
      obtain ⟨_, v', h3, h4⟩ := fw_way hE c hi (.snoc (fw_snd _ _ _ e1) he)
      rw [h3]
      exact h4
    | none =>
      dsimp only
      cases e2 : fw n E i e.2.1 with
      | none => dsimp only; omega
      | some v' =>
        have := k2 _ _ hb e2
        dsimp only
        omega
  · dsimp only
    rw [hw, diag0 fw_diag c hi]
    dsimp only
    omega
/-- .. so it stays kept with the two steps that fasten it -/
theorem fasten {n : Nat} {E : List Edge} (hE : InN n E) (h : Holds E) {i j : Nat} {w : Int} (hi : i ≤ n) (hj : j ≤ n) (hw : fw n E i j = some w) : Holds ((i, j, w) :: (j, i, -w) :: E) := by
  obtain ⟨y, h1, h2⟩ := reached hE h hi hj hw
  refine ⟨y, fun e he => ?_⟩
  rcases List.mem_cons.mp he with rfl | he
  · dsimp only
    omega
  · rcases List.mem_cons.mp he with rfl | he
    · dsimp only
      omega
    · exact h1 e he
/-! ways from one place -/
theorem far_one {n : Nat} {E : List Edge} (hE : InN n E) (h : Holds E) {i : Nat} (hi : i ≤ n) {B : Nat → Prop} [DecidablePred B] (hB : ∀ k, B k ↔ k = i) : ∃ D, far E (n + 2) (start B) = some D ∧ ∀ j, j ≤ n → D j = fw n E i j := by
  have c := holds_calm (n := n) h
  obtain ⟨y, hy⟩ := h
  obtain ⟨D, h⟩ := far_some (B := B) hE (fun v hv => by rw [(hB v).mp hv]; exact hi) hy (n + 2) 0 _ start_ge start_snd (by omega) (by omega)
  have p := far_p _ _ _ (start_snd (E := E)) start_base h
  refine ⟨D, h, fun j hj => ?_⟩
  cases e1 : D j with
  | some v =>
    obtain ⟨k, hk, w1⟩ := p.snd _ _ e1
    rw [(hB k).mp hk] at w1
    obtain ⟨_, v', h3, h4⟩ := fw_way hE c hi w1
    obtain ⟨d, h5, h6⟩ := p.way ((hB i).mpr rfl) (fw_snd _ _ _ h3)
    rw [e1] at h5
    cases h5
    rw [h3, show v = v' by omega]
  | none =>
    cases e2 : fw n E i j with
    | none => rfl
    | some v' =>
      obtain ⟨d, h5, h6⟩ := p.way ((hB i).mpr rfl) (fw_snd _ _ _ e2)
      rw [e1] at h5
      cases h5
/-! all steps turned round -/
def rev (E : List Edge) : List Edge := E.map fun e => (e.2.1, e.1, e.2.2)
theorem mem_rev {E : List Edge} {a b : Nat} {c : Int} : (a, b, c) ∈ rev E ↔ (b, a, c) ∈ E := by
  unfold rev
  rw [List.mem_map]
  constructor
  · rintro ⟨⟨x, y, z⟩, h1, h2⟩
    injection h2 with h2 h3
    injection h3 with h3 h4
    subst h2 h3 h4
    exact h1
  · intro h
    exact ⟨_, h, rfl⟩
theorem rev_in {n : Nat} {E : List Edge} (h : InN n E) : InN n (rev E) := fun e he => by
  obtain ⟨a, b, c⟩ := e
  have := h _ (mem_rev.mp he)
  exact ⟨this.2, this.1⟩
theorem rev_holds {E : List Edge} (h : Holds E) : Holds (rev E) := by
  obtain ⟨y, hy⟩ := h
  refine ⟨fun i => - y i, fun e he => ?_⟩
  obtain ⟨a, b, c⟩ := e
  have := hy _ (mem_rev.mp he)
  dsimp only at this ⊢
  omega
theorem Wk.front {E : List Edge} {i j k : Nat} {c w : Int} (h : (i, j, c) ∈ E) (k1 : Wk E j k w) : Wk E i k (c + w) := (Wk.one h).trans k1
theorem Wk.rev {E : List Edge} {i j : Nat} {w : Int} (h : Wk E i j w) : Wk (Dm.rev E) j i w := by
  induction h with
  | nil => exact .nil
  | @snoc u v w c _ e ih =>
    have := Wk.front (mem_rev.mpr e) ih
    rw [Int.add_comm] at this
    exact this
theorem rev_rev {E : List Edge} : rev (rev E) = E := by
  unfold rev
  rw [List.map_map]
  conv => rhs; rw [← List.map_id E]
  rfl
theorem Wk.back {E : List Edge} {i j : Nat} {w : Int} (h : Wk (Dm.rev E) i j w) : Wk E j i w := by
  have := h.rev
  rw [rev_rev] at this
  exact this
theorem fw_rev {n : Nat} {E : List Edge} (hE : InN n E) (h : Holds E) {i j : Nat} (hi : i ≤ n) (hj : j ≤ n) : fw n (rev E) i j = fw n E j i := by
  have c := holds_calm (n := n) h
  have c2 := holds_calm (n := n) (rev_holds h)
  cases e1 : fw n (rev E) i j with
  | some v =>
    obtain ⟨_, v', h3, h4⟩ := fw_way hE c hj (fw_snd _ _ _ e1).back
    obtain ⟨_, v2, h5, h6⟩ := fw_way (rev_in hE) c2 hi (fw_snd _ _ _ h3).rev
    rw [e1] at h5
    cases h5
    rw [h3, show v = v' by omega]
  | none =>
    cases e2 : fw n E j i with
    | none => rfl
    | some v' =>
      obtain ⟨_, v2, h5, h6⟩ := fw_way (rev_in hE) c2 hi (fw_snd _ _ _ e2).rev
      rw [e1] at h5
      cases h5
theorem far_back {n : Nat} {E : List Edge} (hE : InN n E) (h : Holds E) {i : Nat} (hi : i ≤ n) {B : Nat → Prop} [DecidablePred B] (hB : ∀ k, B k ↔ k = i) : ∃ D, far (rev E) (n + 2) (start B) = some D ∧ ∀ j, j ≤ n → D j = fw n E j i := by
  obtain ⟨D, h1, h2⟩ := far_one (rev_in hE) (rev_holds h) hi hB
  exact ⟨D, h1, fun j hj => by rw [h2 j hj, fw_rev hE h hi hj]⟩
/-- a dating's differences lie within the table's -/
theorem within_fw {n : Nat} {E : List Edge} {y : Nat → Int} (hy : Feas E y) {i j : Nat} {w : Int} (h : fw n E i j = some w) : y i + w ≤ y j := (fw_snd _ _ _ h).feas hy
end Dm

set_option Elab.async false
set_option linter.all false
set_option maxRecDepth 100000
set_option maxHeartbeats 1000000
/-! Dn, part Sp: what is told of years. -/
namespace Dn
open PySem PySem.Spec PyProof.Rows L2
open Dm (Edge Tb fw InN Calm Holds Feas colL)
noncomputable def b_sure_ways : DS := (sSeq (sSet 2 (dApp (gFn 2 F_ways) (dCons (dV 0) (dCons (dV 1) dNil))))
  (sSeq (sIf (dTr (dApp (gFn 1 F_is_round) (dCons (dV 2) dNil))) (sRaise "Unsure") sNext)
  (sRet (dV 2))))
noncomputable def F_sure_ways : List Va → Sto → Rs Va := aut 3 b_sure_ways
theorem fin_sure_ways (args : List Va) (s : Sto) (wf : WFn s.length s) (wa : vasB s.length args) (hl : args.length = 2) : Fin s.length (b_sure_ways (startA 3 args) s) (F_sure_ways args s) := fin_autoF _
noncomputable def b_ends : DS := (sSeq (sSet 3 (dBin gIx (dBin gIx (dV 0) (dV 2)) (dV 1)))
  (sRet (dTup (dCons (dBin gIx (dBin gIx (dV 0) (dV 1)) (dV 2)) (dCons (dIf (dTB (dBin (gIs false) (dV 3) (dC .non))) (dC .non) (dUn gNeg (dV 3))) dNil)))))
noncomputable def F_ends : List Va → Sto → Rs Va := aut 4 b_ends
theorem fin_ends (args : List Va) (s : Sto) (wf : WFn s.length s) (wa : vasB s.length args) (hl : args.length = 3) : Fin s.length (b_ends (startA 4 args) s) (F_ends args s) := fin_autoF _
noncomputable def b_span : DS := (sRet (dApp (gFn 3 F_ends) (dCons (dApp (gFn 2 F_sure_ways) (dCons (dV 0) (dCons (dV 1) dNil))) (dCons (dV 2) (dCons (dV 3) dNil)))))
noncomputable def F_span : List Va → Sto → Rs Va := aut 4 b_span
theorem fin_span (args : List Va) (s : Sto) (wf : WFn s.length s) (wa : vasB s.length args) (hl : args.length = 4) : Fin s.length (b_span (startA 4 args) s) (F_span args s) := fin_autoF _
noncomputable def b_reach : DS := (sRet (dApp (gFn 3 F_ends) (dCons (dApp (gFn 2 F_sure_ways) (dCons (dV 0) (dCons (dV 1) dNil))) (dCons (dV 0) (dCons (dV 2) dNil)))))
noncomputable def F_reach : List Va → Sto → Rs Va := aut 3 b_reach
theorem fin_reach (args : List Va) (s : Sto) (wf : WFn s.length s) (wa : vasB s.length args) (hl : args.length = 3) : Fin s.length (b_reach (startA 3 args) s) (F_reach args s) := fin_autoF _
noncomputable def c_early_1 : DE := (dLc false (dRg1 (dCons (dV 0) dNil)) (dgName 4) dYes (dBin gIx (dBin gIx (dV 2) (dV 0)) (dV 4)) [4])
noncomputable def b_early : DS := (sSeq (sSet 2 (dApp (gFn 2 F_sure_ways) (dCons (dV 0) (dCons (dV 1) dNil))))
  (sSeq (sSet 3 c_early_1)
  (sRet (dIf (dTB (dBin (gIn false) (dC .non) (dV 3))) (dC .non) (dV 3)))))
noncomputable def F_early : List Va → Sto → Rs Va := aut 5 b_early
theorem fin_early (args : List Va) (s : Sto) (wf : WFn s.length s) (wa : vasB s.length args) (hl : args.length = 2) : Fin s.length (b_early (startA 5 args) s) (F_early args s) := fin_autoF _
noncomputable def c_late_1 : DE := (dLc false (dRg1 (dCons (dV 0) dNil)) (dgName 4) dYes (dBin gIx (dBin gIx (dV 2) (dV 4)) (dV 0)) [4])
noncomputable def c_late_2 : DE := (dLc false (dSeq (dV 3)) (dgName 5) dYes (dUn gNeg (dV 5)) [5])
noncomputable def b_late : DS := (sSeq (sSet 2 (dApp (gFn 2 F_sure_ways) (dCons (dV 0) (dCons (dV 1) dNil))))
  (sSeq (sSet 3 c_late_1)
  (sRet (dIf (dTB (dBin (gIn false) (dC .non) (dV 3))) (dC .non) c_late_2))))
noncomputable def F_late : List Va → Sto → Rs Va := aut 6 b_late
theorem fin_late (args : List Va) (s : Sto) (wf : WFn s.length s) (wa : vasB s.length args) (hl : args.length = 2) : Fin s.length (b_late (startA 6 args) s) (F_late args s) := fin_autoF _
noncomputable def c_dating_of_2 : DE := (dLc false (dRg1 (dCons (dBin (gAdd false) (dV 1) (dC (.int 1))) dNil)) (dgName 3) (dTB (dBin (gIs true) (dBin gIx (dBin gIx (dV 0) (dV 3)) (dV 4)) (dC .non))) (dBin gIx (dBin gIx (dV 0) (dV 3)) (dV 4)) [3])
noncomputable def c_dating_of_1 : DE := (dLc false (dRg1 (dCons (dBin (gAdd false) (dV 1) (dC (.int 1))) dNil)) (dgName 4) dYes (dApp gMax (dCons c_dating_of_2 dNil)) [4])
noncomputable def c_dating_of_3 : DE := (dLc false (dSeq (dSl false (dV 2) dNo (dSome (dV 1)))) (dgName 5) dYes (dBin gSub (dV 5) (dBin gIx (dV 2) (dV 1))) [5])
noncomputable def b_dating_of : DS := (sSeq (sSet 2 c_dating_of_1)
  (sRet c_dating_of_3))
noncomputable def F_dating_of : List Va → Sto → Rs Va := aut 6 b_dating_of
theorem fin_dating_of (args : List Va) (s : Sto) (wf : WFn s.length s) (wa : vasB s.length args) (hl : args.length = 2) : Fin s.length (b_dating_of (startA 6 args) s) (F_dating_of args s) := fin_autoF _
noncomputable def b_dating : DS := (sRet (dApp (gFn 2 F_dating_of) (dCons (dApp (gFn 2 F_sure_ways) (dCons (dV 0) (dCons (dV 1) dNil))) (dCons (dV 0) dNil))))
noncomputable def F_dating : List Va → Sto → Rs Va := aut 2 b_dating
theorem fin_dating (args : List Va) (s : Sto) (wf : WFn s.length s) (wa : vasB s.length args) (hl : args.length = 2) : Fin s.length (b_dating (startA 2 args) s) (F_dating args s) := fin_autoF _
noncomputable def b_dating_at_L1 : DS := (sDrop (dMt gExtend (dV 7) (dCons (dApp (gFn 2 F_least_steps) (dCons (dV 8) (dCons (dV 0) dNil))) dNil)))
noncomputable def b_dating_at : DS := (sSeq (sSet 5 (dIf (dTB (dBin (gIs false) (dV 2) (dC .non))) (dV 0) (dV 2)))
  (sSeq (sSet 6 (dBin gIx (dApp (gFn 3 F_ends) (dCons (dApp (gFn 2 F_sure_ways) (dCons (dV 0) (dCons (dV 1) dNil))) (dCons (dV 5) (dCons (dV 3) dNil)))) (dApp gInt (dCons (dV 4) dNil))))
  (sSeq (sIf (dTB (dBin (gIs false) (dV 6) (dC .non))) (sRet (dC .non)) sNext)
  (sSeq (sSet 7 (dLst true (dCons (dTup (dCons (dV 5) (dCons (dV 3) (dCons (dV 6) dNil)))) (dCons (dTup (dCons (dV 3) (dCons (dV 5) (dCons (dUn gNeg (dV 6)) dNil)))) dNil))))
  (sSeq (sFor (dSeq (dV 1)) (dgName 8)
   b_dating_at_L1)
  (sRet (dApp (gFn 2 F_dating_of) (dCons (dApp (gFn 2 F_greatest_ways) (dCons (dV 0) (dCons (dV 7) dNil))) (dCons (dV 0) dNil)))))))))
noncomputable def F_dating_at : List Va → Sto → Rs Va := aut 9 b_dating_at
theorem fin_dating_at (args : List Va) (s : Sto) (wf : WFn s.length s) (wa : vasB s.length args) (hl : args.length = 5) : Fin s.length (b_dating_at (startA 9 args) s) (F_dating_at args s) := fin_autoF _
noncomputable def tbOf (n : Nat) (rs : List Rec) : Tb := fw n (edgesR n rs)
theorem round_tb {n : Nat} {rs : List Rec} {s : Sto} (hF : Fits n rs) : F_is_round [tbV n (tbOf n rs)] s = .ok (.bl (!holdB n rs)) s := by
  have hd : DiagV (tbV n (tbOf n rs)) := ⟨n, _, rfl, fun i hi => by obtain ⟨v, h, _⟩ := Dm.fw_diag (n := n) (E := edgesR n rs) i hi; exact ⟨v, h⟩, hF.1⟩
  unfold F_is_round
  simp only [hd, if_true, rbV_tb]
  unfold holdB tbOf
  rw [Bool.not_not]
section
variable {n : Nat} {rs : List Rec} {x : Va} {s : Sto}
theorem sure_ok (wf : WFn s.length s) (hF : Fits n rs) (hx : seqL x s = some (rs.map Rec.va)) (hb : holdB n rs = true) : F_sure_ways [.int n, x] s = .ok (tbV n (tbOf n rs)) s := by
  refine aut_ret0 ?_ vasB_rowsT wf
  have e0 : startA 3 [.int n, x] = [some (.int n), some x, none] := rfl
  have w := ways_eq hF hx
  have r := round_tb (s := s) hF
  rw [hb] at r
  rw [e0]
  unfold b_sure_ways
  simp only [e_seq, e_set, e_App, e_Cons, e_V, List.getElem?_cons_zero, List.getElem?_cons_succ, bind_ok, e_Nil, gFn, List.length_cons, List.length_nil, if_true, w, fl_ok, List.set, e_ifS, e_Tr, show fw n (edgesR n rs) = tbOf n rs from rfl, r, truA, Bool.not_true, if_false, Bool.false_eq_true, e_next, e_ret]
theorem sure_no (wf : WFn s.length s) (hF : Fits n rs) (hx : seqL x s = some (rs.map Rec.va)) (hb : holdB n rs = false) : F_sure_ways [.int n, x] s = .exc "Unsure" s := by
  refine aut_exc (s0 := s) (ε := [some (.int n), some x, some (tbV n (tbOf n rs))]) ?_ List.take_length wf
  have e0 : startA 3 [.int n, x] = [some (.int n), some x, none] := rfl
  have w := ways_eq hF hx
  have r := round_tb (s := s) hF
  rw [hb] at r
  rw [e0]
  unfold b_sure_ways
  simp only [e_seq, e_set, e_App, e_Cons, e_V, List.getElem?_cons_zero, List.getElem?_cons_succ, bind_ok, e_Nil, gFn, List.length_cons, List.length_nil, if_true, w, fl_ok, List.set, e_ifS, e_Tr, show fw n (edgesR n rs) = tbOf n rs from rfl, r, truA, Bool.not_false, e_raise]
end
/-- the ends of a span -/
def negO : Option Int → Option Int := Option.map fun v => -v
def endV (a b : Option Int) : Va := .tup [oV a, oV (negO b)]
theorem oV_b {k : Nat} (o : Option Int) : vaB k (oV o) := vaB_oV o
theorem ends_eq {n i j : Nat} {T : Tb} {s : Sto} (wf : WFn s.length s) (hi : i ≤ n) (hj : j ≤ n) : F_ends [tbV n T, .int i, .int j] s = .ok (endV (T i j) (T j i)) s := by
  refine aut_ret0 ?_ ⟨oV_b _, oV_b _, trivial⟩ wf
  have e0 : startA 4 [tbV n T, .int i, .int j] = [some (tbV n T), some (.int i), some (.int j), none] := rfl
  have a1 := fun i (h : i ≤ n) => tbV_at (T := T) (s := s) h
  have a2 := fun i j (h : j ≤ n) => rowV_at (T := T) (i := i) (s := s) h
  rw [e0]
  unfold b_ends endV
  cases h : T j i with
  | none => simp [a1 i hi, a1 j hj, a2 i j hj, a2 j i hi, h, negO, oV, gIs]
  | some v => simp [a1 i hi, a1 j hj, a2 i j hj, a2 j i hi, is_oV, h, negO, oV, gIs]
section
variable {n a b : Nat} {rs : List Rec} {x : Va} {s : Sto}
theorem span_ok (wf : WFn s.length s) (hF : Fits n rs) (hx : seqL x s = some (rs.map Rec.va)) (hb : holdB n rs = true) (h1 : a ≤ n) (h2 : b ≤ n) : F_span [.int n, x, .int a, .int b] s = .ok (endV (tbOf n rs a b) (tbOf n rs b a)) s := by
  refine aut_ret0 ?_ ⟨oV_b _, oV_b _, trivial⟩ wf
  have e0 : startA 4 [.int n, x, .int a, .int b] = [some (.int n), some x, some (.int a), some (.int b)] := rfl
  rw [e0]
  unfold b_span
  simp [gFn, sure_ok wf hF hx hb, ends_eq wf h1 h2]
theorem span_no (wf : WFn s.length s) (hF : Fits n rs) (hx : seqL x s = some (rs.map Rec.va)) (hb : holdB n rs = false) {y z : Va} : F_span [.int n, x, y, z] s = .exc "Unsure" s := by
  refine aut_exc (s0 := s) (ε := [some (.int n), some x, some y, some z]) ?_ List.take_length wf
  have e0 : startA 4 [.int n, x, y, z] = [some (.int n), some x, some y, some z] := rfl
  rw [e0]
  unfold b_span
  simp [gFn, sure_no wf hF hx hb]
theorem reach_ok (wf : WFn s.length s) (hF : Fits n rs) (hx : seqL x s = some (rs.map Rec.va)) (hb : holdB n rs = true) (h2 : b ≤ n) : F_reach [.int n, x, .int b] s = .ok (endV (tbOf n rs n b) (tbOf n rs b n)) s := by
  refine aut_ret0 ?_ ⟨oV_b _, oV_b _, trivial⟩ wf
  have e0 : startA 3 [.int n, x, .int b] = [some (.int n), some x, some (.int b)] := rfl
  rw [e0]
  unfold b_reach
  simp [gFn, sure_ok wf hF hx hb, ends_eq wf (Nat.le_refl n) h2]
theorem reach_no (wf : WFn s.length s) (hF : Fits n rs) (hx : seqL x s = some (rs.map Rec.va)) (hb : holdB n rs = false) {y : Va} : F_reach [.int n, x, y] s = .exc "Unsure" s := by
  refine aut_exc (s0 := s) (ε := [some (.int n), some x, some y]) ?_ List.take_length wf
  have e0 : startA 3 [.int n, x, y] = [some (.int n), some x, some y] := rfl
  rw [e0]
  unfold b_reach
  simp [gFn, sure_no wf hF hx hb]
end
/-! early, late -/
theorem none_in {os : List (Option Int)} {s : Sto} : gIn false .non (.lst (os.map oV)) s = .ok (.bl (os.any (·.isNone))) s := by
  unfold gIn
  dsimp only
  have h1 : gLook (.lst (os.map oV)) .non s = none := rfl
  rw [h1]
  dsimp only
  have h2 : seqA (.lst (os.map oV)) s = some (os.map oV) := rfl
  rw [h2]
  dsimp only
  have h3 : (os.map oV).all flatA = true := by
    rw [List.all_eq_true]
    intro y hy
    obtain ⟨o, _, rfl⟩ := List.mem_map.mp hy
    cases o <;> rfl
  rw [if_pos ⟨rfl, h3⟩]
  have h4 : inA .non (os.map oV) = os.any (·.isNone) := by
    unfold inA
    rw [List.any_map]
    congr 1
    funext o
    cases o <;> rfl
  rw [h4, Bool.false_bne]
/-- all of some values, if all are there -/
def allV (f : Int → Int) (os : List (Option Int)) : Va := if os.any (·.isNone) then .non else .lst (os.map fun o => oV (o.map f))
def rowN (n : Nat) (T : Tb) : List (Option Int) := (List.range n).map (T n)
def colN (n : Nat) (T : Tb) : List (Option Int) := (List.range n).map fun i => T i n
theorem rgA_nats {n : Nat} : rgA 0 (n : Int) = (List.range n).map fun i => Va.int (i : Nat) := rgA_nat0
theorem vasB_oVs {k : Nat} {f : Int → Int} : ∀ os : List (Option Int), vasB k (os.map fun o => oV (o.map f))
  | [] => trivial
  | o :: os => ⟨oV_b _, vasB_oVs os⟩
theorem allV_b {k : Nat} {f : Int → Int} {os : List (Option Int)} : vaB k (allV f os) := by
  unfold allV
  split
  · trivial
  · exact vasB_oVs os
section
variable {n : Nat} {rs : List Rec} {x : Va} {s : Sto}
theorem early_ok (wf : WFn s.length s) (hF : Fits n rs) (hx : seqL x s = some (rs.map Rec.va)) (hb : holdB n rs = true) : F_early [.int n, x] s = .ok (allV id (rowN n (tbOf n rs))) s := by
  refine aut_ret0 ?_ allV_b wf
  have hn := hF.1
  have e0 : startA 5 [.int n, x] = [some (.int n), some x, none, none, none] := rfl
  have hr : inR (n : Int) := ⟨by omega, by omega⟩
  have C : c_early_1 [some (.int n), some x, some (tbV n (tbOf n rs)), none, none] s = .ok (.lst ((rowN n (tbOf n rs)).map oV)) s := by
    unfold c_early_1
    rw [lc_all (fun i : Nat => Va.int i) (fun i => oV (tbOf n rs n i)) (l := List.range n) (ck := none) (by simp [hr, rgA_nats]) trivial (by rw [List.length_range]; omega) (fun i hi => by
      have hi := List.mem_range.mp hi
      simp [wip, tbV_at (s := s) (T := tbOf n rs) (Nat.le_refl n), rowV_at (s := s) (T := tbOf n rs) (i := n) (show i ≤ n by omega)])]
    rw [g_mkL_f]
    unfold rowN
    rw [List.map_map]
    rfl
  have ni := none_in (os := rowN n (tbOf n rs)) (s := s)
  rw [e0]
  unfold b_early allV
  cases h : (rowN n (tbOf n rs)).any (·.isNone) with
  | true =>
    rw [h] at ni
    simp [gFn, sure_ok wf hF hx hb, C, ni]
  | false =>
    rw [h] at ni
    simp [gFn, sure_ok wf hF hx hb, C, ni]
theorem early_no (wf : WFn s.length s) (hF : Fits n rs) (hx : seqL x s = some (rs.map Rec.va)) (hb : holdB n rs = false) : F_early [.int n, x] s = .exc "Unsure" s := by
  refine aut_exc (s0 := s) (ε := [some (.int n), some x, none, none, none]) ?_ List.take_length wf
  have e0 : startA 5 [.int n, x] = [some (.int n), some x, none, none, none] := rfl
  rw [e0]
  unfold b_early
  simp [gFn, sure_no wf hF hx hb]
theorem late_ok (wf : WFn s.length s) (hF : Fits n rs) (hx : seqL x s = some (rs.map Rec.va)) (hb : holdB n rs = true) : F_late [.int n, x] s = .ok (allV (fun v => -v) (colN n (tbOf n rs))) s := by
  refine aut_ret0 ?_ allV_b wf
  have hn := hF.1
  have e0 : startA 6 [.int n, x] = [some (.int n), some x, none, none, none, none] := rfl
  have hr : inR (n : Int) := ⟨by omega, by omega⟩
  have C : c_late_1 [some (.int n), some x, some (tbV n (tbOf n rs)), none, none, none] s = .ok (.lst ((colN n (tbOf n rs)).map oV)) s := by
    unfold c_late_1
    rw [lc_all (fun i : Nat => Va.int i) (fun i => oV (tbOf n rs i n)) (l := List.range n) (ck := none) (by simp [hr, rgA_nats]) trivial (by rw [List.length_range]; omega) (fun i hi => by
      have hi := List.mem_range.mp hi
      simp [wip, tbV_at (s := s) (T := tbOf n rs) (show i ≤ n by omega), rowV_at (s := s) (T := tbOf n rs) (i := i) (Nat.le_refl n)])]
    rw [g_mkL_f]
    unfold colN
    rw [List.map_map]
    rfl
  have ni := none_in (os := colN n (tbOf n rs)) (s := s)
  have ln : (colN n (tbOf n rs)).length = n := by unfold colN; rw [List.length_map, List.length_range]
  generalize hos : colN n (tbOf n rs) = os at C ni ln ⊢
  rw [e0]
  unfold b_late allV
  cases h : os.any (·.isNone) with
  | true =>
    rw [h] at ni
    simp [gFn, sure_ok wf hF hx hb, C, ni]
  | false =>
    rw [h] at ni
    have C2 : c_late_2 [some (.int n), some x, some (tbV n (tbOf n rs)), some (.lst (os.map oV)), none, none] s = .ok (.lst (os.map fun o => oV (o.map fun v => -v))) s := by
      unfold c_late_2
      rw [lc_all (α := Option Int) oV (fun o => oV (o.map fun v => -v)) (l := os) (ck := none) rfl trivial (by rw [ln]; omega) (fun o ho => by
        cases o with
        | none => exact absurd (List.any_eq_true.mpr ⟨none, ho, rfl⟩) (by rw [h]; decide)
        | some v => rfl)]
      rfl
    simp [gFn, sure_ok wf hF hx hb, C, ni, C2]
theorem late_no (wf : WFn s.length s) (hF : Fits n rs) (hx : seqL x s = some (rs.map Rec.va)) (hb : holdB n rs = false) : F_late [.int n, x] s = .exc "Unsure" s := by
  refine aut_exc (s0 := s) (ε := [some (.int n), some x, none, none, none, none]) ?_ List.take_length wf
  have e0 : startA 6 [.int n, x] = [some (.int n), some x, none, none, none, none] := rfl
  rw [e0]
  unfold b_late
  simp [gFn, sure_no wf hF hx hb]
end
/-! datings -/
def colM (n : Nat) (T : Tb) (j : Nat) : Int := maxI (colL n T j)
/-- the dating of a table -/
def datM (n : Nat) (T : Tb) : List Int := (List.range n).map fun j => colM n T j - colM n T n
theorem datM_len {n : Nat} {T : Tb} : (datM n T).length = n := by
  unfold datM
  rw [List.length_map, List.length_range]
theorem slL {xs : List Va} {lo hi : Option Int} {s : Sto} : gSl false (.lst xs) lo hi s = .ok (.lst (cutA xs lo hi)) s := rfl
theorem cut_to {xs : List Va} {n : Nat} (h : n ≤ xs.length) : cutA xs none (some (n : Int)) = xs.take n := by
  have e1 : HT.sIx xs.length 0 none = 0 := rfl
  have e2 : HT.sIx xs.length xs.length (some (n : Int)) = n := by
    unfold HT.sIx
    dsimp only
    rw [if_neg (by omega)]
    omega
  unfold cutA
  rw [e1, e2]
  rfl
theorem datOf_eq {n : Nat} {T : Tb} {s : Sto} (wf : WFn s.length s) (hn : n ≤ 1000) (hd : ∀ j, j ≤ n → colL n T j ≠ []) : F_dating_of [tbV n T, .int n] s = .ok (.lst ((datM n T).map .int)) s := by
  refine aut_ret0 ?_ vasB_ints wf
  have e0 : startA 6 [tbV n T, .int n] = [some (tbV n T), some (.int n), none, none, none, none] := rfl
  have hr : inR ((n : Int) + 1) := ⟨by omega, by omega⟩
  have C2 : ∀ j, j ≤ n → c_dating_of_2 [some (tbV n T), some (.int n), none, none, some (.int j), none] s = .ok (.lst ((colL n T j).map .int)) s := fun j hj => by
    unfold c_dating_of_2
    rw [lc_eq (fun i : Nat => Va.int i) (fun i => oV (T i j)) (fun i => (T i j).isSome) (l := List.range (n + 1)) (ck := none) (by simp [hr, rgA_nat]) trivial (by rw [List.length_range]; omega) (fun i hi => by
      have hi := List.mem_range.mp hi
      simp [wip, tbV_at (s := s) (T := T) (show i ≤ n by omega), rowV_at (s := s) (T := T) (i := i) hj, not_oV]) (fun i hi _ => by
      have hi := List.mem_range.mp hi
      simp [wip, tbV_at (s := s) (T := T) (show i ≤ n by omega), rowV_at (s := s) (T := T) (i := i) hj])]
    rw [g_mkL_f]
    congr 2
    unfold colL
    clear hd
    induction List.range (n + 1) with
    | nil => rfl
    | cons i l ih =>
      rw [List.filter_cons, List.filterMap_cons]
      cases h : T i j with
      | none => simpa using ih
      | some v => simpa [h, oV] using ih
  have C1 : c_dating_of_1 [some (tbV n T), some (.int n), none, none, none, none] s = .ok (.lst ((List.range (n + 1)).map fun j => .int (colM n T j))) s := by
    unfold c_dating_of_1
    rw [lc_all (fun i : Nat => Va.int i) (fun j => .int (colM n T j)) (l := List.range (n + 1)) (ck := none) (by simp [hr, rgA_nat]) trivial (by rw [List.length_range]; omega) (fun j hj => by
      have hj := List.mem_range.mp hj
      have c2 := C2 j (by omega)
      have m := max_ints (s := s) (hd j (by omega))
      simp [wip, c2, m, colM])]
    rfl
  generalize hL : ((List.range (n + 1)).map fun j => Va.int (colM n T j)) = L at C1
  have lL : L.length = n + 1 := by rw [← hL, List.length_map, List.length_range]
  have at_n : atI L n = some (.int (colM n T n)) := by
    rw [atI_in (d := .non) (by omega) (by omega), Int.toNat_natCast, ← hL, getD_map (fun j => Va.int (colM n T j)) _ n 0 .non (by rw [List.length_range]; omega), List.getD_eq_getElem?_getD, List.getElem?_range (by omega)]
    rfl
  have tk : L.take n = (List.range n).map fun j => Va.int (colM n T j) := by
    rw [← hL, ← List.map_take, List.take_range, Nat.min_eq_left (by omega)]
  have C3 : c_dating_of_3 [some (tbV n T), some (.int n), some (.lst L), none, none, none] s = .ok (.lst ((datM n T).map .int)) s := by
    unfold c_dating_of_3
    rw [lc_all (fun j : Nat => Va.int (colM n T j)) (fun j => .int (colM n T j - colM n T n)) (l := List.range n) (ck := none) (by
      unfold dSeq
      simp only [e_Sl, e_V, List.getElem?_cons_zero, List.getElem?_cons_succ, bind_ok, e_No, e_Some, slL, cut_to (show n ≤ L.length by omega), tk]) trivial (by rw [List.length_range]; omega) (fun j hj => by
      simp [wip, at_n])]
    rw [g_mkL_f]
    unfold datM
    rw [List.map_map]
    rfl
  rw [e0]
  unfold b_dating_of
  simp [C1, C3]
theorem datM_feas {n : Nat} {E : List Edge} (hE : InN n E) (h : Holds E) : Feas E fun i => if i < n then yr (datM n (fw n E)) (i : Nat) else if i = n then 0 else 0 := by
  have c := Dm.holds_calm (n := n) h
  have f := Dm.feas_shift (Dm.col_feas hE c (y := colM n (fw n E)) fun j hj => maxI_p (Dm.col_ne c hj)) (colM n (fw n E) n)
  intro e he
  obtain ⟨h1, h2⟩ := hE e he
  have q := f e he
  have key : ∀ i, i ≤ n → (if i < n then yr (datM n (fw n E)) (i : Nat) else if i = n then 0 else 0) = colM n (fw n E) i - colM n (fw n E) n := fun i hi => by
    by_cases z : i < n
    · rw [if_pos z]
      unfold yr datM
      rw [Int.toNat_natCast, getD_map (fun j => colM n (fw n E) j - colM n (fw n E) n) _ i 0 0 (by rw [List.length_range]; exact z), List.getD_eq_getElem?_getD, List.getElem?_range z]
      rfl
    · rw [if_neg z, show i = n by omega, if_pos rfl]
      omega
  dsimp only at q ⊢
  rw [key _ h1, key _ h2]
  exact q
/-- a dating that keeps all steps keeps all records -/
theorem feas_keeps {n : Nat} {ys : List Int} {rs : List Rec} (hl : ys.length = n) (hf : ∀ r ∈ rs, r.fits n) (h : Feas (edgesR n rs) fun i => if i < n then yr ys (i : Nat) else if i = n then 0 else 0) : ∀ r ∈ rs, r.keeps ys = true := by
  intro r hr
  have g := hf r hr
  have q : Feas (r.edges n) (fun i => if i < n then yr ys (i : Nat) else if i = n then 0 else 0) := fun e he => h e (List.mem_flatMap.mpr ⟨r, hr, he⟩)
  have yv : ∀ a : Int, 0 ≤ a ∧ a < n → (if a.toNat < n then yr ys (a.toNat : Nat) else if a.toNat = n then 0 else 0) = yr ys a := fun a ha => by
    rw [if_pos (by omega), toNat_of ha]
  cases r with
  | before a b w =>
    obtain ⟨g1, g2⟩ := g
    have q1 := q _ (show (a.toNat, b.toNat, w) ∈ _ from List.mem_cons_self)
    dsimp only at q1
    rw [yv a g1, yv b g2] at q1
    exact decide_eq_true q1
  | same a b =>
    obtain ⟨g1, g2⟩ := g
    have q1 := q _ (show (a.toNat, b.toNat, 0) ∈ _ from List.mem_cons_self)
    have q2 := q _ (show (b.toNat, a.toNat, 0) ∈ _ from List.mem_cons_of_mem _ List.mem_cons_self)
    dsimp only at q1 q2
    rw [yv a g1, yv b g2] at q1 q2
    exact decide_eq_true (show yr ys a = yr ys b by omega)
  | within a b w =>
    obtain ⟨g1, g2⟩ := g
    have q1 := q _ (show (b.toNat, a.toNat, -w) ∈ _ from List.mem_cons_self)
    dsimp only at q1
    rw [yv a g1, yv b g2] at q1
    exact decide_eq_true (show yr ys b ≤ yr ys a + w by omega)
  | since a y w =>
    have q1 := q _ (show (n, a.toNat, y) ∈ _ from List.mem_cons_self)
    dsimp only at q1
    rw [yv a g, if_neg (Nat.lt_irrefl n), if_pos rfl] at q1
    exact decide_eq_true (show y ≤ yr ys a by omega)
  | upto a y w =>
    have q1 := q _ (show (a.toNat, n, -y) ∈ _ from List.mem_cons_self)
    dsimp only at q1
    rw [yv a g, if_neg (Nat.lt_irrefl n), if_pos rfl] at q1
    exact decide_eq_true (show yr ys a ≤ y by omega)
  | kind a k => rfl
section
variable {n : Nat} {rs : List Rec} {x : Va} {s : Sto}
theorem dating_ok (wf : WFn s.length s) (hF : Fits n rs) (hx : seqL x s = some (rs.map Rec.va)) (hb : holdB n rs = true) : F_dating [.int n, x] s = .ok (.lst ((datM n (tbOf n rs)).map .int)) s := by
  refine aut_ret0 ?_ vasB_ints wf
  have hH := (holdB_iff hF.2.2).mp hb
  have d := datOf_eq (T := tbOf n rs) wf hF.1 fun j hj => Dm.col_ne (Dm.holds_calm hH) hj
  have e0 : startA 2 [.int n, x] = [some (.int n), some x] := rfl
  rw [e0]
  unfold b_dating
  simp [gFn, sure_ok wf hF hx hb, d]
theorem dating_no (wf : WFn s.length s) (hF : Fits n rs) (hx : seqL x s = some (rs.map Rec.va)) (hb : holdB n rs = false) : F_dating [.int n, x] s = .exc "Unsure" s := by
  refine aut_exc (s0 := s) (ε := [some (.int n), some x]) ?_ List.take_length wf
  have e0 : startA 2 [.int n, x] = [some (.int n), some x] := rfl
  rw [e0]
  unfold b_dating
  simp [gFn, sure_no wf hF hx hb]
theorem datM_keeps (hF : Fits n rs) (hb : holdB n rs = true) : ∀ r ∈ rs, r.keeps (datM n (tbOf n rs)) = true :=
  feas_keeps datM_len hF.2.2 (datM_feas (edgesR_in hF.2.2) ((holdB_iff hF.2.2).mp hb))
end
end Dn

set_option Elab.async false
set_option linter.all false
set_option maxRecDepth 100000
set_option maxHeartbeats 1000000
/-! Dn, part Lw: what each law begins with and ends with. -/
namespace Dn
open PySem PySem.Spec PyProof.Rows L2
open Dm (Edge Tb fw InN Calm Holds Feas colL)
theorem wf1 {t : Stm} : WFn [t.ob].length [t.ob] := fun o ho => by
  rw [List.mem_singleton.mp ho]
  exact t.b _
theorem draw1 {t : Stm} {m : Int} (h1 : 0 < m) (h2 : m < 1073741824) : F_l_draw [.ref 0, .int m] [t.ob] = .ok (.int (t.draw m).1) [(t.draw m).2.ob] := draw_eq (stAt_of rfl) h1 h2
theorem stream1 (ns : List Int) : F_l_stream [.ext (ns.map .int)] [] = .ok (.ref 0) [(Stm.mk0 ns).ob] := by
  unfold F_l_stream
  dsimp only
  rw [intsOf_map]
  rfl
theorem units1 {t : Stm} : ∃ (n : Nat) (u : Stm), F_l_units [.ref 0] [t.ob] = .ok (.int n) [u.ob] ∧ 1 ≤ n ∧ n ≤ 12 := by
  have h := unitsM_in t
  obtain ⟨n, hn⟩ := Int.eq_ofNat_of_zero_le (show 0 ≤ (unitsM t).1 by omega)
  refine ⟨n, (unitsM t).2, ?_, by omega, by omega⟩
  unfold F_l_units
  simp only [show stAt [t.ob] 0 = some t from stAt_of rfl]
  rw [← hn]
  rfl
theorem recs1 {t : Stm} {n : Nat} {ws : List Str} {m : Int} (h1 : 1 ≤ n) (h2 : n ≤ 1000) (hw : 0 < ws.length ∧ ws.length ≤ 1000) (h6 : ∀ x ∈ ws, x ∈ sixWords) (hm : 0 ≤ m ∧ m ≤ 500) :
    ∃ (rs : List Rec) (u : Stm), F_l_records [.ref 0, .int n, .lst (ws.map .str), .int m] [t.ob] = .ok (.lst (rs.map Rec.va)) [u.ob] ∧ rs.length ≤ m.toNat ∧ ∀ r ∈ rs, r.nice n :=
  recs_eq wf1 (stAt_of rfl) h1 h2 hw h6 hm
theorem fits_of {n : Nat} {rs : List Rec} (h1 : n ≤ 1000) (h2 : rs.length ≤ 10000) (h : ∀ r ∈ rs, r.nice n) : Fits n rs := ⟨h1, h2, fun r hr => (h r hr).1⟩
mutual
theorem sameB_refl : ∀ x : Va, datB x = true → sameB x x = true
  | .non, _ => rfl
  | .bl b, _ => decide_eq_true rfl
  | .int i, _ => decide_eq_true rfl
  | .str a, _ => decide_eq_true rfl
  | .tup xs, h => samesB_refl xs (datB_seq.1 h).2
  | .lst xs, h => samesB_refl xs (datB_seq.2 h).2
  | .ext _, h => by cases h
  | .dicK _, h => by cases h
  | .dicT _, h => by cases h
  | .ref _, h => by cases h
theorem samesB_refl : ∀ xs : List Va, datsB xs = true → samesB xs xs = true
  | [], _ => rfl
  | x :: xs, h => by
    unfold datsB at h
    rw [Bool.and_eq_true] at h
    unfold samesB
    rw [sameB_refl x h.1, samesB_refl xs h.2]
    rfl
end
theorem same_ok {x y : Va} {s : Sto} (h1 : datB x = true) (h2 : datB y = true) (h3 : dep y < 6) : F_l_same 6 [x, y] s = .ok (.bl (sameB x y)) s := by
  rw [same_eq, if_pos ⟨h1, h2, h3⟩]
theorem same_self {x : Va} {s : Sto} (h2 : datB x = true) (h3 : dep x < 6) : F_l_same 6 [x, x] s = .ok (.bl true) s := by
  rw [same_ok h2 h2 h3, sameB_refl x h2]
theorem rec_dat (r : Rec) : datB r.va = true := by
  cases r <;> rfl
theorem rec_dep (r : Rec) : dep r.va ≤ 1 := by
  cases r <;> exact Nat.le_refl _
theorem recs_dats : ∀ rs : List Rec, datsB (rs.map Rec.va) = true
  | [] => rfl
  | r :: rs => by
    rw [List.map_cons, datsB, rec_dat r, recs_dats rs]
    rfl
theorem recs_deps : ∀ rs : List Rec, deps (rs.map Rec.va) ≤ 1
  | [] => Nat.zero_le _
  | r :: rs => by
    rw [List.map_cons, deps]
    exact Nat.max_le.mpr ⟨rec_dep r, recs_deps rs⟩
theorem recs_dat {rs : List Rec} (h : rs.length ≤ 100000) : datB (.lst (rs.map Rec.va)) = true := by
  unfold datB
  rw [recs_dats, List.length_map, decide_eq_true h]
  rfl
theorem recs_dep {rs : List Rec} : dep (.lst (rs.map Rec.va)) < 6 := by
  have := recs_deps rs
  unfold dep
  omega
theorem same_recs {rs : List Rec} {s : Sto} (h : rs.length ≤ 100000) : F_l_same 6 [.lst (rs.map Rec.va), .lst (rs.map Rec.va)] s = .ok (.bl true) s := same_self (recs_dat h) recs_dep
theorem knot_eq {n : Nat} {rs : List Rec} {x : Va} {s : Sto} (hF : Fits n rs) (hx : seqL x s = some (rs.map Rec.va)) : F_knot [.int n, x] s = .ok (knotV n rs) s := by
  unfold F_knot
  simp only [hx, recsOf_map]
  rw [if_pos ⟨by omega, by rw [Int.toNat_natCast]; exact hF⟩, Int.toNat_natCast]
/-- all([isinstance(y, int) and not isinstance(y, bool) for y in ys]) -/
theorem ints_all {ys : List Int} {s : Sto} {ε : En} {j : Nat} {de : DE} (h : de ε s = .ok (.lst (ys.map .int)) s) (hl : ys.length ≤ 100000) (hj : j < ε.length) : dApp gAll (dCons (dLc false (dSeq de) (dgName j) dYes (dAndV (dUn (gIsi "int") (dV j)) (dNotV (dUn (gIsi "bool") (dV j)))) [j]) dNil) ε s = .ok (.bl true) s := by
  have C : dLc false (dSeq de) (dgName j) dYes (dAndV (dUn (gIsi "int") (dV j)) (dNotV (dUn (gIsi "bool") (dV j)))) [j] ε s = .ok (.lst (ys.map fun _ => .bl true)) s := by
    rw [lc_all (α := Int) Va.int (fun _ => .bl true) (l := ys) (ck := none) (seq_lst h) trivial hl (fun y _ => by
      have e : ((wip ε [j]).set j (some (Va.int y)))[j]? = some (some (.int y)) := List.getElem?_set_self (by
        show j < (ε.set j none).length
        rw [List.length_set]
        exact hj)
      simp [e, truA])]
    rfl
  have A := all_bl (fun _ : Int => true) (l := ys) (s := s)
  have e2 : ys.all (fun _ => true) = true := List.all_eq_true.mpr fun _ _ => rfl
  rw [e2] at A
  simp only [e_App, e_Cons, C, bind_ok, e_Nil, A]
end Dn

set_option Elab.async false
set_option linter.all false
set_option maxRecDepth 100000
set_option maxHeartbeats 1000000
/-! Dn, part Sq: a dating at an end; the law's ends. -/
namespace Dn
open PySem PySem.Spec PyProof.Rows L2
open Dm (Edge Tb fw InN Calm Holds Feas colL)
/-- the year of a place: of a unit, or 0 -/
def plc (n : Nat) (ys : List Int) (i : Nat) : Int := if i < n then yr ys (i : Nat) else if i = n then 0 else 0
theorem at_loop {s : Sto} {n : Nat} {e1 e2 e3 e4 e5 e6 : Option Va} {ck : Option (Nat × List Va)} (hck : ∀ s2, okk ck (s ++ s2)) (rs : List Rec) (E : List Edge) (h : ∀ r ∈ rs, r.fits n) (hl : E.length + 2 * rs.length ≤ 100000) :
    ∃ f8, lp ck (fBody (dgName 8) b_dating_at_L1) (rs.map Rec.va) [some (.int n), e1, e2, e3, e4, e5, e6, some (.ref s.length), none] (s ++ [.lst (E.map edV)]) = .nx [some (.int n), e1, e2, e3, e4, e5, e6, some (.ref s.length), f8] (s ++ [.lst ((E ++ edgesR n rs).map edV)]) := by
  obtain ⟨ε', s', L, f8, rfl, rfl⟩ := lp_inv Rec.va (ck := ck) (body := fBody (dgName 8) b_dating_at_L1) (fun d ε s' => ∃ f8, ε = [some (.int n), e1, e2, e3, e4, e5, e6, some (.ref s.length), f8] ∧ s' = s ++ [.lst ((E ++ edgesR n d).map edV)]) (fun d ε s' ⟨_, _, e⟩ => by rw [e]; exact hck _) rs []
    [some (.int n), e1, e2, e3, e4, e5, e6, some (.ref s.length), none] (s ++ [.lst (E.map edV)]) ⟨none, rfl, by unfold edgesR; rw [List.flatMap_nil, List.append_nil]⟩ (by
      rintro d r rest ε s2 hx ⟨f8, rfl, rfl⟩
      rw [List.nil_append] at hx
      have hr : r.fits n := h r (by rw [hx]; exact List.mem_append_right _ List.mem_cons_self)
      have dl : d.length ≤ rs.length := by rw [hx, List.length_append]; omega
      have ef := edgesR_few (n := n) d
      have few := edges_few (n := n) r
      have px := push_app (s := s) (E := (E ++ edgesR n d).map edV) (F := (r.edges n).map edV) (by rw [List.length_map, List.length_append]; omega) (by rw [List.length_map]; omega)
      rw [← List.map_append] at px
      refine ⟨_, _, ?_, some r.va, rfl, rfl⟩
      have il := isL_top (s := s) (E := (E ++ edgesR n d).map edV)
      have e : E ++ edgesR n (d ++ [r]) = E ++ edgesR n d ++ r.edges n := by
        unfold edgesR
        rw [List.flatMap_append, List.flatMap_singleton, List.append_assoc]
      rw [e, e_fBody, e_dgName]
      unfold b_dating_at_L1
      simp only [List.set, e_drop, e_Mt, e_V, List.getElem?_cons_zero, List.getElem?_cons_succ, bind_ok, il, if_true, e_Cons, e_App, e_Nil, gFn, List.length_cons, List.length_nil, least_eq hr, px, fl_ok])
  rw [List.nil_append] at L
  exact ⟨f8, L⟩
theorem dating_at_tail {n p b : Nat} {e : Int} {rs : List Rec} {x v2 v4 : Va} {s : Sto} (wf : WFn s.length s) (hF : Fits n rs) (hx : seqL x s = some (rs.map Rec.va)) (hp : p ≤ n) (hb : b ≤ n) (hH : Holds ((p, b, e) :: (b, p, -e) :: edgesR n rs)) :
    ∃ (ys : List Int) (f8 : Option Va) (o : Ob), (sSeq (sSet 7 (dLst true (dCons (dTup (dCons (dV 5) (dCons (dV 3) (dCons (dV 6) dNil)))) (dCons (dTup (dCons (dV 3) (dCons (dV 5) (dCons (dUn gNeg (dV 6)) dNil)))) dNil))))
      (sSeq (sFor (dSeq (dV 1)) (dgName 8) b_dating_at_L1)
      (sRet (dApp (gFn 2 F_dating_of) (dCons (dApp (gFn 2 F_greatest_ways) (dCons (dV 0) (dCons (dV 7) dNil))) (dCons (dV 0) dNil)))))) [some (.int n), some x, some v2, some (.int b), some v4, some (.int p), some (.int e), none, none] s = .ret (.lst (ys.map .int)) (s ++ [o]) ∧
      ys.length = n ∧ (∀ r ∈ rs, r.keeps ys = true) ∧ plc n ys b - plc n ys p = e := by
  have h1 := hF.1
  have h2 := hF.2.1
  obtain ⟨ck, hck⟩ := seq_push hx
  obtain ⟨f8, L⟩ := at_loop (s := s) (n := n) (e1 := some x) (e2 := some v2) (e3 := some (.int b)) (e4 := some v4) (e5 := some (.int p)) (e6 := some (.int e)) (ck := ck) (fun s2 => (hck s2).1) rs [(p, b, e), (b, p, -e)] hF.2.2 (by simp; omega)
  have S := (hck [.lst ([((p, b, e) : Edge), (b, p, -e)].map edV)]).2 (dV 1) [some (.int n), some x, some v2, some (.int b), some v4, some (.int p), some (.int e), some (.ref s.length), none] rfl
  generalize hE : ([(p, b, e), (b, p, -e)] : List Edge) ++ edgesR n rs = E at L
  have hE2 : E = (p, b, e) :: (b, p, -e) :: edgesR n rs := by rw [← hE]; rfl
  have hIn : InN n E := by
    rw [hE2]
    intro q hq
    rcases List.mem_cons.mp hq with rfl | hq
    · exact ⟨hp, hb⟩
    · rcases List.mem_cons.mp hq with rfl | hq
      · exact ⟨hb, hp⟩
      · exact edgesR_in hF.2.2 q hq
  rw [← hE2] at hH
  have hs : seqL (.ref s.length) (s ++ [Ob.lst (E.map edV)]) = some (E.map edV) := by
    unfold seqL
    simp only [List.getElem?_concat_length]
  have wf2 : WFn (s ++ [Ob.lst (E.map edV)]).length (s ++ [Ob.lst (E.map edV)]) := wf_push wf vasB_eds
  have hg := gw_eq (s := s ++ [Ob.lst (E.map edV)]) (n := n) (E := E) (x := .ref s.length) wf2 h1 hIn hs
  have hd := datOf_eq (T := fw n E) (n := n) wf2 h1 fun j hj => Dm.col_ne (Dm.holds_calm hH) hj
  have hd : F_dating_of [.lst ((tbR n (fw n E)).map .lst), .int n] (s ++ [Ob.lst (E.map edV)]) = .ok (.lst ((datM n (fw n E)).map .int)) (s ++ [Ob.lst (E.map edV)]) := hd
  have f := datM_feas hIn hH
  refine ⟨datM n (fw n E), f8, .lst (E.map edV), ?_, datM_len, feas_keeps datM_len hF.2.2 (fun q hq => f q (by rw [hE2]; exact List.mem_cons_of_mem _ (List.mem_cons_of_mem _ hq))), ?_⟩
  · have e2 : [some (Va.int n), some x, some v2, some (.int b), some v4, some (.int p), some (.int e), none, none].set 7 (some (.ref s.length)) = [some (Va.int n), some x, some v2, some (.int b), some v4, some (.int p), some (.int e), some (.ref s.length), none] := rfl
    have e3 : evA (dCons (dTup (dCons (dV 5) (dCons (dV 3) (dCons (dV 6) dNil)))) (dCons (dTup (dCons (dV 3) (dCons (dV 5) (dCons (dUn gNeg (dV 6)) dNil)))) dNil)) [some (Va.int n), some x, some v2, some (.int b), some v4, some (.int p), some (.int e), none, none] s = .ok ([((p, b, e) : Edge), (b, p, -e)].map edV) s := rfl
    rw [e_seq, e_set, e_Lst, e3]
    simp only [bind_ok, g_mkL_t, fl_ok, e2]
    rw [e_seq, e_for, S]
    simp only [fl_ok, L, e_ret, e_App, e_Cons, e_V, List.getElem?_cons_zero, List.getElem?_cons_succ, bind_ok, e_Nil, gFn, List.length_cons, List.length_nil, if_true, hg, hd]
  · have q1 := f (p, b, e) (by rw [hE2]; exact List.mem_cons_self)
    have q2 := f (b, p, -e) (by rw [hE2]; exact List.mem_cons_of_mem _ List.mem_cons_self)
    unfold plc
    dsimp only at q1 q2 ⊢
    omega
/-- a unit, or the year 0 -/
def plV (n p : Nat) (v : Va) : Prop := v = .int p ∧ p < n ∨ v = .non ∧ p = n
noncomputable def endO (n : Nat) (rs : List Rec) (p b : Nat) (most : Bool) : Option Int := if most then negO (tbOf n rs b p) else tbOf n rs p b
theorem fasten_end {n p b : Nat} {rs : List Rec} {most : Bool} {e : Int} (hF : Fits n rs) (hb : holdB n rs = true) (hp : p ≤ n) (hbn : b ≤ n) (he : endO n rs p b most = some e) : Holds ((p, b, e) :: (b, p, -e) :: edgesR n rs) := by
  have hH := (holdB_iff hF.2.2).mp hb
  have hI := edgesR_in hF.2.2
  cases most with
  | false => exact Dm.fasten hI hH hp hbn he
  | true =>
    unfold endO negO at he
    rw [if_pos rfl] at he
    obtain ⟨w, hw, h2⟩ := Option.map_eq_some_iff.mp he
    have h := Dm.fasten hI hH hbn hp hw
    obtain ⟨y, hy⟩ := h
    refine ⟨y, fun q hq => ?_⟩
    rcases List.mem_cons.mp hq with rfl | hq
    · have := hy (p, b, -w) (List.mem_cons_of_mem _ List.mem_cons_self)
      rw [← h2]
      exact this
    · rcases List.mem_cons.mp hq with rfl | hq
      · have := hy (b, p, w) List.mem_cons_self
        dsimp only at this ⊢
        omega
      · exact hy q (List.mem_cons_of_mem _ (List.mem_cons_of_mem _ hq))
theorem end_at {n p b : Nat} {rs : List Rec} {most : Bool} {s : Sto} : gIx (endV (tbOf n rs p b) (tbOf n rs b p)) (.int (if most then 1 else 0)) s = .ok (oV (endO n rs p b most)) s := by
  cases most <;> rfl
theorem dating_at_some {n p b : Nat} {rs : List Rec} {x v : Va} {s : Sto} {most : Bool} {e : Int} (wf : WFn s.length s) (hF : Fits n rs) (hx : seqL x s = some (rs.map Rec.va)) (hb : holdB n rs = true) (hv : plV n p v) (hbn : b < n) (he : endO n rs p b most = some e) :
    ∃ ys : List Int, F_dating_at [.int n, x, v, .int b, .bl most] s = .ok (.lst (ys.map .int)) s ∧ ys.length = n ∧ (∀ r ∈ rs, r.keeps ys = true) ∧ plc n ys b - plc n ys p = e := by
  have hp : p ≤ n := by rcases hv with ⟨_, h⟩ | ⟨_, h⟩ <;> omega
  obtain ⟨ys, f8, o, h1, h2, h3, h4⟩ := dating_at_tail (v2 := v) (v4 := .bl most) wf hF hx hp (Nat.le_of_lt hbn) (fasten_end hF hb hp (Nat.le_of_lt hbn) he)
  refine ⟨ys, aut_ret (s0 := s ++ [o]) ?_ (List.take_left' rfl) vasB_ints wf, h2, h3, h4⟩
  have e0 : startA 9 [.int n, x, v, .int b, .bl most] = [some (.int n), some x, some v, some (.int b), some (.bl most), none, none, none, none] := rfl
  have sw := sure_ok wf hF hx hb
  have en := ends_eq (T := tbOf n rs) (i := p) (j := b) wf hp (Nat.le_of_lt hbn)
  have ea := end_at (n := n) (p := p) (b := b) (rs := rs) (most := most) (s := s)
  rw [he] at ea
  rw [e0]
  unfold b_dating_at
  generalize (sSeq (sSet 7 _) _) = Q at h1 ⊢
  have pv : (dIf (dTB (dBin (gIs false) (dV 2) (dC .non))) (dV 0) (dV 2)) [some (.int n), some x, some v, some (.int b), some (.bl most), none, none, none, none] s = .ok (.int p) s := by
    rcases hv with ⟨rfl, _⟩ | ⟨rfl, rfl⟩
    · simp [gIs]
    · simp [gIs]
  generalize (dIf (dTB (dBin (gIs false) (dV 2) (dC .non))) (dV 0) (dV 2)) = PV at pv ⊢
  have oi : oV (some e) = .int e := rfl
  simp only [e_seq, e_set, pv, fl_ok, List.set, e_Bin, e_App, e_Cons, e_V, List.getElem?_cons_zero, List.getElem?_cons_succ, bind_ok, e_Nil, gFn, List.length_cons, List.length_nil, if_true, sw, en, g_int_bl, ea, oi, e_ifS, e_TB, e_C, gIs, Bool.false_bne, Bool.false_eq_true, if_false, e_next, h1]
theorem dating_at_none {n p b : Nat} {rs : List Rec} {x v : Va} {s : Sto} {most : Bool} (wf : WFn s.length s) (hF : Fits n rs) (hx : seqL x s = some (rs.map Rec.va)) (hb : holdB n rs = true) (hv : plV n p v) (hbn : b < n) (he : endO n rs p b most = none) :
    F_dating_at [.int n, x, v, .int b, .bl most] s = .ok .non s := by
  have hp : p ≤ n := by rcases hv with ⟨_, h⟩ | ⟨_, h⟩ <;> omega
  refine aut_ret0 ?_ trivial wf
  have e0 : startA 9 [.int n, x, v, .int b, .bl most] = [some (.int n), some x, some v, some (.int b), some (.bl most), none, none, none, none] := rfl
  have sw := sure_ok wf hF hx hb
  have en := ends_eq (T := tbOf n rs) (i := p) (j := b) wf hp (Nat.le_of_lt hbn)
  have ea := end_at (n := n) (p := p) (b := b) (rs := rs) (most := most) (s := s)
  rw [he] at ea
  rw [e0]
  unfold b_dating_at
  generalize (sSeq (sSet 7 _) _) = Q
  have pv : (dIf (dTB (dBin (gIs false) (dV 2) (dC .non))) (dV 0) (dV 2)) [some (.int n), some x, some v, some (.int b), some (.bl most), none, none, none, none] s = .ok (.int p) s := by
    rcases hv with ⟨rfl, _⟩ | ⟨rfl, rfl⟩
    · simp [gIs]
    · simp [gIs]
  generalize (dIf (dTB (dBin (gIs false) (dV 2) (dC .non))) (dV 0) (dV 2)) = PV at pv ⊢
  have oi : oV none = .non := rfl
  simp [pv, gFn, sw, en, ea, oi, gIs]
theorem dating_at_no {n : Nat} {rs : List Rec} {x v z y : Va} {s : Sto} (wf : WFn s.length s) (hF : Fits n rs) (hx : seqL x s = some (rs.map Rec.va)) (hb : holdB n rs = false) (hv : (∃ p : Nat, v = .int p) ∨ v = .non) : F_dating_at [.int n, x, v, z, y] s = .exc "Unsure" s := by
  have e0 : startA 9 [.int n, x, v, z, y] = [some (.int n), some x, some v, some z, some y, none, none, none, none] := rfl
  obtain ⟨pv, h⟩ : ∃ pv, (dIf (dTB (dBin (gIs false) (dV 2) (dC .non))) (dV 0) (dV 2)) [some (.int n), some x, some v, some z, some y, none, none, none, none] s = .ok pv s := by
    rcases hv with ⟨p, rfl⟩ | rfl
    · exact ⟨.int p, by simp [gIs]⟩
    · exact ⟨.int n, by simp [gIs]⟩
  refine aut_exc (s0 := s) (ε := [some (.int n), some x, some v, some z, some y, some pv, none, none, none]) ?_ List.take_length wf
  rw [e0]
  unfold b_dating_at
  generalize (dIf (dTB (dBin (gIs false) (dV 2) (dC .non))) (dV 0) (dV 2)) = PV at h ⊢
  simp [h, gFn, sure_no wf hF hx hb]
/-! the law's ways back, and its ends -/
noncomputable def c_l_back_1 : DE := (dLc false (dSeq (dV 0)) (dgTup [1, 2, 3]) dYes (dTup (dCons (dV 2) (dCons (dV 1) (dCons (dV 3) dNil)))) [1, 2, 3])
noncomputable def b_l_back : DS := (sRet c_l_back_1)
noncomputable def F_l_back : List Va → Sto → Rs Va := aut 4 b_l_back
theorem fin_l_back (args : List Va) (s : Sto) (wf : WFn s.length s) (wa : vasB s.length args) (hl : args.length = 1) : Fin s.length (b_l_back (startA 4 args) s) (F_l_back args s) := fin_autoF _
noncomputable def b_l_ends : DS := (sSeq (sSet 4 (dApp (gFn 3 F_l_far) (dCons (dV 0) (dCons (dApp (gFn 1 F_l_back) (dCons (dV 1) dNil)) (dCons (dLst false (dCons (dV 2) dNil)) dNil)))))
  (sSeq (sSet 5 (dBin gIx (dApp (gFn 3 F_l_far) (dCons (dV 0) (dCons (dV 1) (dCons (dLst false (dCons (dV 2) dNil)) dNil)))) (dV 3)))
  (sSeq (sIf (dTB (dBin (gIs false) (dBin gIx (dV 4) (dV 3)) (dC .non))) (sRet (dTup (dCons (dV 5) (dCons (dC .non) dNil)))) sNext)
  (sRet (dTup (dCons (dV 5) (dCons (dUn gNeg (dBin gIx (dV 4) (dV 3))) dNil)))))))
noncomputable def F_l_ends : List Va → Sto → Rs Va := aut 6 b_l_ends
theorem fin_l_ends (args : List Va) (s : Sto) (wf : WFn s.length s) (wa : vasB s.length args) (hl : args.length = 4) : Fin s.length (b_l_ends (startA 6 args) s) (F_l_ends args s) := fin_autoF _
theorem cl_allG {α : Type} (e f : α → Va) {ck : Option (Nat × List Va)} {dg : DG} {del : DE} {ε : En} {s : Sto} (hk : okk ck s) (g : α → En) : ∀ (l : List α) (acc : List Va), (∀ a ∈ l, dg (e a) ε s = some (g a)) → (∀ a ∈ l, del (g a) s = .ok (f a) s) →
    cl ck dg dYes del ε (l.map e) acc s = .ok (acc ++ l.map f) s
  | [], acc, _, _ => by
    rw [List.map_nil, cl, if_pos hk, List.map_nil, List.append_nil]
  | a :: l, acc, h1, h2 => by
    rw [List.map_cons, cl, if_pos hk, h1 a List.mem_cons_self]
    simp only [e_Yes, noexc_ok, bind_ok, if_true, h2 a List.mem_cons_self]
    rw [cl_allG e f hk g l _ (fun b hb => h1 b (List.mem_cons_of_mem _ hb)) (fun b hb => h2 b (List.mem_cons_of_mem _ hb)), List.map_cons, List.append_assoc]
    rfl
theorem lc_allG {α : Type} (e f : α → Va) {ck : Option (Nat × List Va)} {di : DI} {dg : DG} {vs : List Nat} {del : DE} {ε : En} {s : Sto} {l : List α} (g : α → En) (h1 : di ε s = .ok (ck, l.map e) s) (hk : okk ck s) (h2 : l.length ≤ 100000)
    (h3 : ∀ a ∈ l, dg (e a) (wip ε vs) s = some (g a)) (h4 : ∀ a ∈ l, del (g a) s = .ok (f a) s) {bx : Bool} : dLc bx di dg dYes del vs ε s = mkL bx (l.map f) s := by
  have hq : leq (l.map e).length 100000 := by unfold leq; rw [List.length_map]; exact h2
  have L := cl_allG e f hk g (ε := wip ε vs) l [] h3 h4
  rw [e_Lc, h1]
  simp only [bind_ok, hq, if_true, L, List.nil_append]
theorem back_eq {E : List Edge} {s : Sto} (wf : WFn s.length s) (hl : E.length ≤ 100000) : F_l_back [.lst (E.map edV)] s = .ok (.lst ((Dm.rev E).map edV)) s := by
  refine aut_ret0 ?_ vasB_eds wf
  have e0 : startA 4 [.lst (E.map edV)] = [some (.lst (E.map edV)), none, none, none] := rfl
  rw [e0]
  unfold b_l_back
  have C : c_l_back_1 [some (.lst (E.map edV)), none, none, none] s = .ok (.lst ((Dm.rev E).map edV)) s := by
    unfold c_l_back_1
    rw [lc_allG edV (fun e => edV (e.2.1, e.1, e.2.2)) (l := E) (ck := none) (fun e : Edge => [some (.lst (E.map edV)), some (.int e.1), some (.int e.2.1), some (.int e.2.2)]) (seq_lst rfl) trivial hl (fun e _ => rfl) (fun e _ => by simp [edV])]
    rw [g_mkL_f]
    unfold Dm.rev
    rw [List.map_map]
    rfl
  simp [C]
theorem farV_ok {n : Nat} {D : Dm.Fd} {T : Tb} {i : Nat} (h : ∀ j, j ≤ n → D j = T i j) : farV n (some D) = .lst (rowV n T i) := by
  unfold farV rowD rowV
  dsimp only
  congr 1
  refine List.map_congr_left fun j hj => ?_
  rw [h j (by have := List.mem_range.mp hj; omega)]
section
variable {n i : Nat} {rs : List Rec} {s : Sto}
/-- a row of the table, and a column -/
def colT (T : Tb) : Tb := fun i j => T j i
theorem far_row (hF : Fits n rs) (hb : holdB n rs = true) (hi : i ≤ n) : F_l_far [.int n, .lst ((edgesR n rs).map edV), .lst [.int i]] s = .ok (.lst (rowV n (tbOf n rs) i)) s := by
  have hI := edgesR_in hF.2.2
  obtain ⟨D, h1, h2⟩ := Dm.far_one hI ((holdB_iff hF.2.2).mp hb) hi (B := fun k => (k : Int) ∈ [(i : Int)]) (fun k => by simp only [List.mem_singleton]; omega)
  have := l_far_eq (s := s) (E := edgesR n rs) (x := .lst ((edgesR n rs).map edV)) (bs := [(i : Int)]) hF.1 hI rfl
  rw [h1, farV_ok h2] at this
  exact this
theorem far_col (hF : Fits n rs) (hb : holdB n rs = true) (hi : i ≤ n) : F_l_far [.int n, .lst ((Dm.rev (edgesR n rs)).map edV), .lst [.int i]] s = .ok (.lst (rowV n (colT (tbOf n rs)) i)) s := by
  have hI := edgesR_in hF.2.2
  obtain ⟨D, h1, h2⟩ := Dm.far_back hI ((holdB_iff hF.2.2).mp hb) hi (B := fun k => (k : Int) ∈ [(i : Int)]) (fun k => by simp only [List.mem_singleton]; omega)
  have := l_far_eq (s := s) (E := Dm.rev (edgesR n rs)) (x := .lst ((Dm.rev (edgesR n rs)).map edV)) (bs := [(i : Int)]) hF.1 (Dm.rev_in hI) rfl
  rw [h1, farV_ok (T := colT (tbOf n rs)) h2] at this
  exact this
theorem l_ends_eq {a b : Nat} (wf : WFn s.length s) (hF : Fits n rs) (hb : holdB n rs = true) (h1 : a ≤ n) (h2 : b ≤ n) : F_l_ends [.int n, .lst ((edgesR n rs).map edV), .int a, .int b] s = .ok (endV (tbOf n rs a b) (tbOf n rs b a)) s := by
  refine aut_ret0 ?_ ⟨oV_b _, oV_b _, trivial⟩ wf
  have e0 : startA 6 [.int n, .lst ((edgesR n rs).map edV), .int a, .int b] = [some (.int n), some (.lst ((edgesR n rs).map edV)), some (.int a), some (.int b), none, none] := rfl
  have hl := edgesR_few (n := n) rs
  have h3 := hF.2.1
  have B := back_eq (E := edgesR n rs) wf (by omega)
  have f1 := far_row (s := s) hF hb h1
  have f2 := far_col (s := s) hF hb h1
  have a1 := rowV_at (T := tbOf n rs) (i := a) (s := s) h2
  have a2 := rowV_at (T := colT (tbOf n rs)) (i := a) (s := s) h2
  have e1 : colT (tbOf n rs) a b = tbOf n rs b a := rfl
  rw [e1] at a2
  generalize rowV n (tbOf n rs) a = R1 at f1 a1
  generalize rowV n (colT (tbOf n rs)) a = R2 at f2 a2
  generalize (edgesR n rs).map edV = EV at e0 B f1 ⊢
  generalize (Dm.rev (edgesR n rs)).map edV = RV at B f2
  rw [e0]
  unfold b_l_ends endV
  simp only [e_seq, e_set, e_App, e_Cons, e_V, List.getElem?_cons_zero, List.getElem?_cons_succ, bind_ok, e_Nil, gFn, List.length_cons, List.length_nil, if_true, B, e_Lst, g_mkL_f, f2, fl_ok, List.set, e_Bin, f1, a1, e_ifS, e_TB, a2, e_C]
  cases h9 : tbOf n rs b a with
  | none => simp [negO, oV, gIs]
  | some v =>
    rw [h9] at a2
    have a2 : gIx (.lst R2) (.int b) s = .ok (.int v) s := a2
    simp [negO, oV, gIs, a2, -g_ix_lst]
end
end Dn

set_option Elab.async false
set_option linter.all false
set_option maxRecDepth 100000
set_option maxHeartbeats 1000000
/-! Dn, part Eq: == of nested data; lists of records that are to change. -/
namespace Dn
open PySem PySem.Spec PyProof.Rows L2
mutual
theorem eqv_refl : ∀ d : PyData, d.canLay0 = true → PyData.eqv d d = true
  | .none, _ => by rw [PyData.eqv]
  | .bool b, _ => by rw [PyData.eqv]; exact beq_self_eq_true b
  | .int i, _ => by rw [PyData.eqv]; exact beq_self_eq_true i
  | .str x, _ => by rw [PyData.eqv]; exact beq_self_eq_true x
  | .list xs, h => by
    rw [PyData.eqv]
    exact eqvs_refl xs (by simpa [PyData.canLay0] using h)
  | .tuple xs, h => by
    rw [PyData.eqv]
    exact eqvs_refl xs (by simpa [PyData.canLay0] using h)
  | .dict _, h => by simp [PyData.canLay0] at h
theorem eqvs_refl : ∀ ds : List PyData, PyData.canLayAll0 ds = true → PyData.eqvAll ds ds = true
  | [], _ => by rw [PyData.eqvAll]
  | d :: ds, h => by
    rw [PyData.canLayAll0, Bool.and_eq_true] at h
    rw [PyData.eqvAll, eqv_refl d h.1, eqvs_refl ds h.2]
    rfl
end
theorem g_eq_data {neg : Bool} {x y : Va} {s : Sto} {d e : PyData} (h0 : scalA x y = false) (hx : toPyS x s = some d) (hy : toPyS y s = some e) (h1 : shp d) (h2 : shp e) : gEq neg x y s = .ok (.bl (neg != PyData.eqv d e)) s := by
  unfold gEq
  rw [h0, if_neg (by decide)]
  simp only [hx, hy]
  rw [if_pos ⟨h1, h2⟩]
theorem g_eq_self {neg : Bool} {x : Va} {s : Sto} {d : PyData} (h0 : scalA x x = false) (hx : toPyS x s = some d) (h1 : shp d) : gEq neg x x s = .ok (.bl (!neg)) s := by
  have hc := SeqAt.canLay_of_shaped h1
  rw [g_eq_data h0 hx hx h1 h1, eqv_refl d hc, Bool.bne_true]
theorem eq_five {neg : Bool} {s : Sto} : gEq neg (.lst [.lst [], .lst [], .lst [], .lst [], .lst []]) (.lst [.lst [], .lst [], .lst [], .lst [], .lst []]) s = .ok (.bl (!neg)) s :=
  g_eq_self (d := .list [.list [], .list [], .list [], .list [], .list []]) rfl rfl (by unfold shp; decide +kernel)
/-! a drawn list that is to change -/
noncomputable def F_l_kept_recordsB : List Va → Sto → Rs Va := autB 6 b_l_kept_records
theorem fin_l_kept_recordsB (args : List Va) (s : Sto) (wf : WFn s.length s) (wa : vasB s.length args) (hl : args.length = 4) : Fin s.length (b_l_kept_records (startA 6 args) s) (F_l_kept_recordsB args s) := fin_autoB _
theorem krsB_eq {s : Sto} {a : Nat} {t : Stm} {ys : List Int} {ws : List Str} {m : Int} (wf : WFn s.length s) (h : stAt s a = some t) (h1 : 1 ≤ ys.length) (hn : ys.length ≤ 1000) (hw : 0 < ws.length ∧ ws.length ≤ 1000) (hm : 0 ≤ m ∧ m ≤ 1000) : ∃ (rs : List Rec) (u : Stm), F_l_kept_recordsB [.ref a, .lst (ys.map .int), .lst (ws.map .str), .int m] s = .ok (.ref s.length) (s.set a u.ob ++ [.lst (rs.map Rec.va)]) ∧ rs.length ≤ m.toNat ∧ ∀ r ∈ rs, r.fits ys.length := by
  have la := stAt_lt h
  obtain ⟨qs, u, f5, L, q1, q2⟩ := kr_loop (s := s) (a := a) (ys := ys) (ws := ws) (e3 := some (.int m)) wf la h1 hn hw (rgA 0 m) t [] none (by rw [rgA_len, List.length_nil]; omega) (fun r hr => by simp at hr)
  rw [rgA_len, List.length_nil] at q1
  have hr : inR m := ⟨by omega, by omega⟩
  have es : s = s.set a t.ob := set_self h
  refine ⟨qs, u, ?_, by omega, q2⟩
  refine autB_new (s2 := []) ?_ List.length_set vasB_recs (wf_set wf (Stm.b _ _))
  have e0 : startA 6 [.ref a, .lst (ys.map .int), .lst (ws.map .str), .int m] = [some (.ref a), some (.lst (ys.map .int)), some (.lst (ws.map .str)), some (.int m), none, none] := rfl
  have L2 : lp none (fBody (dgName 5) krBody) (rgA 0 m) [some (.ref a), some (.lst (ys.map .int)), some (.lst (ws.map .str)), some (.int m), some (.ref s.length), none] (s ++ [.lst []]) = .nx [some (.ref a), some (.lst (ys.map .int)), some (.lst (ws.map .str)), some (.int m), some (.ref s.length), f5] (s.set a u.ob ++ [.lst (qs.map Rec.va)]) := by
    have e : s ++ [Ob.lst []] = Yst s a t (([] : List Rec).map Rec.va) := by
      unfold Yst
      rw [← es]
      rfl
    rw [e]
    exact L
  rw [e0]
  unfold b_l_kept_records
  simp only [e_seq, e_set, e_Lst, e_Nil, bind_ok, g_mkL_t, fl_ok, List.set, e_for, e_rg1, e_Cons, e_V, List.getElem?_cons_zero, List.getElem?_cons_succ, hr, if_true, L2, e_ret]
/-- the stream, and one list of records that changes -/
def S2 (t : Stm) (rs : List Rec) : Sto := [t.ob, .lst (rs.map Rec.va)]
theorem wf2 {t : Stm} {rs : List Rec} : WFn (S2 t rs).length (S2 t rs) := fun o ho => by
  rcases List.mem_cons.mp ho with rfl | ho
  · exact t.b _
  · rw [List.mem_singleton.mp ho]
    exact vasB_recs
theorem draw2 {t : Stm} {rs : List Rec} {m : Int} (h1 : 0 < m) (h2 : m < 1073741824) : F_l_draw [.ref 0, .int m] (S2 t rs) = .ok (.int (t.draw m).1) (S2 (t.draw m).2 rs) := draw_eq (stAt_of rfl) h1 h2
theorem record2 {t : Stm} {rs : List Rec} {n : Nat} {ws : List Str} (h1 : 1 ≤ n) (h2 : n ≤ 1000) (hw : 0 < ws.length ∧ ws.length ≤ 1000) (h6 : ∀ x ∈ ws, x ∈ sixWords) : ∃ (r : Rec) (u : Stm), F_l_record [.ref 0, .int n, .lst (ws.map .str)] (S2 t rs) = .ok r.va (S2 u rs) ∧ r.nice n :=
  recordY (s := [t.ob]) (a := 0) (t := t) (xs := rs.map Rec.va) (show 0 < 1 by decide) h1 h2 hw h6
theorem app2 {t : Stm} {rs : List Rec} {r : Rec} (h : rs.length ≤ 1000000) : gAppend (.ref 1) [r.va] (S2 t rs) = .ok .non (S2 t (rs ++ [r])) := by
  have := appY (s := [t.ob]) (a := 0) (t := t) (xs := rs.map Rec.va) (x := r.va) (by rw [List.length_map]; exact h)
  unfold S2
  rw [List.map_append]
  exact this
end Dn

set_option Elab.async false
set_option linter.all false
set_option maxRecDepth 100000
set_option maxHeartbeats 1000000
/-! Dn, part Sr: shared by several laws; lists of what is told. -/
namespace Dn
open PySem PySem.Spec PyProof.Rows L2
open Dm (Edge Tb fw InN Calm Holds Feas colL)
theorem keeps_all {rs : List Rec} {ys : List Int} {n j : Nat} {s : Sto} {ε : En} {d x : Va} {dx dd : DE} (hF : Fits n rs) (hx : seqL x s = some (rs.map Rec.va)) (hd : seqL d s = some (ys.map .int)) (hl : ys.length = n) (hk : ∀ r ∈ rs, r.keeps ys = true) (e1 : dx ε s = .ok x s)
    (e2 : ∀ y, dd ((wip ε [j]).set j (some y)) s = .ok d s) (e3 : ∀ y, ((wip ε [j]).set j (some y))[j]? = some (some y)) : dApp gAll (dCons (dLc false (dSeq dx) (dgName j) dYes (dApp (gFn 2 F_l_keeps) (dCons (dV j) (dCons dd dNil))) [j]) dNil) ε s = .ok (.bl true) s := by
  obtain ⟨ck, hck, hS⟩ := seq_src (seqA_L hx)
  have h2 := hF.2.1
  have C : dLc false (dSeq dx) (dgName j) dYes (dApp (gFn 2 F_l_keeps) (dCons (dV j) (dCons dd dNil))) [j] ε s = .ok (.lst (rs.map fun _ => .bl true)) s := by
    rw [lc_all Rec.va (fun _ => .bl true) (l := rs) (ck := ck) (hS dx ε e1) hck (by omega) (fun r hr => by
      have k := keeps_eq (r := r) (d := d) (s := s) hd (by rw [hl]; exact hF.2.2 r hr)
      rw [hk r hr] at k
      simp [gFn, e2, e3, k])]
    rfl
  have A := all_bl (fun _ : Rec => true) (l := rs) (s := s)
  rw [show rs.all (fun _ => true) = true from List.all_eq_true.mpr fun _ _ => rfl] at A
  simp only [e_App, e_Cons, C, bind_ok, e_Nil, A]
theorem list_recs {x : Va} {s : Sto} {xs : List Va} (hx : seqL x s = some xs) : gList false [x] s = .ok (.lst xs) s := by
  unfold gList
  have := seqA_L hx
  cases x with
  | lst ys => cases hx; rfl
  | ref i => simp only [this]; rfl
  | _ => simp [seqL] at hx
theorem yr_plc {n b : Nat} {ys : List Int} (h : b < n) : yr ys (b : Nat) = plc n ys b := by
  unfold plc
  rw [if_pos h]
theorem pick_ints {t : Stm} {s : Sto} {a : Nat} {xs : List Int} {lo hi : Int} (h : stAt s a = some t) (h1 : 0 < xs.length) (h2 : xs.length < 1073741824) (hb : ∀ x ∈ xs, lo ≤ x ∧ x ≤ hi) : ∃ (m : Int) (u : Stm), F_l_pick [.ref a, .lst (xs.map .int)] s = .ok (.int m) (s.set a u.ob) ∧ lo ≤ m ∧ m ≤ hi := by
  have pk := pick_eq (xs := xs.map Va.int) h (by rw [List.length_map]; exact h1) (by rw [List.length_map]; exact h2)
  rw [List.length_map] at pk
  have pd := t.draw_in (m := (xs.length : Int)) (by omega)
  rw [getD_map Va.int xs _ 0 .non (by omega)] at pk
  exact ⟨_, _, pk, hb _ (getD_mem (by omega))⟩
theorem row_cut {n i : Nat} {T : Tb} {s : Sto} : gSl false (.lst (rowV n T i)) none (some (n : Int)) s = .ok (.lst (((List.range n).map (T i)).map oV)) s := by
  rw [slL, cut_to (by rw [rowV_len]; omega)]
  unfold rowV
  rw [← List.map_take, List.take_range, Nat.min_eq_left (by omega), List.map_map]
  rfl
theorem allV_row {os : List (Option Int)} : allV id os = if os.any (·.isNone) then .non else .lst (os.map oV) := by
  unfold allV
  simp only [Option.map_id, id]
theorem oV_id (os : List (Option Int)) : (os.map fun o => oV (o.map id)) = os.map oV := List.map_congr_left fun o _ => by rw [Option.map_id]; rfl
theorem allV_dat {os : List (Option Int)} {f : Int → Int} (h : os.length ≤ 1000) : datB (allV f os) = true ∧ dep (allV f os) ≤ 1 := by
  unfold allV
  split
  · exact ⟨rfl, Nat.zero_le _⟩
  · have h5 : ∀ l : List (Option Int), datsB (l.map fun o => oV (o.map f)) = true ∧ deps (l.map fun o => oV (o.map f)) = 0 := fun l => by
      induction l with
      | nil => exact ⟨rfl, rfl⟩
      | cons o l ih =>
        rw [List.map_cons, datsB, deps, ih.1, ih.2]
        cases o <;> exact ⟨rfl, rfl⟩
    unfold datB dep
    rw [(h5 os).1, (h5 os).2, List.length_map, decide_eq_true (by omega)]
    exact ⟨rfl, Nat.le_refl _⟩
theorem endV_dat (x y : Option Int) : datB (endV x y) = true ∧ dep (endV x y) = 1 := by
  cases x <;> cases y <;> exact ⟨rfl, rfl⟩
/-! what is told, one after another, each in a list of its own -/
theorem get_app {s z : Sto} (i : Nat) : (s ++ z)[s.length + i]? = z[i]? := by
  rw [List.getElem?_append_right (Nat.le_add_right _ _), Nat.add_sub_cancel_left]
theorem set_app {s z : Sto} (i : Nat) (o : Ob) : (s ++ z).set (s.length + i) o = s ++ z.set i o := by
  rw [List.set_append_right _ _ (Nat.le_add_right _ _), Nat.add_sub_cancel_left]
noncomputable def tryD (m : Nat) (k : Int) (call : DE) : DS := sTry (sDrop (dMt gAppend (dBin gIx (dV m) (dC (.int k))) (dCons call dNil))) [("Unsure", true)] (sSetIx (dV m) (dC (.int k)) (dLst false dNil))
theorem tell_ok {m k p q : Nat} {kk : Int} {call : DE} {ε : En} {Z : Sto} {outer : List Va} {v : Va} (hkk : kk = (k : Nat)) (hm : ε[m]? = some (some (.ref p))) (hp : Z[p]? = some (.lst outer)) (hk : outer[k]? = some (.ref q)) (hq : Z[q]? = some (.lst [])) (hc : call ε Z = .ok v Z) : tryD m kk call ε Z = .nx ε (Z.set q (.lst [v])) := by
  subst hkk
  have hl := (List.getElem?_eq_some_iff.mp hk).1
  have g : gIx (.ref p) (.int k) Z = .ok (.ref q) Z := by
    rw [g_ix_ref hp, atI_in .non (by omega) (by omega), Int.toNat_natCast, List.getD_eq_getElem?_getD, hk]
    rfl
  have il : isL (.ref q) Z = true := by
    unfold isL seqL
    simp only [hq]
    rfl
  have ap : gAppend (.ref q) [v] Z = .ok .non (Z.set q (.lst [v])) := by
    unfold gAppend
    have hq2 : leq 0 1000000 := by unfold leq; omega
    simp only [hq, List.length_nil, hq2, if_true, List.nil_append]
  unfold tryD
  simp [hm, g, il, hc, ap, -g_ix_lst]
theorem tell_no {m k p q : Nat} {kk : Int} {call : DE} {ε : En} {Z : Sto} {outer : List Va} (hkk : kk = (k : Nat)) (hm : ε[m]? = some (some (.ref p))) (hp : Z[p]? = some (.lst outer)) (hk : outer[k]? = some (.ref q)) (hq : Z[q]? = some (.lst [])) (hc : call ε Z = .exc "Unsure" Z) : tryD m kk call ε Z = .nx ε (Z.set p (.lst (outer.set k (.lst [])))) := by
  subst hkk
  have hl := (List.getElem?_eq_some_iff.mp hk).1
  have g : gIx (.ref p) (.int k) Z = .ok (.ref q) Z := by
    rw [g_ix_ref hp, atI_in .non (by omega) (by omega), Int.toNat_natCast, List.getD_eq_getElem?_getD, hk]
    rfl
  have il : isL (.ref q) Z = true := by
    unfold isL seqL
    simp only [hq]
    rfl
  have st : gSetIx (.lst []) (.ref p) (.int k) Z = some (Z.set p (.lst (outer.set k (.lst [])))) := by
    rw [g_set_ref hp (ixN_in (by omega) (by omega)), Int.toNat_natCast]
  unfold tryD
  simp [hm, g, il, hc, lkC, st, noEx, -g_ix_lst]
theorem frzFs_rows {N : Nat} : ∀ (rows : List (List Va)) (j d : Nat) (s : Sto), (∀ i, (h : i < rows.length) → s[j + i]? = some (.lst (rows[i]))) → N ≤ j → (∀ r ∈ rows, vasB N r ∧ r.length + rows.length + 10 ≤ d) → rows.length + 10 ≤ d →
    ∃ s', frzFs N d ((List.range rows.length).map fun i => .ref (j + i)) s = some (rows.map .lst, s') ∧ (∀ i, j + rows.length ≤ i → s'[i]? = s[i]?) ∧ s'.take N = s.take N
  | [], j, d, s, _, _, _, hd => by
    obtain ⟨d, rfl⟩ : ∃ e, d = e + 1 := ⟨d - 1, by omega⟩
    exact ⟨s, by unfold frzFs; rfl, fun _ _ => rfl, rfl⟩
  | r :: rows, j, d, s, h, hN, hr, hd => by
    rw [List.length_cons] at hd
    obtain ⟨e, rfl⟩ : ∃ e, d = e + 3 := ⟨d - 3, by omega⟩
    have h0 := h 0 (by rw [List.length_cons]; omega)
    have hr0 := hr r List.mem_cons_self
    rw [List.length_cons] at hr0
    have f0 := frzF_lst (n := N) (d := e) (i := j + 0) (xs := r) h0 (by omega) hr0.1 (by omega)
    obtain ⟨s', g1, g2, g3⟩ := frzFs_rows (N := N) rows (j + 1) (e + 2) (s.set (j + 0) .dead) (fun i hi => by
      rw [List.getElem?_set_ne (by omega)]
      have := h (i + 1) (by rw [List.length_cons]; omega)
      rw [show j + 1 + i = j + (i + 1) by omega, this]
      rfl) (by omega) (fun x hx => by
        have := hr x (List.mem_cons_of_mem _ hx)
        rw [List.length_cons] at this
        exact ⟨this.1, by omega⟩) (by omega)
    refine ⟨s', ?_, fun i hi => ?_, ?_⟩
    · rw [List.length_cons, List.range_succ_eq_map, List.map_cons, List.map_map]
      unfold frzFs
      dsimp only
      rw [f0]
      dsimp only
      have e2 : ((fun i => Va.ref (j + i)) ∘ Nat.succ) = fun i => Va.ref (j + 1 + i) := by
        funext i
        show Va.ref (j + (i + 1)) = _
        rw [show j + (i + 1) = j + 1 + i by omega]
      rw [e2, g1]
      rfl
    · rw [List.length_cons] at hi
      rw [g2 i (by omega)]
      exact List.getElem?_set_ne (by omega)
    · exact g3.trans (take_set (by omega))
/-- a list of lists, both new, handed back -/
theorem aut_rows {nb : Nat} {b : DS} {args : List Va} {s s1 : Sto} {rows : List (List Va)} (h : b (startA nb args) s = .ret (.ref (s.length + rows.length)) (s1 ++ (rows.map .lst ++ [.lst ((List.range rows.length).map fun i => .ref (s.length + i))]))) (hl1 : s1.length = s.length) (hx : ∀ r ∈ rows, vasB s.length r ∧ r.length ≤ 10000) (hl : rows.length ≤ 10000) (hne : 0 < rows.length) (hw : WFn s.length s1) : aut nb b args s = .ok (.lst (rows.map .lst)) s1 := by
  have ho : (s1 ++ (rows.map Ob.lst ++ [Ob.lst ((List.range rows.length).map fun i => Va.ref (s.length + i))]))[s.length + rows.length]? = some (.lst ((List.range rows.length).map fun i => .ref (s.length + i))) := by
    rw [← hl1, get_app, show rows.length = (rows.map Ob.lst).length by rw [List.length_map], List.getElem?_concat_length]
  obtain ⟨s', g1, g2, g3⟩ := frzFs_rows (N := s.length) rows s.length 99999 (s1 ++ (rows.map Ob.lst ++ [Ob.lst ((List.range rows.length).map fun i => Va.ref (s.length + i))])) (fun i hi => by
    rw [← hl1, get_app, List.getElem?_append_left (by rw [List.length_map]; exact hi), List.getElem?_map, List.getElem?_eq_getElem hi]
    rfl) (Nat.le_refl _) (fun r hr => ⟨(hx r hr).1, by have := (hx r hr).2; omega⟩) (by omega)
  have fz : frzF s.length 100000 (.ref (s.length + rows.length)) (s1 ++ (rows.map Ob.lst ++ [Ob.lst ((List.range rows.length).map fun i => Va.ref (s.length + i))])) = some (.lst (rows.map .lst), s'.set (s.length + rows.length) .dead) := by
    unfold frzF
    rw [if_neg (show ¬ vaB s.length (.ref (s.length + rows.length)) from fun z => by have : s.length + rows.length < s.length := z; omega)]
    dsimp only
    rw [ho]
    dsimp only
    rw [g1]
    dsimp only
    rw [if_pos (by rw [g2 _ (Nat.le_refl _)]; exact ho)]
  have e3 : (s'.set (s.length + rows.length) Ob.dead).take s.length = s1 := by
    rw [take_set (by omega), g3, ← hl1, List.take_left]
  unfold aut
  rw [h]
  unfold autoF
  dsimp only
  rw [fz]
  dsimp only
  rw [if_pos ⟨vasB_rows fun r hr => (hx r hr).1, by rw [e3]; exact hw⟩, e3]
end Dn

set_option Elab.async false
set_option linter.all false
set_option maxRecDepth 100000
set_option maxHeartbeats 1000000
/-! Dn, part Cl: own classes: fields, methods, instances. -/
namespace Dn
open PySem PySem.Spec PyProof.Rows L2
def lkF : List (Str × Va) → Str → Option Va
  | [], _ => none
  | (g, x) :: r, f => if g = f then some x else lkF r f
def ptF (f : Str) (x : Va) : List (Str × Va) → List (Str × Va)
  | [] => [(f, x)]
  | (g, y) :: r => if g = f then (g, x) :: r else (g, y) :: ptF f x r
theorem lkF_cons {g f : Str} {x : Va} {r : List (Str × Va)} : lkF ((g, x) :: r) f = if g = f then some x else lkF r f := rfl
theorem ptF_cons {g f : Str} {x y : Va} {r : List (Str × Va)} : ptF f x ((g, y) :: r) = if g = f then (g, x) :: r else (g, y) :: ptF f x r := rfl
theorem RlF.look {K : PySem.W.Frag} {F : Hp} {as : List Addr} (f : Str) : ∀ {fs : List (Str × Va)} {gs : List (Str × V)}, RlF K F as fs gs → (∃ x v, lkF fs f = some x ∧ gs.lookup f = some v ∧ Rl K F as x v) ∨ (lkF fs f = none ∧ gs.lookup f = none)
  | _, _, .nil => .inr ⟨rfl, rfl⟩
  | _, _, .cons (f := g) (x := x) (v := v) (xs := xs) (vs := vs) h r => by
    by_cases q : g = f
    · subst q
      exact .inl ⟨x, v, by rw [lkF_cons, if_pos rfl], by simp [List.lookup], h⟩
    · have q2 : (f == g) = false := by simpa using fun e => q e.symm
      rcases RlF.look f r with ⟨y, u, h1, h2, h3⟩ | ⟨h1, h2⟩
      · exact .inl ⟨y, u, by rw [lkF_cons, if_neg q, h1], by simp [List.lookup, q2, h2], h3⟩
      · exact .inr ⟨by rw [lkF_cons, if_neg q, h1], by simp [List.lookup, q2, h2]⟩
theorem RlF.put {K : PySem.W.Frag} {F : Hp} {as : List Addr} {f : Str} {x : Va} {v : V} (hx : Rl K F as x v) : ∀ {fs : List (Str × Va)} {gs : List (Str × V)}, RlF K F as fs gs → RlF K F as (ptF f x fs) (putF f v gs)
  | _, _, .nil => .cons hx .nil
  | _, _, .cons (f := g) h r => by
    unfold ptF putF
    split
    · exact .cons hx r
    · exact .cons h (RlF.put hx r)
theorem RlF.len {K : PySem.W.Frag} {F : Hp} {as : List Addr} : ∀ {fs : List (Str × Va)} {gs : List (Str × V)}, RlF K F as fs gs → fs.length = gs.length
  | _, _, .nil => rfl
  | _, _, .cons _ r => congrArg (· + 1) (RlF.len r)
/-- what is known of a class -/
structure ClT (K : PySem.W.Frag) (mg : Str → Option Value) (x : Str) (C : Addr) (fs : List Str) : Prop where
  g : mg x = some (.ref C)
  c : Cls K C
  n : ∀ f ∈ fs, NoAttr K C f
/-- the instance at i -/
def insA (C : Addr) (x : Va) (s : Sto) : Option (Nat × List (Str × Va)) := match x with
  | .ref i => match s[i]? with
    | some (.ins C' fs) => if C' = C then some (i, fs) else none
    | _ => none
  | _ => none
def gFld (C : Addr) (f : Str) (x : Va) (s : Sto) : Rs Va := match insA C x s with
  | some (_, fs) => match lkF fs f with
    | some y => .ok y s
    | none => .bad
  | none => .bad
def dFld (C : Addr) (f : Str) (da : DE) : DE := fun ε s => (da ε s).bind (gFld C f)
def sFldD (C : Addr) (f : Str) (d0 dv : DE) : DS := fun ε s => (dv ε s).fl ε fun y s1 => (d0 ε s1).fl ε fun x s2 => match insA C x s2 with
  | some (i, fs) => if fs.length < 900 then .nx ε (s2.set i (.ins C (ptF f y fs))) else .bad
  | none => .bad
def dMeth (C : Addr) (m : Str) (d0 : DE) (n : Nat) (F0 : List Va → Sto → Rs Va) (da : DA) : DE := fun ε s => (d0 ε s).bind fun x s1 => match insA C x s1 with
  | some (_, fs) => match lkF fs m with
    | none => (evA da ε s1).bind fun xs s2 => gFn n F0 (x :: xs) s2
    | some _ => .bad
  | none => .bad
def dMake (C : Addr) (n : Nat) (F0 : List Va → Sto → Rs Va) (da : DA) : DE := fun ε s => (evA da ε s).bind fun xs s1 => (gFn n F0 (.ref s1.length :: xs) (s1 ++ [.ins C []])).noexc.bind fun y s2 => match y with
  | .non => .ok (.ref s1.length) s2
  | _ => .bad
section
variable {K : PySem.W.Frag} {F G H : Hp} {as : List Addr} {s : Sto} {C : Addr} {x : Va} {v : V} {i : Nat} {fs : List (Str × Va)}
theorem ins_ok (S : Sim K F G as s H) (r : Rl K F as x v) (h : insA C x s = some (i, fs)) : ∃ a dx gs, x = .ref i ∧ v = .ref a ∧ as[i]? = some a ∧ F a = none ∧ H a = some (.ins C dx gs) ∧ RlF K F as fs gs := by
  unfold insA at h
  split at h
  · rename_i j
    split at h
    · rename_i C' fs' e
      split at h
      · rename_i hC
        cases h
        subst hC
        cases r with
        | ref ha =>
          obtain ⟨hf, dx, gs, h1, h2⟩ := S.ref ha e
          exact ⟨_, dx, gs, rfl, rfl, ha, hf, h1, h2⟩
      · cases h
    · cases h
  · cases h
end
section
variable {X : Cx} {CL : Cls0} {W : WX} {k j : Nat} {x f m : Str} {C g : Addr} {N : List Str} {p pos pos' apos : Pos} {o e value : Expr} {es : List Expr} {d0 dv : DE} {da : DA} {ps : List Str} {F0 : List Va → Sto → Rs Va}
theorem re_fld (T : ClT X.K X.mg x C N) (hf : f ∈ N) (ho : RE X CL W o d0) (hb : attributeBase o f X.env (eval o X.env) = eval o X.env := by rfl) : RE X CL W (.Attribute o f pos) (dFld C f d0) :=
  pe_weak (pe_fld ho hb) fun σ H Q h => by
    obtain ⟨F, G, as, ε, s, S, E, h⟩ := h
    refine ⟨F, G, as, ε, s, S, E, Pst.imp (Pst.bind h) fun v H1 ⟨F1, as1, s1, y, l, S1, rx, h1⟩ => ?_⟩
    unfold gFld at h1
    split at h1
    · rename_i i fs e1
      obtain ⟨a, dx, gs, rfl, rfl, ha, hfr, hH, hr⟩ := ins_ok S1 rx e1
      split at h1
      · rename_i y e2
        rcases hr.look f with ⟨y', u, h2, h3, h4⟩ | ⟨h2, _⟩
        · rw [e2] at h2
          cases h2
          exact ⟨a, C, dx, gs, u, rfl, hH, T.c, T.n f hf, h3, h1.okv S1 h4⟩
        · rw [e2] at h2
          cases h2
      · exact h1.elim
    · exact h1.elim
theorem rs_fld (T : ClT X.K X.mg x C N) (hf : f ∈ N) (ho : RE X CL W o d0) (hv : RE X CL W value dv) (hs : swapsWith value (some (.Attribute o f pos')) pos.line X.env = pure false := by rfl) : RS X CL W (.Assign [.Attribute o f pos'] value pos) (sFldD C f d0 dv) :=
  ps_weak (ps_fld ho hv hs) fun D σ H h => by
    obtain ⟨F, G, as, ε, s, S, E, h⟩ := h
    refine ⟨F, G, as, ε, s, S, E, Pst.imp (PF.bind E h) fun v H1 ⟨F1, as1, s1, y, l, S1, ry, h1⟩ => ?_⟩
    refine ⟨F1, G, as1, ε, s1, S1, E.mono l, Pst.imp (PF.bind (E.mono l) h1) fun v2 H2 ⟨F2, as2, s2, x2, l2, S2, rx, h2⟩ => ?_⟩
    split at h2
    · rename_i i fs e1
      obtain ⟨a, dx, gs, rfl, rfl, ha, hfr, hH, hr⟩ := ins_ok S2 rx e1
      split at h2
      · rename_i hc
        refine ⟨a, C, dx, gs, rfl, hH, T.c, T.n f hf, by rw [← hr.len]; omega, ?_⟩
        exact h2 F2 as2 σ _ Le.refl (S2.change ha hfr ⟨hfr, dx, _, upd_same, hr.put (ry.mono l2)⟩) ((E.mono l).mono l2)
      · exact h2.elim
    · exact h2.elim
def tMethS' (C : Addr) (m : Str) (sp : Sp) (E : L2.St → XK) (ta : TE) (t : TA) : TE := fun σ H Q => ta σ H fun x H1 => ∃ a dx fs, x = .ref a ∧ H1 a = some (.ins C dx fs) ∧ fs.lookup m = none ∧ t σ H1 fun vs H2 => sp (x :: vs) H2 Q (E σ)
theorem pe_methW {pl : Sem Bool} {CX : CXT} {fd : FuncData} {sp : Sp} {E : L2.St → XK} {ta : TE} {t : TA} (he : PE X o ta) (c : Cls X.K C) (hm : Meth X.K C m g) (F : FnOk X.prog X.w X.K X.mg X.base CX k g fd ps sp) (hr : Room k X.A) (hb : Binds X.K fd ps []) (hx : ∀ σ, PassesAt CX X σ (E σ)) (ha : PA X (e :: es) t)
    (hst : starEach (e :: es) X.env = (false, eval e X.env) :: starEach es X.env := by rfl) (hpl : (backTo pos (starEach es X.env)).any (·.1) = false := by rfl)
    (ht : eval (.Call (.Attribute o m apos) (e :: es) [] pos) X.env = (do
      let ov ← eval o X.env
      standAt apos.atName
      let (f, first) ← holding [ov] (getMethod ov m pl)
      callWith pos f first (backTo pos (starEach (e :: es) X.env)) (backToKw pos (keywordEach [] X.env))) := by rfl) :
    PE X (.Call (.Attribute o m apos) (e :: es) [] pos) (tMethS' C m sp E ta t) := by
  refine ⟨fun pins s σ H Q I h => ?_⟩
  refine PySem.W.methodCall_KW (pl := pl) (thn (he.run pins s σ H _ I h) fun u s1 ⟨x, H1, I1, rx, a, dx, fs, ex, ea, l, q⟩ => ?_) ht
  subst ex
  obtain rfl : u = Value.ref a := rx
  refine getmeth_ok I1 ea c hm l ?_
  refine PySem.W.callWith_K (first := [.ref a]) (h₀ := X.base) I.ok.mod.kin hm.kp (thn (ha.run pos pins s1 σ H1 _ I1 q) fun us s2 ⟨vs, H2, I2, r, q2⟩ => ⟨I2.kIn, ?_⟩) hst hpl
  exact run_fnS (us := .ref a :: us) (vs := .ref a :: vs) F hr hb (hx σ) I2 (.cons rfl r) q2
theorem pe_methW0 {pl : Sem Bool} {CX : CXT} {fd : FuncData} {sp : Sp} {E : L2.St → XK} {ta : TE} (he : PE X o ta) (c : Cls X.K C) (hm : Meth X.K C m g) (F : FnOk X.prog X.w X.K X.mg X.base CX k g fd ps sp) (hr : Room k X.A) (hb : Binds X.K fd ps []) (hx : ∀ σ, PassesAt CX X σ (E σ))
    (ht : eval (.Call (.Attribute o m apos) [] [] pos) X.env = (do
      let ov ← eval o X.env
      standAt apos.atName
      let (f, first) ← holding [ov] (getMethod ov m pl)
      callWith pos f first (backTo pos (starEach [] X.env)) (backToKw pos (keywordEach [] X.env))) := by rfl) :
    PE X (.Call (.Attribute o m apos) [] [] pos) (tMethS' C m sp E ta tNil) := by
  refine ⟨fun pins s σ H Q I h => ?_⟩
  refine PySem.W.methodCall_KW (pl := pl) (thn (he.run pins s σ H _ I h) fun u s1 ⟨x, H1, I1, rx, a, dx, fs, ex, ea, l, q⟩ => ?_) ht
  subst ex
  obtain rfl : u = Value.ref a := rx
  refine getmeth_ok I1 ea c hm l ?_
  exact PySem.W.callWith_K0 (first := [.ref a]) I1.kIn hm.kp (run_fnS (us := [.ref a]) (vs := [.ref a]) F hr hb (hx σ) I1 (.cons rfl .nil) q)
end
/-- a method that may be called -/
def Mal (P : Program) (w : World) (K : PySem.W.Frag) (mg : Str → Option Value) (base : Heap) (CL : Cls0) (C : Addr) (m : Str) (ps : List Str) (k : Nat) (F0 : List Va → Sto → Rs Va) : Prop :=
  ∃ f fd, FnOk P w K mg base (L2.CX P w) k f fd ps (spF K CL ps.length F0) ∧ Meth K C m f ∧ Binds K fd ps []
/-- a class whose instances may be made -/
def Nal (P : Program) (w : World) (K : PySem.W.Frag) (mg : Str → Option Value) (base : Heap) (CL : Cls0) (C : Addr) (ps : List Str) (k : Nat) (F0 : List Va → Sto → Rs Va) : Prop :=
  ∃ f fd, FnOk P w K mg base (L2.CX P w) k f fd ps (spF K CL ps.length F0) ∧ Mk K C f ∧ Binds K fd ps []
section
variable {X : Cx} {CL : Cls0} {W : WX} {k j : Nat} {x f m : Str} {C g : Addr} {N : List Str} {p pos pos' apos : Pos} {o e value : Expr} {es : List Expr} {d0 dv : DE} {da : DA} {ps : List Str} {F0 : List Va → Sto → Rs Va}
theorem tD_meth {σ : L2.St} {H : Hp} {Q : VK} {t : TA} (ht : ∀ σ H Q, tDA X.K CL W da σ H Q → t σ H Q) (h : tD X.K CL W (dMeth C m d0 ps.length F0 da) σ H Q) : tMethS' C m (spF X.K CL ps.length F0) (WE W) (tD X.K CL W d0) t σ H Q := by
  obtain ⟨F, G, as, ε, s, S, E, h⟩ := h
  refine ⟨F, G, as, ε, s, S, E, Pst.imp (Pst.bind h) fun v H1 ⟨F1, as1, s1, y, l, S1, rx, h1⟩ => ?_⟩
  split at h1
  · rename_i i fs e1
    obtain ⟨a, dx, gs, rfl, rfl, ha, hfr, hH, hr⟩ := ins_ok S1 rx e1
    split at h1
    · rename_i e2
      have hl : gs.lookup m = none := by
        rcases hr.look m with ⟨y', u, h2, h3, h4⟩ | ⟨_, h3⟩
        · rw [e2] at h2
          cases h2
        · exact h3
      refine ⟨a, dx, gs, rfl, hH, hl, ht _ _ _ ⟨F1, G, as1, ε, s1, S1, E.mono l, Pst.imp (Pst.bind h1) fun vs H2 ⟨F2, as2, s2, xs, l2, S2, rs, h2⟩ => ?_⟩⟩
      unfold gFn at h2
      split at h2
      · rename_i hc
        exact ⟨F2, G, as2, s2, _, S2, .cons (rx.mono l2) rs, hc, h2⟩
      · exact h2.elim
    · exact h1.elim
  · exact h1.elim
theorem re_meth {pl : Sem Bool} (O : Okc X W j) (T : ClT X.K X.mg x C N) (M : Mal X.prog X.w X.K X.mg X.base CL C m ps k F0) (hk : k ≤ j) (ho : RE X CL W o d0) (ha : RA X CL W (e :: es) da)
    (hst : starEach (e :: es) X.env = (false, eval e X.env) :: starEach es X.env := by rfl) (hpl : (backTo pos (starEach es X.env)).any (·.1) = false := by rfl)
    (ht : eval (.Call (.Attribute o m apos) (e :: es) [] pos) X.env = (do
      let ov ← eval o X.env
      standAt apos.atName
      let (f, first) ← holding [ov] (getMethod ov m pl)
      callWith pos f first (backTo pos (starEach (e :: es) X.env)) (backToKw pos (keywordEach [] X.env))) := by rfl) :
    RE X CL W (.Call (.Attribute o m apos) (e :: es) [] pos) (dMeth C m d0 ps.length F0 da) := by
  obtain ⟨f, fd, F, hm, hb⟩ := M
  exact pe_weak (pe_methW (E := WE W) ho T.c hm F (O.room.mono hk) hb (fun σ => passAt O.tk σ) ha hst hpl ht) fun σ H Q h => tD_meth (fun _ _ _ q => q) h
theorem re_meth0 {pl : Sem Bool} (O : Okc X W j) (T : ClT X.K X.mg x C N) (M : Mal X.prog X.w X.K X.mg X.base CL C m ps k F0) (hk : k ≤ j) (ho : RE X CL W o d0)
    (ht : eval (.Call (.Attribute o m apos) [] [] pos) X.env = (do
      let ov ← eval o X.env
      standAt apos.atName
      let (f, first) ← holding [ov] (getMethod ov m pl)
      callWith pos f first (backTo pos (starEach [] X.env)) (backToKw pos (keywordEach [] X.env))) := by rfl) :
    RE X CL W (.Call (.Attribute o m apos) [] [] pos) (dMeth C m d0 ps.length F0 dNil) := by
  obtain ⟨f, fd, F, hm, hb⟩ := M
  exact pe_weak (pe_methW0 (E := WE W) ho T.c hm F (O.room.mono hk) hb (fun σ => passAt O.tk σ) ht) fun σ H Q h => tD_meth (fun σ H Q h => by
    obtain ⟨F, G, as, ε, s, S, E, h⟩ := h
    exact h F as H [] Le.refl S .nil) h
theorem tD_make {σ : L2.St} {H : Hp} {Q : VK} {t : TA} (ht : ∀ σ H Q, tDA X.K CL W da σ H Q → t σ H Q) (h : tD X.K CL W (dMake C ps.length F0 da) σ H Q) : tMake C (spF X.K CL ps.length F0) [] (fun _ _ _ => False) t σ H Q := by
  obtain ⟨F, G, as, ε, s, S, E, h⟩ := h
  refine ht _ _ _ ⟨F, G, as, ε, s, S, E, Pst.imp (Pst.bind h) fun vs H1 ⟨F1, as1, s1, xs, l, S1, rs, h1⟩ a dx na ndx nex => ?_⟩
  have h2 := Pst.bind (RA := Rl X.K) (Pst.le (Le.push (p := a)) h1)
  unfold gFn at h2
  have hk : ∀ b u, H1 b = some u → (upd (upd H1 dx (.own a)) a (.ins C dx [])) b = some u := fun b u e => by
    rw [upd_ne (ne_of_none e na), upd_ne (ne_of_none e ndx)]
    exact e
  have S2 : Sim X.K F1 G (as1 ++ [a]) (s1 ++ [.ins C []]) (upd (upd H1 dx (.own a)) a (.ins C dx [])) := S1.push na hk ⟨S1.fnone na, dx, [], upd_same, .nil⟩ ⟨_, upd_same⟩
  have ra : (as1 ++ [a])[s1.length]? = some a := by rw [← S1.len]; exact List.getElem?_concat_length
  rw [List.append_nil]
  split at h2
  · rename_i hc
    refine ⟨F1, G, as1 ++ [a], s1 ++ [.ins C []], .ref s1.length :: xs, S2, .cons (.ref ra) (rs.mono Le.push), hc, ?_⟩
    refine Pst.imp (Pst.noexc h2) fun v H3 ⟨F3, as3, s3, y, l3, S3, ry, h3⟩ => ?_
    split at h3
    · cases ry
      exact ⟨rfl, h3.okv S3 (.ref (l3.a _ _ ra))⟩
    · exact h3.elim
  · exact h2.elim
theorem passW {X : Cx} : Passes (L2.CX X.prog X.w) X (fun _ _ _ => False) := fun pins σ H s e s' I c => by
  obtain ⟨_, _, _, _, _, _, _, _, _, _, _, _, z⟩ := c
  exact z.elim
theorem re_make (O : Okc X W j) (T : ClT X.K X.mg x C N) (M : Nal X.prog X.w X.K X.mg X.base CL C ps k F0) (hk : k + 1 ≤ j) (ha : RA X CL W (e :: es) da) (hg : Gl X x := by rfl) (hdb : (x == ("__debug__" : Str)) = false := by decide)
    (he : starEach (e :: es) X.env = (false, eval e X.env) :: starEach es X.env := by rfl) (hpl : (backTo pos (starEach es X.env)).any (·.1) = false := by rfl) :
    RE X CL W (.Call (.Name x p) (e :: es) [] pos) (dMake C ps.length F0 da) := by
  obtain ⟨f, fd, F, hm, hb⟩ := M
  exact pe_weak (pe_make (E := fun _ _ _ => False) (dvs := []) (ds := []) hm F (O.room.mono hk) hg T.g hb .nil passW ha hdb he hpl) fun σ H Q h => tD_make (fun _ _ _ q => q) h
end
end Dn

set_option Elab.async false
set_option linter.all false
set_option maxRecDepth 100000
set_option maxHeartbeats 1000000
/-! Dn, part Cm: the methods of the text; try with two clauses; del xs[i]. -/
namespace Dn
open PySem PySem.Spec PyProof.Rows L2
/-- a method of the text -/
def Txm (K : PySem.W.Frag) (C : Addr) (m q : Str) (st : Stmt) (ps : List Str) : Prop := ∃ f fd, Fun K m q st f fd ∧ Meth K C m f ∧ Binds K fd ps []
/-- the method __init__ of the text -/
def Txi (K : PySem.W.Frag) (C : Addr) (q : Str) (st : Stmt) (ps : List Str) : Prop := ∃ f fd, Fun K "__init__" q st f fd ∧ Mk K C f ∧ Binds K fd ps []
section
variable {P : Program} {w : World} {K : PySem.W.Frag} {mg : Str → Option Value} {base : Heap} {CL : Cls0} {C : Addr}
theorem txm_mk {m q : Str} {st : Stmt} {ps : List Str} {f : Addr} {oc : Value} {od an : Option Addr} {osl : Array (Option Value)} {kV doc pm cdv ct : Value} (hm : PySem.W.findIn K (.ref C) m = some (some (.ref f))) (hi : PySem.W.isFn K (.ref f) = true) (l : K.lookup f = some ⟨oc, od, .func (PySem.W.fnOf m q (defArgs st) (defBody st) (defScope st) .none kV doc pm an cdv ct), osl⟩)
    (c : PySem.W.codeIn K cdv q = true) (k : PySem.W.keepIn K (.ref f) = true)
    (b : ∀ (kV doc pm : Value) (an : Option Addr) (cdv ct : Value) (us : List Value), us.length = ps.length → bindArgs (PySem.W.fnOf m q (defArgs st) (defBody st) (defScope st) .none kV doc pm an cdv ct) ⟨us, []⟩ = pure (ps.zip us)) : Txm K C m q st ps :=
  ⟨f, _, fun_mk l c k, ⟨hm, hi, k⟩, (fun_mk l c k).binds b⟩
theorem txi_mk {q : Str} {st : Stmt} {ps : List Str} {f : Addr} {oc : Value} {od an : Option Addr} {osl : Array (Option Value)} {kV doc pm cdv ct : Value} (hm : PySem.W.findIn K (.ref C) "__init__" = some (some (.ref f))) (hi : PySem.W.isFn K (.ref f) = true) (l : K.lookup f = some ⟨oc, od, .func (PySem.W.fnOf "__init__" q (defArgs st) (defBody st) (defScope st) .none kV doc pm an cdv ct), osl⟩)
    (c : PySem.W.codeIn K cdv q = true) (k : PySem.W.keepIn K (.ref f) = true) (mk : PySem.W.makesIn K C = true) (kc : PySem.W.keepIn K (.ref C) = true)
    (b : ∀ (kV doc pm : Value) (an : Option Addr) (cdv ct : Value) (us : List Value), us.length = ps.length → bindArgs (PySem.W.fnOf "__init__" q (defArgs st) (defBody st) (defScope st) .none kV doc pm an cdv ct) ⟨us, []⟩ = pure (ps.zip us)) : Txi K C q st ps :=
  ⟨f, _, fun_mk l c k, ⟨mk, hm, hi, kc⟩, (fun_mk l c k).binds b⟩
theorem mal_D {m q : Str} {st : Stmt} {N ps : List Str} {k : Nat} {b : DS} {F0 : List Va → Sto → Rs Va} (T : Txm K C m q st ps) (S : FnScope N ps (defScope st))
    (hb : ∀ (f : Addr) (cdv : Value) (A : Around) (outer : List Env) (s : Shared) (H : Hp) (E : XK), Okc (cxOf (L2.CX P w) P w K mg base N q (defScope st) f cdv A outer s H E) (fun cls d _ H => E cls d H) k →
      RSs (cxOf (L2.CX P w) P w K mg base N q (defScope st) f cdv A outer s H E) CL (fun cls d _ H => E cls d H) (defBody st) b)
    (hfin : ∀ args s, WFn s.length s → vasB s.length args → args.length = ps.length → Fin s.length (b (startA N.length args) s) (F0 args s)) : Mal P w K mg base CL C m ps (k + 1) F0 := by
  obtain ⟨f, fd, F, hm, hbn⟩ := T
  exact ⟨f, fd, fn_D F S (hb f) hfin, hm, hbn⟩
theorem nal_D {q : Str} {st : Stmt} {N ps : List Str} {k : Nat} {b : DS} {F0 : List Va → Sto → Rs Va} (T : Txi K C q st ps) (S : FnScope N ps (defScope st))
    (hb : ∀ (f : Addr) (cdv : Value) (A : Around) (outer : List Env) (s : Shared) (H : Hp) (E : XK), Okc (cxOf (L2.CX P w) P w K mg base N q (defScope st) f cdv A outer s H E) (fun cls d _ H => E cls d H) k →
      RSs (cxOf (L2.CX P w) P w K mg base N q (defScope st) f cdv A outer s H E) CL (fun cls d _ H => E cls d H) (defBody st) b)
    (hfin : ∀ args s, WFn s.length s → vasB s.length args → args.length = ps.length → Fin s.length (b (startA N.length args) s) (F0 args s)) : Nal P w K mg base CL C ps (k + 1) F0 := by
  obtain ⟨f, fd, F, hm, hbn⟩ := T
  exact ⟨f, fd, fn_D F S (hb f) hfin, hm, hbn⟩
end
/-! ### del xs[i] -/
def gDelIx (o i : Va) (s : Sto) : Option Sto := match o with
  | .ref n => match s[n]? with
    | some (.lst xs) => match i with
      | .int j => if -1000000000 < j ∧ j < 1000000000 then match seqIndex? j xs.length with
        | some m => some (s.set n (.lst (xs.eraseIdx m)))
        | none => none else none
      | _ => none
    | _ => none
  | _ => none
def sDelIx (d0 di : DE) : DS := fun ε s => (d0 ε s).fl ε fun o s2 => (di ε s2).fl ε fun i s3 => match gDelIx o i s3 with
  | some s4 => .nx ε s4
  | none => .bad
theorem gDelIx_ok {K : PySem.W.Frag} {F G H : Hp} {as : List Addr} {s s' : Sto} {x y : Va} {v u : V} {Q : Hp → Prop} (S : Sim K F G as s H) (rx : Rl K F as x v) (ry : Rl K F as y u) (h : gDelIx x y s = some s') (q : ∀ H', Sim K F G as s' H' → Q H') :
    ∃ (l : Addr) (xs : List V) (i : Int) (k : Nat), v = .ref l ∧ u = .int i ∧ H l = some (.lst xs) ∧ -(2 ^ 63) ≤ i ∧ i < 2 ^ 63 ∧ seqIndex? i xs.length = some k ∧ Q (upd H l (.lst (xs.eraseIdx k))) := by
  unfold gDelIx at h
  split at h
  · cases rx with
    | ref ha =>
      split at h
      · rename_i n xs e
        obtain ⟨hf, vs, h1, h2⟩ := S.ref ha e
        split at h
        · rename_i j
          cases ry
          split at h
          · rename_i hj
            split at h
            · rename_i m e2
              cases h
              refine ⟨_, vs, j, m, rfl, rfl, h1, ?_, ?_, by rw [← h2.len]; exact e2, q _ ?_⟩
              · have : (-(2 ^ 63) : Int) ≤ -1000000000 := by decide
                omega
              · have : (1000000000 : Int) < 2 ^ 63 := by decide
                omega
              · exact S.change ha hf ⟨hf, _, upd_same, h2.eraseIdx m⟩
            · cases h
          · cases h
        · cases h
      · cases h
  · cases h
section
variable {X : Cx} {CL : Cls0} {W : WX} {k : Nat} {x : Str} {p p2 pos pos' pos'' tpos np np2 : Pos} {o i : Expr} {d0 di : DE}
theorem rs_delIx (ho : RE X CL W o d0) (hi : RE X CL W i di) : RS X CL W (.Delete [.Subscript o i tpos] pos) (sDelIx d0 di) :=
  ps_weak (ps_delL ho hi) fun D σ H h => by
    obtain ⟨F, G, as, ε, s, S, E, h⟩ := h
    refine ⟨F, G, as, ε, s, S, E, Pst.imp (PF.bind E h) fun v2 H2 ⟨F2, as2, s2, y2, l2, S2, rx2, h2⟩ => ?_⟩
    refine ⟨F2, G, as2, ε, s2, S2, E.mono l2, Pst.imp (PF.bind (E.mono l2) h2) fun v3 H3 ⟨F3, as3, s3, y3, l3, S3, rx3, h3⟩ => ?_⟩
    split at h3
    · rename_i s4 e4
      exact gDelIx_ok S3 (rx2.mono l3) rx3 e4 fun H' S4 => h3 F3 as3 σ H' Le.refl S4 ((E.mono l2).mono l3)
    · exact h3.elim
end
@[simp] theorem e_delIx {d0 di : DE} {ε : En} {s : Sto} : sDelIx d0 di ε s = (d0 ε s).fl ε fun o s2 => (di ε s2).fl ε fun i s3 => match gDelIx o i s3 with | some s4 => .nx ε s4 | none => .bad := rfl
/-! ### two clauses -/
def sTry2 (d1 : DS) (t2 : List (Str × Bool)) (d2 : DS) (t3 : List (Str × Bool)) (d3 : DS) : DS := fun ε s => match d1 ε s with
  | .exc c ε' s' => match lkC t2 c with
    | some true => noEx (d2 ε' s')
    | some false => match lkC t3 c with
      | some true => noEx (d3 ε' s')
      | some false => .exc c ε' s'
      | none => .bad
    | none => .bad
  | r => r
section
variable {X : Cx} {CL : Cls0} {W : WX} {k : Nat} {x y : Str} {np np2 pos pos' pos'' : Pos} {body suite suite2 : List Stmt} {b₀ b₁ : Stmt} {t2 t3 : List (Str × Bool)} {d1 d2 d3 : DS}
theorem rs_try2 (O : Okc X W k) (T : Xtb X.K X.mg CL x t2) (T3 : Xtb X.K X.mg CL y t3) (hb : ∀ (W' : WX) (pn : List (Addr × Obj)) (xe : Value → Shared → Prop), Okc (X.tr pn xe) W' k → RSs (X.tr pn xe) CL W' body d1)
    (hsu : ∀ (a : Addr) (oe : Obj) (pn : List (Addr × Obj)), Okh (X.suite a ((a, oe) :: pn)) → RSs (X.suite a ((a, oe) :: pn)) CL W0 (b₀ :: suite) d2)
    (hsu3 : ∀ (a : Addr) (oe : Obj) (pn : List (Addr × Obj)), Okh (X.suite a ((a, oe) :: pn)) → RSs (X.suite a ((a, oe) :: pn)) CL W0 (b₁ :: suite2) d3)
    (hs : X.stack = X.env :: X.outer := by rfl) (hf : X.env.frame = some X.env.locals := by rfl) (hg : Gl X x := by rfl) (hdb : (x == ("__debug__" : Str)) = false := by decide) (hg3 : Gl X y := by rfl) (hdb3 : (y == ("__debug__" : Str)) = false := by decide) :
    RS X CL W (.Try body [.ExceptHandler (some (.Name x np)) none (b₀ :: suite) pos', .ExceptHandler (some (.Name y np2)) none (b₁ :: suite2) pos''] [] [] pos) (sTry2 d1 t2 d2 t3 d3) := by
  obtain ⟨C, h1, h2⟩ := T
  obtain ⟨C3, h13, h23⟩ := T3
  have hu : ∀ (a : Addr) (oe : Obj) (pn : List (Addr × Obj)), Okh (X.suite a ((a, oe) :: pn)) := fun a oe pn => ⟨O.hu, O.nd⟩
  refine ps_weak (ps_try_many (tb := fun W' => tDS X.K CL W' d1) (Wout := W) (l := [(.ref C, fun _ _ _ => tDS X.K CL W0 d2), (.ref C3, fun _ _ _ => tDS X.K CL W0 d3)]) hs hf O.tk (fun W' pn xe tk hp => hb W' pn xe ⟨O.calm, tk, hp, O.room, O.nd⟩)
    (.cons ⟨hg, hdb, .inl h1⟩ (fun a oe cls d pn _ _ => hsu a oe pn (hu a oe pn)) (.cons ⟨hg3, hdb3, .inl h13⟩ (fun a oe cls d pn _ _ => hsu3 a oe pn (hu a oe pn)) .nil))) fun D σ H h => ?_
  obtain ⟨F, G, as, ε, s, S, E, h⟩ := h
  refine ⟨F, G, as, ε, s, S, E, ?_⟩
  unfold sTry2 at h
  cases q : d1 ε s with
  | exc c ε' s' =>
    rw [q] at h
    dsimp only at h
    intro F' as' σ' H' l S' E'
    cases q2 : lkC t2 c with
    | none =>
      rw [q2] at h
      exact h.elim
    | some b =>
      rw [q2] at h
      refine ⟨b, h2 _ (lkC_mem q2), fun hb a _ => ?_, fun hb => ?_⟩
      · subst hb
        exact ⟨F', G, as', ε', s', S', E', PF.noEx (PF.le l h)⟩
      · subst hb
        dsimp only at h
        cases q3 : lkC t3 c with
        | none =>
          rw [q3] at h
          exact h.elim
        | some b3 =>
          rw [q3] at h
          refine ⟨b3, h23 _ (lkC_mem q3), fun hb3 a _ => ?_, fun hb3 => ?_⟩
          · subst hb3
            exact ⟨F', G, as', ε', s', S', E', PF.noEx (PF.le l h)⟩
          · subst hb3
            exact h F' as' σ' H' l S' E'
  | nx ε' s' =>
    rw [q] at h
    exact h
  | ret x s' =>
    rw [q] at h
    exact h
  | brk ε' s' =>
    rw [q] at h
    exact h
  | ct ε' s' =>
    rw [q] at h
    exact h
  | bad =>
    rw [q] at h
    exact h
end
@[simp] theorem e_try2 {d1 d2 d3 : DS} {t2 t3 : List (Str × Bool)} {ε : En} {s : Sto} : sTry2 d1 t2 d2 t3 d3 ε s = match d1 ε s with
  | .exc c ε' s' => match lkC t2 c with
    | some true => noEx (d2 ε' s')
    | some false => match lkC t3 c with
      | some true => noEx (d3 ε' s')
      | some false => .exc c ε' s'
      | none => .bad
    | none => .bad
  | r => r := rfl
@[simp] theorem e_fld {C : Addr} {f : Str} {da : DE} {ε : En} {s : Sto} : dFld C f da ε s = (da ε s).bind (gFld C f) := rfl
@[simp] theorem e_sFld {C : Addr} {f : Str} {d0 dv : DE} {ε : En} {s : Sto} : sFldD C f d0 dv ε s = (dv ε s).fl ε fun y s1 => (d0 ε s1).fl ε fun x s2 => match insA C x s2 with
  | some (i, fs) => if fs.length < 900 then .nx ε (s2.set i (.ins C (ptF f y fs))) else .bad
  | none => .bad := rfl
@[simp] theorem e_meth {C : Addr} {m : Str} {d0 : DE} {n : Nat} {F0 : List Va → Sto → Rs Va} {da : DA} {ε : En} {s : Sto} : dMeth C m d0 n F0 da ε s = (d0 ε s).bind fun x s1 => match insA C x s1 with
  | some (_, fs) => match lkF fs m with
    | none => (evA da ε s1).bind fun xs s2 => gFn n F0 (x :: xs) s2
    | some _ => .bad
  | none => .bad := rfl
@[simp] theorem e_make {C : Addr} {n : Nat} {F0 : List Va → Sto → Rs Va} {da : DA} {ε : En} {s : Sto} : dMake C n F0 da ε s = (evA da ε s).bind fun xs s1 => (gFn n F0 (.ref s1.length :: xs) (s1 ++ [.ins C []])).noexc.bind fun y s2 => match y with
  | .non => .ok (.ref s1.length) s2
  | _ => .bad := rfl
theorem insA_at {C : Addr} {i : Nat} {fs : List (Str × Va)} {s : Sto} (h : s[i]? = some (.ins C fs)) : insA C (.ref i) s = some (i, fs) := by
  unfold insA
  dsimp only
  rw [h]
  dsimp only
  rw [if_pos rfl]
end Dn

set_option Elab.async false
set_option linter.all false
set_option maxRecDepth 100000
set_option maxHeartbeats 1000000
/-! Dn, part Gr: pop(i); the groups; a dating that goes with an order. -/
namespace Dn
open PySem PySem.Spec PyProof.Rows L2
open Dm (Edge Tb fw InN Calm Holds Feas colL)
theorem ixN_small {n : Nat} {i : Int} {k : Nat} (hn : n ≤ 1000000) (h : ixN n i = some k) : -(2 ^ 63) ≤ i ∧ i < 2 ^ 63 := by
  obtain ⟨_, _, h1, h2⟩ := ixN_seq h
  omega
noncomputable def gPopAt (x : Va) (vs : List Va) (s : Sto) : Rs Va := match x, vs with
  | .ref i, [.int j] => match s[i]? with
    | some (.lst xs) => if leq xs.length 1000000 then (match ixN xs.length j with
      | some k => match xs[k]? with
        | some y => .ok y (s.set i (.lst (xs.eraseIdx k)))
        | none => .bad
      | none => .bad) else .bad
    | _ => .bad
  | _, _ => .bad
theorem mt1_popAt {K : PySem.W.Frag} : Mt1 K rPopAt gPopAt := by
  intro CL W F G as s H x v xs vs Q S rx rs q
  unfold gPopAt at q
  split at q
  · rename_i i j
    obtain ⟨w, rfl, ry⟩ := Rls1 rs
    cases ry
    split at q
    · rename_i xs e
      obtain ⟨a, us, rfl, ha, hf, h1, h2⟩ := ref_list S rx e
      split at q
      · rename_i hc
        split at q
        · rename_i k hk
          split at q
          · rename_i y hy
            obtain ⟨w, h3, h4⟩ := h2.get hy
            obtain ⟨b1, b2⟩ := ixN_small hc hk
            rw [h2.len] at hk
            refine ⟨a, us, j, k, w, rfl, rfl, h1, b1, b2, (ixN_seq hk).1, h3, ?_⟩
            exact q.okv (S.change ha hf ⟨hf, _, upd_same, h2.eraseIdx k⟩) h4
          · exact q.elim
        · exact q.elim
      · exact q.elim
    · exact q.elim
  · exact q.elim
section
variable {X : Cx} {CL : Cls0} {W : WX} {o e : Expr} {apos pos : Pos} {de : DE} {da : DA}
theorem re_mPopAt (ho : RE X CL W o de) (ha : RA X CL W [e] da) (hbase : attributeBase o "pop" X.env (eval o X.env) = eval o X.env := by rfl)
    (hfew : ((backTo pos (starEach [e] X.env)).all (fun x => !x.1) && (backToKw pos (keywordEach [] X.env)).all (fun x => x.1.isSome) && decide ([e].length + ([] : List Keyword).length + (if ([] : List Keyword).isEmpty then 0 else 1) < 30)) = true := by rfl)
    (hline : (apos.endLine == pos.line) = true := by rfl) (hs : starEach [e] X.env = (false, eval e X.env) :: starEach [] X.env := by rfl) (hplain : (backTo pos (starEach [] X.env)).any (·.1) = false := by rfl) :
    RE X CL W (.Call (.Attribute o "pop" apos) [e] [] pos) (dMt gPopAt de da) := re_mt PySem.F.slot_list_pop PySem.F.type_list_pop mt_popAt mt1_popAt ho ha hbase hfew hline hs hplain
end
/-! ### groups -/
noncomputable def b_group_of_L2 : DS := (sIf (dTB (dBin (gEq false) (dBin gIx (dV 4) (dC (.int 0))) (dC (.str "same")))) (sSeq (sSet 5 (dApp gMin2 (dCons (dBin gIx (dV 2) (dBin gIx (dV 4) (dC (.int 1)))) (dCons (dBin gIx (dV 2) (dBin gIx (dV 4) (dC (.int 2)))) dNil))))
  (sSeq (sSetIx (dV 2) (dBin gIx (dV 4) (dC (.int 1))) (dV 5))
  (sSetIx (dV 2) (dBin gIx (dV 4) (dC (.int 2))) (dV 5)))) sNext)
noncomputable def b_group_of_L1 : DS := (sFor (dSeq (dV 1)) (dgName 4)
   b_group_of_L2)
noncomputable def b_group_of : DS := (sSeq (sSet 2 (dLstRg1 true (dV 0)))
  (sSeq (sFor (dRg1 (dCons (dV 0) dNil)) (dgName 3)
   b_group_of_L1)
  (sRet (dV 2))))
noncomputable def F_group_of : List Va → Sto → Rs Va := aut 6 b_group_of
theorem fin_group_of (args : List Va) (s : Sto) (wf : WFn s.length s) (wa : vasB s.length args) (hl : args.length = 2) : Fin s.length (b_group_of (startA 6 args) s) (F_group_of args s) := fin_autoF _
noncomputable def b_l_groups_L2 : DS := (sIf (dTB (dBin (gEq false) (dBin gIx (dV 4) (dC (.int 0))) (dC (.str "same")))) (sSeq (sSet 5 (dApp gMin2 (dCons (dBin gIx (dV 2) (dBin gIx (dV 4) (dC (.int 1)))) (dCons (dBin gIx (dV 2) (dBin gIx (dV 4) (dC (.int 2)))) dNil))))
  (sSeq (sSetIx (dV 2) (dBin gIx (dV 4) (dC (.int 1))) (dV 5))
  (sSetIx (dV 2) (dBin gIx (dV 4) (dC (.int 2))) (dV 5)))) sNext)
noncomputable def b_l_groups_L1 : DS := (sFor (dSeq (dV 1)) (dgName 4)
   b_l_groups_L2)
noncomputable def b_l_groups : DS := (sSeq (sSet 2 (dLstRg1 true (dV 0)))
  (sSeq (sFor (dRg1 (dCons (dV 0) dNil)) (dgName 3)
   b_l_groups_L1)
  (sRet (dV 2))))
noncomputable def F_l_groups : List Va → Sto → Rs Va := aut 6 b_l_groups
theorem fin_l_groups (args : List Va) (s : Sto) (wf : WFn s.length s) (wa : vasB s.length args) (hl : args.length = 2) : Fin s.length (b_l_groups (startA 6 args) s) (F_l_groups args s) := fin_autoF _
def low (a b : Int) : Int := if b < a then b else a
def grpStep (L : List Int) : Rec → List Int
  | .same a b => (L.set a.toNat (low (yr L a) (yr L b))).set b.toNat (low (yr L a) (yr L b))
  | _ => L
def grpRound (rs : List Rec) (L : List Int) : List Int := rs.foldl grpStep L
def natsI (n : Nat) : List Int := (List.range n).map fun i : Nat => (i : Int)
def grpM (n : Nat) (rs : List Rec) : List Int := (List.range n).foldl (fun L _ => grpRound rs L) (natsI n)
structure GI (n : Nat) (L : List Int) : Prop where
  len : L.length = n
  lo : ∀ i : Int, 0 ≤ i → i < n → 0 ≤ yr L i ∧ yr L i ≤ i
theorem yr_set {L : List Int} {a i v : Int} (ha : 0 ≤ a ∧ a < L.length) (hi : 0 ≤ i) : yr (L.set a.toNat v) i = if i = a then v else yr L i := by
  unfold yr
  rw [List.getD_eq_getElem?_getD, List.getD_eq_getElem?_getD]
  by_cases q : i = a
  · subst q
    rw [if_pos rfl, List.getElem?_set_self (by omega)]
    rfl
  · rw [if_neg q, List.getElem?_set_ne (by omega)]
theorem GI.step {n : Nat} {L : List Int} {r : Rec} (g : GI n L) (hf : r.fits n) : GI n (grpStep L r) := by
  cases r with
  | same a b =>
    obtain ⟨h1, h2⟩ := hf
    have e1 := g.len
    dsimp only [grpStep]
    refine ⟨by rw [List.length_set, List.length_set, e1], fun i hi hn => ?_⟩
    have k1 := g.lo a h1.1 h1.2
    have k2 := g.lo b h2.1 h2.2
    have k3 := g.lo i hi hn
    have hm : 0 ≤ low (yr L a) (yr L b) ∧ low (yr L a) (yr L b) ≤ a ∧ low (yr L a) (yr L b) ≤ b := by unfold low; split <;> omega
    generalize low (yr L a) (yr L b) = m at hm ⊢
    rw [yr_set (by rw [List.length_set]; omega) hi, yr_set (by omega) hi]
    split
    · omega
    · split <;> omega
  | _ => exact g
theorem GI.round {n : Nat} {rs : List Rec} (hf : ∀ r ∈ rs, r.fits n) : ∀ {L : List Int}, GI n L → GI n (grpRound rs L) := by
  unfold grpRound
  induction rs with
  | nil => exact fun g => g
  | cons r rs ih => exact fun g => ih (fun x hx => hf x (List.mem_cons_of_mem _ hx)) (g.step (hf r List.mem_cons_self))
theorem GI.start (n : Nat) : GI n (natsI n) := ⟨by unfold natsI; rw [List.length_map, List.length_range], fun i hi hn => by
  unfold yr natsI
  rw [getD_map (fun i : Nat => (i : Int)) _ _ 0 0 (by rw [List.length_range]; omega), List.getD_eq_getElem?_getD, List.getElem?_range (by omega)]
  show 0 ≤ ((i.toNat : Nat) : Int) ∧ ((i.toNat : Nat) : Int) ≤ i
  omega⟩
theorem grpM_ok {n : Nat} {rs : List Rec} (hf : ∀ r ∈ rs, r.fits n) : GI n (grpM n rs) := by
  unfold grpM
  have : ∀ (l : List Nat) (L : List Int), GI n L → GI n (l.foldl (fun L _ => grpRound rs L) L) := fun l => by
    induction l with
    | nil => exact fun L g => g
    | cons a l ih => exact fun L g => ih _ (g.round hf)
  exact this _ _ (GI.start n)
section
variable {s : Sto} {n : Nat}
theorem lget {L : List Int} {i : Int} (h : 0 ≤ i ∧ i < L.length) : gIx (.ref s.length) (.int i) (s ++ [.lst (L.map .int)]) = .ok (.int (yr L i)) (s ++ [.lst (L.map .int)]) :=
  ix_yr (d := .ref s.length) (by unfold seqL; simp only [List.getElem?_concat_length]) h.1 h.2
theorem lset {L : List Int} {i v : Int} (h : 0 ≤ i ∧ i < L.length) : gSetIx (.int v) (.ref s.length) (.int i) (s ++ [.lst (L.map .int)]) = some (s ++ [.lst ((L.set i.toNat v).map .int)]) := by
  rw [set_yr List.getElem?_concat_length h.1 h.2, List.set_append_right _ _ (Nat.le_refl _), Nat.sub_self]
  rfl
theorem group_step {L : List Int} {r : Rec} {e1 e3 e5 : Option Va} (g : GI n L) (hf : r.fits n) : ∃ f5, b_group_of_L2 [some (.int n), e1, some (.ref s.length), e3, some r.va, e5] (s ++ [.lst (L.map .int)]) = .nx [some (.int n), e1, some (.ref s.length), e3, some r.va, f5] (s ++ [.lst ((grpStep L r).map .int)]) := by
  have hl := g.len
  unfold b_group_of_L2
  cases r with
  | same a b =>
    obtain ⟨h1, h2⟩ := hf
    have ga := lget (s := s) (L := L) (i := a) (by omega)
    have gb := lget (s := s) (L := L) (i := b) (by omega)
    have sa := lset (s := s) (L := L) (i := a) (v := low (yr L a) (yr L b)) (by omega)
    have sb := lset (s := s) (L := L.set a.toNat (low (yr L a) (yr L b))) (i := b) (v := low (yr L a) (yr L b)) (by rw [List.length_set]; omega)
    refine ⟨some (.int (low (yr L a) (yr L b))), ?_⟩
    have hm : (if yr L b < yr L a then yr L b else yr L a) = low (yr L a) (yr L b) := rfl
    simp [Rec.va, atI_0, atI_1, atI_2, ga, gb, hm, sa, sb, grpStep, -List.map_set]
  | before a b w => exact ⟨e5, by simp [Rec.va, atI_0, grpStep]⟩
  | within a b w => exact ⟨e5, by simp [Rec.va, atI_0, grpStep]⟩
  | since a y w => exact ⟨e5, by simp [Rec.va, atI_0, grpStep]⟩
  | upto a y w => exact ⟨e5, by simp [Rec.va, atI_0, grpStep]⟩
  | kind a k => exact ⟨e5, by simp [Rec.va, atI_0, grpStep]⟩
theorem group_round {rs : List Rec} {ck : Option (Nat × List Va)} {L : List Int} {e1 e3 e4 e5 : Option Va} (hck : ∀ s2, okk ck (s ++ s2)) (g : GI n L) (hf : ∀ r ∈ rs, r.fits n) : ∃ f4 f5, lp ck (fBody (dgName 4) b_group_of_L2) (rs.map Rec.va) [some (.int n), e1, some (.ref s.length), e3, e4, e5] (s ++ [.lst (L.map .int)]) = .nx [some (.int n), e1, some (.ref s.length), e3, f4, f5] (s ++ [.lst ((grpRound rs L).map .int)]) := by
  obtain ⟨ε', s', K, f4, f5, rfl, rfl, g2⟩ := lp_inv Rec.va (ck := ck) (body := fBody (dgName 4) b_group_of_L2) (fun d ε s' => ∃ f4 f5, ε = [some (.int n), e1, some (.ref s.length), e3, f4, f5] ∧ s' = s ++ [.lst ((grpRound d L).map .int)] ∧ GI n (grpRound d L)) (fun d ε s' ⟨_, _, _, e, _⟩ => by rw [e]; exact hck _) rs [] _ _ ⟨e4, e5, rfl, rfl, g⟩ (by
    rintro d r rest ε s2 hx ⟨f4, f5, rfl, rfl, g2⟩
    rw [List.nil_append] at hx
    have hr : r.fits n := hf r (by rw [hx]; exact List.mem_append_right _ List.mem_cons_self)
    obtain ⟨g5, hb⟩ := group_step (s := s) (e1 := e1) (e3 := e3) (e5 := f5) g2 hr
    have e : grpRound (d ++ [r]) L = grpStep (grpRound d L) r := by unfold grpRound; rw [List.foldl_append]; rfl
    refine ⟨_, _, hb, some r.va, g5, rfl, by rw [e], by rw [e]; exact g2.step hr⟩)
  exact ⟨f4, f5, K⟩
theorem group_of_eq {rs : List Rec} {x : Va} (wf : WFn s.length s) (hn : n ≤ 1000) (hf : ∀ r ∈ rs, r.fits n) (hx : seqL x s = some (rs.map Rec.va)) : F_group_of [.int n, x] s = .ok (.lst ((grpM n rs).map .int)) s := by
  obtain ⟨ck, hck⟩ := seq_push hx
  have hr : inR (n : Int) := ⟨by omega, by omega⟩
  obtain ⟨ε', s', K, f3, f4, f5, rfl, rfl, g2⟩ := lp_inv (fun i : Nat => Va.int i) (ck := none) (body := fBody (dgName 3) b_group_of_L1) (fun d ε s' => ∃ f3 f4 f5, ε = [some (.int n), some x, some (.ref s.length), f3, f4, f5] ∧ s' = s ++ [.lst ((d.foldl (fun L _ => grpRound rs L) (natsI n)).map .int)] ∧ GI n (d.foldl (fun L _ => grpRound rs L) (natsI n))) (fun _ _ _ _ => trivial) (List.range n) []
    [some (.int n), some x, some (.ref s.length), none, none, none] (s ++ [.lst ((natsI n).map .int)]) ⟨none, none, none, rfl, rfl, GI.start n⟩ (by
    rintro d i rest ε s2 _ ⟨f3, f4, f5, rfl, rfl, g2⟩
    obtain ⟨f6, f7, h⟩ := group_round (s := s) (rs := rs) (ck := ck) (e1 := some x) (e3 := some (.int i)) (e4 := f4) (e5 := f5) (fun s2 => (hck s2).1) g2 hf
    refine ⟨_, _, ?_, some (.int i), f6, f7, rfl, by rw [List.foldl_append], by rw [List.foldl_append]; exact g2.round hf⟩
    have S := (hck [.lst ((d.foldl (fun L _ => grpRound rs L) (natsI n)).map .int)]).2 (dV 1) [some (.int n), some x, some (.ref s.length), some (.int i), f4, f5] rfl
    rw [e_fBody, e_dgName]
    dsimp only [List.set]
    unfold b_group_of_L1
    rw [e_for, S, fl_ok]
    dsimp only
    rw [h]
    rfl)
  have gm := grpM_ok hf
  refine aut_new (s1 := s) (s2 := []) ?_ rfl vasB_ints (by rw [List.length_map]; have := gm.len; omega) wf
  have e0 : startA 6 [.int n, x] = [some (.int n), some x, none, none, none, none] := rfl
  have e2 : gRg true 0 n s = .ok (.ref s.length) (s ++ [.lst ((natsI n).map .int)]) := by
    unfold gRg
    rw [if_pos ⟨⟨by omega, by omega⟩, hr, by unfold leq; omega⟩, rgA_nats]
    unfold natsI
    rw [List.map_map]
    rfl
  rw [e0]
  unfold b_group_of
  simp only [e_seq, e_set, e_LstRg1, e_V, List.getElem?_cons_zero, List.getElem?_cons_succ, bind_ok, e2, fl_ok, List.set, e_for, e_rg1, e_Cons, e_Nil, hr, if_true, rgA_nats, K, e_ret]
  rfl
theorem l_groups_eq {rs : List Rec} {x : Va} (wf : WFn s.length s) (hn : n ≤ 1000) (hf : ∀ r ∈ rs, r.fits n) (hx : seqL x s = some (rs.map Rec.va)) : F_l_groups [.int n, x] s = .ok (.lst ((grpM n rs).map .int)) s := group_of_eq wf hn hf hx
end
/-! ### goes_with -/
noncomputable def b_goes_with_L1 : DS := (sIf (dTB (dBin (gEq true) (dBin gIx (dV 3) (dV 5)) (dV 5))) (sDrop (dMt gAppend (dV 4) (dCons (dTup (dCons (dC (.str "same")) (dCons (dBin gIx (dV 3) (dV 5)) (dCons (dV 5) dNil)))) dNil))) sNext)
noncomputable def b_goes_with_L2 : DS := (sDrop (dMt gAppend (dV 4) (dCons (dTup (dCons (dC (.str "before")) (dCons (dBin gIx (dV 2) (dV 6)) (dCons (dBin gIx (dV 2) (dBin (gAdd false) (dV 6) (dC (.int 1)))) (dCons (dC (.int 0)) dNil))))) dNil)))
noncomputable def b_goes_with : DS := (sSeq (sSet 3 (dApp (gFn 2 F_group_of) (dCons (dV 0) (dCons (dV 1) dNil))))
  (sSeq (sSet 4 (dApp (gList true) (dCons (dV 1) dNil)))
  (sSeq (sFor (dRg1 (dCons (dV 0) dNil)) (dgName 5)
   b_goes_with_L1)
  (sSeq (sFor (dRg1 (dCons (dBin gSub (dApp gLen (dCons (dV 2) dNil)) (dC (.int 1))) dNil)) (dgName 6)
   b_goes_with_L2)
  (sRet (dIf (dTr (dApp (gFn 2 F_do_hold) (dCons (dV 0) (dCons (dV 4) dNil)))) (dApp (gFn 2 F_dating) (dCons (dV 0) (dCons (dV 4) dNil))) (dC .non)))))))
noncomputable def F_goes_with : List Va → Sto → Rs Va := aut 7 b_goes_with
theorem fin_goes_with (args : List Va) (s : Sto) (wf : WFn s.length s) (wa : vasB s.length args) (hl : args.length = 3) : Fin s.length (b_goes_with (startA 7 args) s) (F_goes_with args s) := fin_autoF _
def moreS (L : List Int) (us : List Nat) : List Rec := (us.filter fun u => yr L (u : Nat) != (u : Int)).map fun u => .same (yr L (u : Nat)) (u : Nat)
def moreB (o : List Int) (ks : List Nat) : List Rec := ks.map fun k => .before (yr o (k : Nat)) (yr o ((k : Int) + 1)) 0
def moreR (n : Nat) (rs : List Rec) (o : List Int) : List Rec := moreS (grpM n rs) (List.range n) ++ moreB o (List.range (o.length - 1))
theorem moreS_fits {n : Nat} {L : List Int} {us : List Nat} (g : GI n L) (h : ∀ u ∈ us, u < n) : ∀ r ∈ moreS L us, r.fits n := by
  intro r hr
  unfold moreS at hr
  obtain ⟨u, h1, rfl⟩ := List.mem_map.mp hr
  have hu := h u (List.mem_filter.mp h1).1
  have := g.lo (u : Nat) (by omega) (by omega)
  exact ⟨by omega, by omega⟩
theorem moreB_fits {n : Nat} {o : List Int} (h : ∀ v ∈ o, 0 ≤ v ∧ v < n) : ∀ r ∈ moreB o (List.range (o.length - 1)), r.fits n := by
  intro r hr
  unfold moreB at hr
  obtain ⟨k, h1, rfl⟩ := List.mem_map.mp hr
  have hk := List.mem_range.mp h1
  refine ⟨h _ (getD_mem (by omega)), h _ (getD_mem (by omega))⟩
theorem moreR_len {n : Nat} {rs : List Rec} {o : List Int} : (moreR n rs o).length ≤ n + o.length := by
  unfold moreR moreS moreB
  rw [List.length_append, List.length_map, List.length_map, List.length_range]
  have := List.length_filter_le (fun u : Nat => yr (grpM n rs) (u : Nat) != (u : Int)) (List.range n)
  rw [List.length_range] at this
  omega
theorem moreR_fits {n : Nat} {rs : List Rec} {o : List Int} (hf : ∀ r ∈ rs, r.fits n) (h : ∀ v ∈ o, 0 ≤ v ∧ v < n) : ∀ r ∈ moreR n rs o, r.fits n := fun r hr =>
  (List.mem_append.mp hr).elim (moreS_fits (grpM_ok hf) (fun u hu => List.mem_range.mp hu) r) (moreB_fits h r)
noncomputable def goesV (n : Nat) (w : List Rec) : Va := if holdB n w then .lst ((datM n (tbOf n w)).map .int) else .non
theorem goes_eq {s : Sto} {n : Nat} {rs : List Rec} {o : List Int} (wf : WFn s.length s) (hF : Fits n rs) (ho : ∀ v ∈ o, 0 ≤ v ∧ v < n) (hol : o.length ≤ 1000) (ho1 : 1 ≤ o.length) (hrl : rs.length ≤ 1000) : F_goes_with [.int n, .lst (rs.map Rec.va), .lst (o.map .int)] s = .ok (goesV n (rs ++ moreR n rs o)) s := by
  have hn := hF.1
  have gm := grpM_ok hF.2.2
  have G := group_of_eq (x := .lst (rs.map Rec.va)) wf hn hF.2.2 rfl
  have hr : inR (n : Int) := ⟨by omega, by omega⟩
  have hr2 : inR ((o.length : Int) - 1) := ⟨by omega, by omega⟩
  have ap : ∀ (qs : List Rec) (r : Rec), qs.length ≤ 100000 → gAppend (.ref s.length) [r.va] (s ++ [.lst (qs.map Rec.va)]) = .ok .non (s ++ [.lst ((qs ++ [r]).map Rec.va)]) := fun qs r h => by
    rw [push_one (by rw [List.length_map]; omega), List.map_append]
    rfl
  have il : ∀ (qs : List Rec), isL (.ref s.length) (s ++ [.lst (qs.map Rec.va)]) = true := fun qs => isL_top
  obtain ⟨ε1, s1, K1, f5, rfl, rfl⟩ := lp_inv (fun i : Nat => Va.int i) (ck := none) (body := fBody (dgName 5) b_goes_with_L1) (fun d ε s' => ∃ f5, ε = [some (.int n), some (.lst (rs.map Rec.va)), some (.lst (o.map .int)), some (.lst ((grpM n rs).map .int)), some (.ref s.length), f5, none] ∧ s' = s ++ [.lst ((rs ++ moreS (grpM n rs) d).map Rec.va)]) (fun _ _ _ _ => trivial) (List.range n) []
    [some (.int n), some (.lst (rs.map Rec.va)), some (.lst (o.map .int)), some (.lst ((grpM n rs).map .int)), some (.ref s.length), none, none] (s ++ [.lst (rs.map Rec.va)]) ⟨none, rfl, by rw [show moreS (grpM n rs) [] = [] from rfl, List.append_nil]⟩ (by
    rintro d u rest ε s2 hd ⟨f5, rfl, rfl⟩
    rw [List.nil_append] at hd
    have hl := congrArg List.length hd
    rw [List.length_range, List.length_append] at hl
    have hu : u < n := List.mem_range.mp (by rw [hd]; exact List.mem_append_right _ List.mem_cons_self)
    have ga : ∀ s, gIx (.lst ((grpM n rs).map .int)) (.int u) s = .ok (.int (yr (grpM n rs) (u : Nat))) s := fun s => yr_at ⟨by omega, by have := gm.len; omega⟩
    have lS : (moreS (grpM n rs) d).length ≤ d.length := by unfold moreS; rw [List.length_map]; exact List.length_filter_le _ _
    have A := ap (rs ++ moreS (grpM n rs) d) (.same (yr (grpM n rs) (u : Nat)) (u : Nat)) (by rw [List.length_append]; omega)
    have I := il (rs ++ moreS (grpM n rs) d)
    have e : moreS (grpM n rs) (d ++ [u]) = moreS (grpM n rs) d ++ moreS (grpM n rs) [u] := by unfold moreS; rw [List.filter_append, List.map_append]
    rw [e_fBody, e_dgName]
    dsimp only [List.set]
    rw [e, ← List.append_assoc]
    generalize rs ++ moreS (grpM n rs) d = qs at A I ⊢
    unfold b_goes_with_L1 moreS
    by_cases q : yr (grpM n rs) (u : Nat) = (u : Int)
    · refine ⟨_, _, ?_, some (.int u), rfl, rfl⟩
      simp [ga, q, -g_ix_lst]
    · refine ⟨_, _, ?_, some (.int u), rfl, rfl⟩
      have q2 : (yr (grpM n rs) (u : Nat) != (u : Int)) = true := by simpa using q
      have A' : gAppend (.ref s.length) [.tup [.str "same", .int (yr (grpM n rs) (u : Nat)), .int u]] (s ++ [.lst (qs.map Rec.va)]) = .ok .non (s ++ [.lst ((qs ++ [Rec.same (yr (grpM n rs) (u : Nat)) (u : Nat)]).map Rec.va)]) := A
      have q3 : [u].filter (fun u : Nat => yr (grpM n rs) (u : Nat) != (u : Int)) = [u] := List.filter_cons_of_pos q2
      rw [q3]
      simp only [List.map_cons, List.map_nil]
      simp [ga, q, I, A', -g_ix_lst, -List.map_append])
  rw [List.nil_append] at K1
  obtain ⟨ε2, s2, K2, f6, rfl, rfl⟩ := lp_inv (fun i : Nat => Va.int i) (ck := none) (body := fBody (dgName 6) b_goes_with_L2) (fun d ε s' => ∃ f6, ε = [some (.int n), some (.lst (rs.map Rec.va)), some (.lst (o.map .int)), some (.lst ((grpM n rs).map .int)), some (.ref s.length), f5, f6] ∧ s' = s ++ [.lst ((rs ++ moreS (grpM n rs) (List.range n) ++ moreB o d).map Rec.va)]) (fun _ _ _ _ => trivial) (List.range (o.length - 1)) []
    [some (.int n), some (.lst (rs.map Rec.va)), some (.lst (o.map .int)), some (.lst ((grpM n rs).map .int)), some (.ref s.length), f5, none] (s ++ [.lst ((rs ++ moreS (grpM n rs) (List.range n)).map Rec.va)]) ⟨none, rfl, by rw [show moreB o [] = [] from rfl, List.append_nil]⟩ (by
    rintro d k rest ε s2 hd ⟨f6, rfl, rfl⟩
    rw [List.nil_append] at hd
    have hl := congrArg List.length hd
    rw [List.length_range, List.length_append] at hl
    have hk : k < o.length - 1 := List.mem_range.mp (by rw [hd]; exact List.mem_append_right _ List.mem_cons_self)
    have lS : (moreS (grpM n rs) (List.range n)).length ≤ n := by
      unfold moreS
      rw [List.length_map]
      have := List.length_filter_le (fun u : Nat => yr (grpM n rs) (u : Nat) != (u : Int)) (List.range n)
      rw [List.length_range] at this
      exact this
    have lB : (moreB o d).length = d.length := by unfold moreB; rw [List.length_map]
    have ga : ∀ s, gIx (.lst (o.map .int)) (.int k) s = .ok (.int (yr o (k : Nat))) s := fun s => yr_at ⟨by omega, by omega⟩
    have gb : ∀ s, gIx (.lst (o.map .int)) (.int ((k : Int) + 1)) s = .ok (.int (yr o ((k : Int) + 1))) s := fun s => yr_at ⟨by omega, by omega⟩
    have A := ap (rs ++ moreS (grpM n rs) (List.range n) ++ moreB o d) (.before (yr o (k : Nat)) (yr o ((k : Int) + 1)) 0) (by rw [List.length_append, List.length_append]; omega)
    have I := il (rs ++ moreS (grpM n rs) (List.range n) ++ moreB o d)
    have e : moreB o (d ++ [k]) = moreB o d ++ [.before (yr o (k : Nat)) (yr o ((k : Int) + 1)) 0] := by unfold moreB; rw [List.map_append]; rfl
    rw [e_fBody, e_dgName]
    dsimp only [List.set]
    rw [e, ← List.append_assoc]
    generalize rs ++ moreS (grpM n rs) (List.range n) ++ moreB o d = qs at A I ⊢
    refine ⟨_, _, ?_, some (.int k), rfl, rfl⟩
    have A' : gAppend (.ref s.length) [.tup [.str "before", .int (yr o (k : Nat)), .int (yr o ((k : Int) + 1)), .int 0]] (s ++ [.lst (qs.map Rec.va)]) = .ok .non (s ++ [.lst ((qs ++ [Rec.before (yr o (k : Nat)) (yr o ((k : Int) + 1)) 0]).map Rec.va)]) := A
    unfold b_goes_with_L2
    simp [ga, gb, I, A', -g_ix_lst, -List.map_append])
  rw [List.nil_append] at K2
  have eW : rs ++ moreS (grpM n rs) (List.range n) ++ moreB o (List.range (o.length - 1)) = rs ++ moreR n rs o := by unfold moreR; rw [List.append_assoc]
  rw [eW] at K2
  have hl2 := moreR_len (n := n) (rs := rs) (o := o)
  have hF2 : Fits n (rs ++ moreR n rs o) := ⟨hn, by rw [List.length_append]; omega, fun r hr => (List.mem_append.mp hr).elim (hF.2.2 r) (moreR_fits hF.2.2 ho r)⟩
  generalize rs ++ moreR n rs o = W at K2 hF2
  have wf2 : WFn (s ++ [Ob.lst (W.map Rec.va)]).length (s ++ [Ob.lst (W.map Rec.va)]) := wf_push wf vasB_recs
  have hx : seqL (.ref s.length) (s ++ [Ob.lst (W.map Rec.va)]) = some (W.map Rec.va) := by
    unfold seqL
    simp only [List.getElem?_concat_length]
  have D := hold_eq hF2 hx
  have ln : ∀ s, gLen [.lst (o.map .int)] s = .ok (.int o.length) s := fun s => by rw [g_len_lst, List.length_map]
  have rg2 : rgA 0 ((o.length : Int) - 1) = (List.range (o.length - 1)).map fun i : Nat => Va.int i := by
    rw [show (o.length : Int) - 1 = ((o.length - 1 : Nat) : Int) by omega, rgA_nats]
  refine aut_ret (s0 := s ++ [.lst (W.map Rec.va)]) ?_ (List.take_left' rfl) (by unfold goesV; split; exact vasB_ints; trivial) wf
  have e0 : startA 7 [.int n, .lst (rs.map Rec.va), .lst (o.map .int)] = [some (.int n), some (.lst (rs.map Rec.va)), some (.lst (o.map .int)), none, none, none, none] := rfl
  rw [e0]
  unfold b_goes_with goesV
  cases hb : holdB n W with
  | true =>
    have DT := dating_ok wf2 hF2 hx hb
    rw [hb] at D
    simp only [e_seq, e_set, e_App, e_Cons, e_V, List.getElem?_cons_zero, List.getElem?_cons_succ, bind_ok, e_Nil, gFn, List.length_cons, List.length_nil, if_true, G, fl_ok, List.set, g_list_lst, g_mkL_t, e_for, e_rg1, hr, rgA_nats, K1, e_Bin, ln, e_C, g_sub, hr2, rg2, K2, e_ret, e_If, e_Tr, D, truA, DT]
  | false =>
    rw [hb] at D
    simp only [e_seq, e_set, e_App, e_Cons, e_V, List.getElem?_cons_zero, List.getElem?_cons_succ, bind_ok, e_Nil, gFn, List.length_cons, List.length_nil, if_true, G, fl_ok, List.set, g_list_lst, g_mkL_t, e_for, e_rg1, hr, rgA_nats, K1, e_Bin, ln, e_C, g_sub, hr2, rg2, K2, e_ret, e_If, e_Tr, D, truA, Bool.false_eq_true, if_false]
end Dn

set_option Elab.async false
set_option linter.all false
set_option maxRecDepth 100000
set_option maxHeartbeats 1000000
/-! Dn, part Fr: lists that change at their places; what a step leaves as it was. -/
namespace Dn
open PySem PySem.Spec PyProof.Rows L2
section
variable {s : Sto} {i k : Nat} {xs ys : List Va} {y : Va}
theorem seqL_ref (h : s[i]? = some (.lst xs)) : seqL (.ref i) s = some xs := by
  unfold seqL
  dsimp only
  rw [h]
theorem seqA_ref (h : s[i]? = some (.lst xs)) : seqA (.ref i) s = some xs := seqA_L (seqL_ref h)
theorem isL_ref (h : s[i]? = some (.lst xs)) : isL (.ref i) s = true := by
  unfold isL
  rw [seqL_ref h]
  rfl
theorem append_ref (h : s[i]? = some (.lst xs)) (hl : xs.length ≤ 1000000) : gAppend (.ref i) [y] s = .ok .non (s.set i (.lst (xs ++ [y]))) := by
  unfold gAppend
  have hq : leq xs.length 1000000 := hl
  simp only [h, hq, if_true]
theorem pop_ref (h : s[i]? = some (.lst (xs ++ [y]))) : gPop (.ref i) s = .ok y (s.set i (.lst xs)) := by
  unfold gPop
  have e : (xs ++ [y])[(xs ++ [y]).length - 1]? = some y := by rw [List.length_append, List.length_singleton, Nat.add_sub_cancel, List.getElem?_concat_length]
  simp only [h, e, List.dropLast_concat]
theorem popAt_ref (h : s[i]? = some (.lst xs)) (hk : k < xs.length) (hl : xs.length ≤ 1000000) : gPopAt (.ref i) [.int (k : Int)] s = .ok (xs.getD k .non) (s.set i (.lst (xs.eraseIdx k))) := by
  unfold gPopAt
  have hq : leq xs.length 1000000 := hl
  have e : ixN xs.length (k : Int) = some k := by
    unfold ixN
    first
      | (rw [if_neg (by omega), if_pos (by omega)]; simp; done)
      | (simp; omega)
  have e2 : xs[k]? = some (xs.getD k .non) := by rw [List.getD_eq_getElem?_getD, List.getElem?_eq_getElem hk]; rfl
  simp only [h, hq, if_true, e, e2]
theorem ext_ref (h : s[i]? = some (.lst xs)) (h2 : seqL y s = some ys) (hl : xs.length + ys.length ≤ 1000000) : gExtend (.ref i) [y] s = .ok .non (s.set i (.lst (xs ++ ys))) := by
  unfold gExtend
  have hq : leq (xs.length + ys.length) 1000000 := hl
  simp only [h, h2, hq, if_true]
theorem del_ref (h : s[i]? = some (.lst xs)) (hk : k < xs.length) (hl : k < 1000000000) : gDelIx (.ref i) (.int (k : Int)) s = some (s.set i (.lst (xs.eraseIdx k))) := by
  unfold gDelIx
  have e : seqIndex? (k : Int) xs.length = some k := by
    have h0 : ¬ (k : Int) < 0 := by omega
    simp [seqIndex?, h0]
    omega
  have hq : (-1000000000 : Int) < (k : Int) ∧ (k : Int) < 1000000000 := by omega
  simp only [h]
  rw [if_pos hq]
  simp only [e]
theorem list_ref {bx : Bool} (h : s[i]? = some (.lst xs)) : gList bx [.ref i] s = mkL bx xs s := by
  unfold gList
  simp only [seqA_ref h]
theorem len_ref (h : s[i]? = some (.lst xs)) : gLen [.ref i] s = .ok (.int xs.length) s := by
  unfold gLen
  simp only [seqA_ref h]
theorem tru_ref (h : s[i]? = some (.lst xs)) : truA (.ref i) s = some (!xs.isEmpty) := by
  unfold truA
  simp only [seqA_ref h]
theorem add_ref {z : Va} (h : s[i]? = some (.lst xs)) (hz : seqL z s = some ys) (hl : xs.length + ys.length ≤ 1000000) : gAdd false (.ref i) z s = .ok (.lst (xs ++ ys)) s := by
  have hq : leq (xs.length + ys.length) sizeLine := Nat.le_trans hl (by decide)
  unfold gAdd
  simp only [seqL_ref h, hz, hq, if_true]
  rfl
end
section
variable {s : Sto} {i : Nat} {C : Addr} {fs : List (Str × Va)} {f m : Str} {y : Va}
theorem fld_at (h : s[i]? = some (.ins C fs)) (hf : lkF fs f = some y) : gFld C f (.ref i) s = .ok y s := by
  unfold gFld
  rw [insA_at h]
  dsimp only
  rw [hf]
end
/-! ### what changes -/
structure Chg (D : List Nat) (s s' : Sto) : Prop where
  len : s.length ≤ s'.length
  same : ∀ j, j < s.length → j ∉ D → s'[j]? = s[j]?
section
variable {D D2 : List Nat} {s s1 s2 : Sto} {i j : Nat} {o : Ob}
theorem Chg.get (c : Chg D s s1) (h : s[j]? = some o) (hj : j ∉ D) : s1[j]? = some o := (c.same j (List.getElem?_eq_some_iff.mp h).1 hj).trans h
theorem Chg.refl : Chg D s s := ⟨Nat.le_refl _, fun _ _ _ => rfl⟩
theorem Chg.set (h : i ∈ D) : Chg D s (s.set i o) := ⟨by rw [List.length_set]; exact Nat.le_refl _, fun j _ hj => List.getElem?_set_ne (fun e => hj (by rw [← e]; exact h))⟩
theorem Chg.push : Chg D s (s ++ s1) := ⟨by rw [List.length_append]; omega, fun j hj _ => List.getElem?_append_left hj⟩
theorem Chg.trans (c1 : Chg D s s1) (c2 : Chg D2 s1 s2) (h : ∀ j ∈ D2, j < s.length → j ∈ D) : Chg D s s2 :=
  ⟨Nat.le_trans c1.len c2.len, fun j hj hd => (c2.same j (Nat.lt_of_lt_of_le hj c1.len) (fun z => hd (h j z hj))).trans (c1.same j hj hd)⟩
theorem Chg.mono (c : Chg D s s1) (h : ∀ j ∈ D, j < s.length → j ∈ D2) : Chg D2 s s1 := ⟨c.len, fun j hj hd => c.same j hj (fun z => hd (h j z hj))⟩
theorem lt_of_get (h : s[j]? = some o) : j < s.length := (List.getElem?_eq_some_iff.mp h).1
theorem push_get : (s ++ [o])[s.length]? = some o := List.getElem?_concat_length
theorem set_get (h : i < s.length) : (s.set i o)[i]? = some o := List.getElem?_set_self h
end
/-! ### the law's comparison, of lists that stand in the store, too -/
noncomputable def F_l_sameR (args : List Va) (s : Sto) : Rs Va := match args with
  | [x, y] => match seqL x s, seqL y s with
    | some xs, some ys => if (xs.length ≤ 100000 ∧ datsB xs = true) ∧ (ys.length ≤ 100000 ∧ datsB ys = true) ∧ deps ys < 5 then .ok (.bl (samesB xs ys)) s else .bad
    | _, _ => .bad
  | _ => .bad
theorem isi_list_L {x : Va} {xs : List Va} {s : Sto} (h : seqL x s = some xs) : gIsi "list" x s = .ok (.bl true) s ∧ gIsi "tuple" x s = .ok (.bl false) s ∧ gLen [x] s = .ok (.int xs.length) s := by
  cases x with
  | lst ys =>
    cases h
    exact ⟨isi_list_list, isi_tuple_list, rfl⟩
  | ref i =>
    unfold seqL at h
    dsimp only at h
    split at h
    · rename_i ys e
      cases h
      have ht : tyA (.ref i) s = some "list" := by
        unfold tyA
        simp only [e]
      exact ⟨isi_of ht (by decide +kernel), isi_of ht (by decide +kernel), len_ref e⟩
    · cases h
  | _ => simp [seqL] at h
theorem same_L {d : Nat} {x y : Va} {xs ys : List Va} {s : Sto} (hx : seqL x s = some xs) (hy : seqL y s = some ys) (d1 : xs.length ≤ 100000 ∧ datsB xs = true) (d2 : ys.length ≤ 100000 ∧ datsB ys = true) (d3 : deps ys < d) : b_l_same d [some x, some y, none] s = .ret (.bl (samesB xs ys)) s := by
  obtain ⟨x1, x2, x3⟩ := isi_list_L hx
  obtain ⟨y1, y2, y3⟩ := isi_list_L hy
  by_cases hq : xs.length = ys.length
  · unfold b_l_same
    have L := same_loop (s := s) (x := x) (y := y) (seqA_L hx) (seqA_L hy) hq d1.2 d2.2 d3
    rw [← samesB_rg hq]
    have hr : inR (ys.length : Int) := ⟨by omega, by omega⟩
    have hl : leq (rgA 0 (ys.length : Int)).length 100000 := by unfold leq; rw [rgA_len]; omega
    generalize (List.range ys.length).map (fun i => sameB (xs.getD i .non) (ys.getD i .non)) = bs at L ⊢
    simp only [e_seq, e_ifS, e_Or, e_Tr, e_Un, e_V, List.getElem?_cons_zero, List.getElem?_cons_succ, bind_ok, x1, x2, y1, y2, truA, fl_ok, if_true, if_false, e_TB, e_Bin, g_eq_bl, Bool.false_eq_true, decide_true, decide_false, bne_self_eq_false, e_ret, e_AndV, e_App, e_Cons, e_Nil, x3, y3, g_eq_int, hq, e_next, e_C]
    simp only [e_Lc, e_rg1, e_Cons, e_Nil, e_App, e_V, List.getElem?_cons_zero, List.getElem?_cons_succ, bind_ok, y3, hr, and_self, if_true, hl, wip, List.set, L, g_mkL_f, gAll, seqL, blsOf_map, fl_ok, Bool.false_bne]
  · unfold b_l_same
    rw [samesB_len hq]
    have hq2 : ¬ (xs.length : Int) = (ys.length : Int) := fun e => hq (by omega)
    simp only [e_seq, e_ifS, e_Or, e_Tr, e_Un, e_V, List.getElem?_cons_zero, List.getElem?_cons_succ, bind_ok, x1, x2, y1, y2, truA, fl_ok, if_true, if_false, e_TB, e_Bin, g_eq_bl, Bool.false_eq_true, decide_true, decide_false, bne_self_eq_false, e_ret, e_AndV, e_App, e_Cons, e_Nil, x3, y3, g_eq_int, hq2, e_next, e_C]
theorem fin_l_sameR (args : List Va) (s : Sto) (wf : WFn s.length s) (wa : vasB s.length args) (hl : args.length = 2) : Fin s.length (b_l_same 5 (startA 3 args) s) (F_l_sameR args s) := by
  unfold F_l_sameR
  split
  · rename_i x y
    split
    · rename_i xs ys e1 e2
      split
      · rename_i h
        exact Fin.ret1 (same_L e1 e2 h.1 h.2.1 h.2.2) trivial wf
      · exact .bad
    · exact .bad
  · exact .bad
theorem sameR_eq {x y : Va} {xs ys : List Va} {s : Sto} (hx : seqL x s = some xs) (hy : seqL y s = some ys) (d1 : xs.length ≤ 100000 ∧ datsB xs = true) (d2 : ys.length ≤ 100000 ∧ datsB ys = true) (d3 : deps ys < 5) : F_l_sameR [x, y] s = .ok (.bl (samesB xs ys)) s := by
  unfold F_l_sameR
  simp only [hx, hy]
  rw [if_pos ⟨d1, d2, d3⟩]
/-- a list of records and itself -/
theorem sameR_recs {x y : Va} {rs : List Rec} {s : Sto} (hx : seqL x s = some (rs.map Rec.va)) (hy : seqL y s = some (rs.map Rec.va)) (h : rs.length ≤ 100000) : F_l_sameR [x, y] s = .ok (.bl true) s := by
  rw [sameR_eq hx hy ⟨by rw [List.length_map]; exact h, recs_dats rs⟩ ⟨by rw [List.length_map]; exact h, recs_dats rs⟩ (Nat.lt_of_le_of_lt (recs_deps rs) (by decide)), samesB_refl _ (recs_dats rs)]
/-! ### kept stores -/
section
variable {nb : Nat} {b : DS} {args : List Va} {s s0 : Sto} {v : Va} {ε : En} {c : Str}
theorem autK_ret (h : b (startA nb args) s = .ret v s0) : autK nb b args s = .ok v s0 := by
  unfold autK
  rw [h]
  rfl
theorem autK_nx (h : b (startA nb args) s = .nx ε s0) : autK nb b args s = .ok .non s0 := by
  unfold autK
  rw [h]
  rfl
theorem autK_exc (h : b (startA nb args) s = .exc c ε s) (hw : WFn s.length s) : autK nb b args s = .exc c s := by
  unfold autK
  rw [h]
  unfold autoK
  dsimp only
  rw [List.take_length, if_pos hw]
end
end Dn

set_option Elab.async false
set_option linter.all false
set_option maxRecDepth 100000
set_option maxHeartbeats 4000000
/-! k51: the dig. -/
namespace Dn
open PySem PySem.Spec PyProof.Rows L2
open Dm (Edge Tb fw InN Calm Holds Feas colL)
noncomputable def b_Dig_init (CDig : Addr) : DS := (sSeq (sFldD CDig "n" (dV 0) (dV 1))
  (sSeq (sFldD CDig "rows" (dV 0) (dLst true dNil))
  (sFldD CDig "past" (dV 0) (dLst true dNil))))
noncomputable def F_Dig_init (CDig : Addr) : List Va → Sto → Rs Va := autK 2 (b_Dig_init CDig)
theorem fin_Dig_init {CDig : Addr} (args : List Va) (s : Sto) (wf : WFn s.length s) (wa : vasB s.length args) (hl : args.length = 2) : Fin s.length (b_Dig_init CDig (startA 2 args) s) (F_Dig_init CDig args s) := fin_autoK _
noncomputable def b_Dig_add (CDig : Addr) : DS := (sSeq (sIf (dTB (dBin (gEq false) (dApp gLen (dCons (dFld CDig "rows" (dV 0)) dNil)) (dC (.int 300)))) (sRaise "TooMany") sNext)
  (sSeq (sDrop (dMt gAppend (dFld CDig "past" (dV 0)) (dCons (dApp (gList true) (dCons (dFld CDig "rows" (dV 0)) dNil)) dNil)))
  (sDrop (dMt gAppend (dFld CDig "rows" (dV 0)) (dCons (dV 1) dNil)))))
noncomputable def F_Dig_add (CDig : Addr) : List Va → Sto → Rs Va := autK 2 (b_Dig_add CDig)
theorem fin_Dig_add {CDig : Addr} (args : List Va) (s : Sto) (wf : WFn s.length s) (wa : vasB s.length args) (hl : args.length = 2) : Fin s.length (b_Dig_add CDig (startA 2 args) s) (F_Dig_add CDig args s) := fin_autoK _
noncomputable def b_Dig_strike (CDig : Addr) : DS := (sSeq (sIf (dNot (dTB (dCh gLe gLt (dC (.int 0)) (dV 1) (dApp gLen (dCons (dFld CDig "rows" (dV 0)) dNil))))) (sRaise "NoDeed") sNext)
  (sSeq (sDrop (dMt gAppend (dFld CDig "past" (dV 0)) (dCons (dApp (gList true) (dCons (dFld CDig "rows" (dV 0)) dNil)) dNil)))
  (sDelIx (dFld CDig "rows" (dV 0)) (dV 1))))
noncomputable def F_Dig_strike (CDig : Addr) : List Va → Sto → Rs Va := autK 2 (b_Dig_strike CDig)
theorem fin_Dig_strike {CDig : Addr} (args : List Va) (s : Sto) (wf : WFn s.length s) (wa : vasB s.length args) (hl : args.length = 2) : Fin s.length (b_Dig_strike CDig (startA 2 args) s) (F_Dig_strike CDig args s) := fin_autoK _
noncomputable def b_Dig_undo (CDig : Addr) : DS := (sSeq (sIf (dNot (dTr (dFld CDig "past" (dV 0)))) (sRaise "NoDeed") sNext)
  (sFldD CDig "rows" (dV 0) (dMt0 gPop (dFld CDig "past" (dV 0)))))
noncomputable def F_Dig_undo (CDig : Addr) : List Va → Sto → Rs Va := autK 1 (b_Dig_undo CDig)
theorem fin_Dig_undo {CDig : Addr} (args : List Va) (s : Sto) (wf : WFn s.length s) (wa : vasB s.length args) (hl : args.length = 1) : Fin s.length (b_Dig_undo CDig (startA 1 args) s) (F_Dig_undo CDig args s) := fin_autoK _
noncomputable def b_Dig_records (CDig : Addr) : DS := (sRet (dApp (gList true) (dCons (dFld CDig "rows" (dV 0)) dNil)))
noncomputable def F_Dig_records (CDig : Addr) : List Va → Sto → Rs Va := autB 1 (b_Dig_records CDig)
theorem fin_Dig_records {CDig : Addr} (args : List Va) (s : Sto) (wf : WFn s.length s) (wa : vasB s.length args) (hl : args.length = 1) : Fin s.length (b_Dig_records CDig (startA 1 args) s) (F_Dig_records CDig args s) := fin_autoB _
noncomputable def c_Dig_would_change_1 (CDig : Addr) : DE := (dLc false (dRg1 (dCons (dFld CDig "n" (dV 0)) dNil)) (dgName 4) (dTB (dBin (gEq true) (dApp (gFn 3 F_ends) (dCons (dV 2) (dCons (dFld CDig "n" (dV 0)) (dCons (dV 4) dNil)))) (dApp (gFn 3 F_ends) (dCons (dV 3) (dCons (dFld CDig "n" (dV 0)) (dCons (dV 4) dNil)))))) (dV 4) [4])
noncomputable def b_Dig_would_change (CDig : Addr) : DS := (sSeq (sSet 2 (dApp (gFn 2 F_sure_ways) (dCons (dFld CDig "n" (dV 0)) (dCons (dFld CDig "rows" (dV 0)) dNil))))
  (sSeq (sIf (dNot (dTr (dApp (gFn 2 F_do_hold) (dCons (dFld CDig "n" (dV 0)) (dCons (dBin (gAdd false) (dFld CDig "rows" (dV 0)) (dLst false (dCons (dV 1) dNil))) dNil))))) (sRaise "Unsure") sNext)
  (sSeq (sSet 3 (dApp (gFn 2 F_ways) (dCons (dFld CDig "n" (dV 0)) (dCons (dBin (gAdd false) (dFld CDig "rows" (dV 0)) (dLst false (dCons (dV 1) dNil))) dNil))))
  (sRet (c_Dig_would_change_1 CDig)))))
noncomputable def F_Dig_would_change (CDig : Addr) : List Va → Sto → Rs Va := aut 5 (b_Dig_would_change CDig)
theorem fin_Dig_would_change {CDig : Addr} (args : List Va) (s : Sto) (wf : WFn s.length s) (wa : vasB s.length args) (hl : args.length = 2) : Fin s.length (b_Dig_would_change CDig (startA 5 args) s) (F_Dig_would_change CDig args s) := fin_autoF _
noncomputable def c_Dig_copy_1 (CDig : Addr) : DE := (dLc true (dSeq (dFld CDig "past" (dV 0))) (dgName 2) dYes (dApp (gList true) (dCons (dV 2) dNil)) [2])
noncomputable def b_Dig_copy (CDig : Addr) : DS := (sSeq (sSet 1 (dMake CDig 2 (F_Dig_init CDig) (dCons (dFld CDig "n" (dV 0)) dNil)))
  (sSeq (sFldD CDig "rows" (dV 1) (dApp (gList true) (dCons (dFld CDig "rows" (dV 0)) dNil)))
  (sSeq (sFldD CDig "past" (dV 1) (c_Dig_copy_1 CDig))
  (sRet (dV 1)))))
noncomputable def F_Dig_copy (CDig : Addr) : List Va → Sto → Rs Va := autK 3 (b_Dig_copy CDig)
theorem fin_Dig_copy {CDig : Addr} (args : List Va) (s : Sto) (wf : WFn s.length s) (wa : vasB s.length args) (hl : args.length = 1) : Fin s.length (b_Dig_copy CDig (startA 3 args) s) (F_Dig_copy CDig args s) := fin_autoK _
noncomputable def c_l_reaches_1 : DE := (dLc false (dSeq (dV 2)) (dgTup [5, 6, 7]) dYes (dTup (dCons (dV 6) (dCons (dV 5) (dCons (dV 7) dNil)))) [5, 6, 7])
noncomputable def c_l_reaches_2 : DE := (dLc false (dRg1 (dCons (dV 0) dNil)) (dgName 8) dYes (dTup (dCons (dBin gIx (dV 3) (dV 8)) (dCons (dBin gIx (dV 4) (dV 8)) dNil))) [8])
noncomputable def b_l_reaches : DS := (sSeq (sSet 2 (dApp (gFn 2 F_l_steps) (dCons (dV 0) (dCons (dV 1) dNil))))
  (sSeq (sSet 3 (dApp (gFn 3 F_l_far) (dCons (dV 0) (dCons (dV 2) (dCons (dLst false (dCons (dV 0) dNil)) dNil)))))
  (sSeq (sSet 4 (dApp (gFn 3 F_l_far) (dCons (dV 0) (dCons c_l_reaches_1 (dCons (dLst false (dCons (dV 0) dNil)) dNil)))))
  (sRet c_l_reaches_2))))
noncomputable def F_l_reaches : List Va → Sto → Rs Va := aut 9 b_l_reaches
theorem fin_l_reaches (args : List Va) (s : Sto) (wf : WFn s.length s) (wa : vasB s.length args) (hl : args.length = 2) : Fin s.length (b_l_reaches (startA 9 args) s) (F_l_reaches args s) := fin_autoF _
noncomputable def c_l_change_1 : DE := (dLc false (dRg1 (dCons (dV 0) dNil)) (dgName 5) (dTB (dBin (gEq true) (dBin gIx (dV 3) (dV 5)) (dBin gIx (dV 4) (dV 5)))) (dV 5) [5])
noncomputable def b_l_change : DS := (sSeq (sIf (dOr (dNot (dTr (dApp (gFn 2 F_l_holds) (dCons (dV 0) (dCons (dV 1) dNil))))) (dNot (dTr (dApp (gFn 2 F_l_holds) (dCons (dV 0) (dCons (dBin (gAdd false) (dV 1) (dLst false (dCons (dV 2) dNil))) dNil)))))) (sRet (dLst false dNil)) sNext)
  (sSeq (sSet 3 (dApp (gFn 2 F_l_reaches) (dCons (dV 0) (dCons (dV 1) dNil))))
  (sSeq (sSet 4 (dApp (gFn 2 F_l_reaches) (dCons (dV 0) (dCons (dBin (gAdd false) (dV 1) (dLst false (dCons (dV 2) dNil))) dNil))))
  (sRet (dLst false (dCons c_l_change_1 dNil))))))
noncomputable def F_l_change : List Va → Sto → Rs Va := aut 6 b_l_change
theorem fin_l_change (args : List Va) (s : Sto) (wf : WFn s.length s) (wa : vasB s.length args) (hl : args.length = 3) : Fin s.length (b_l_change (startA 6 args) s) (F_l_change args s) := fin_autoF _
noncomputable def b_l_told (CDig : Addr) : DS := (sTry (sRet (dLst false (dCons (dMeth CDig "would_change" (dV 0) 2 (F_Dig_would_change CDig) (dCons (dV 1) dNil)) dNil))) [("Unsure", true)] (sRet (dLst false dNil)))
noncomputable def F_l_told (CDig : Addr) : List Va → Sto → Rs Va := aut 2 (b_l_told CDig)
theorem fin_l_told {CDig : Addr} (args : List Va) (s : Sto) (wf : WFn s.length s) (wa : vasB s.length args) (hl : args.length = 2) : Fin s.length (b_l_told CDig (startA 2 args) s) (F_l_told CDig args s) := fin_autoF _
noncomputable def b_l_done (CDig : Addr) : DS := (sTry2 (sSeq (sIf (dTB (dBin (gEq false) (dV 1) (dC (.str "add")))) (sDrop (dMeth CDig "add" (dV 0) 2 (F_Dig_add CDig) (dCons (dV 2) dNil))) (sIf (dTB (dBin (gEq false) (dV 1) (dC (.str "strike")))) (sDrop (dMeth CDig "strike" (dV 0) 2 (F_Dig_strike CDig) (dCons (dV 2) dNil))) (sDrop (dMeth CDig "undo" (dV 0) 1 (F_Dig_undo CDig) dNil))))
  (sRet (dC (.str "done")))) [("NoDeed", true), ("TooMany", false)] (sRet (dC (.str "none"))) [("TooMany", true)] (sRet (dC (.str "many"))))
noncomputable def F_l_done (CDig : Addr) : List Va → Sto → Rs Va := autK 3 (b_l_done CDig)
theorem fin_l_done {CDig : Addr} (args : List Va) (s : Sto) (wf : WFn s.length s) (wa : vasB s.length args) (hl : args.length = 3) : Fin s.length (b_l_done CDig (startA 3 args) s) (F_l_done CDig args s) := fin_autoK _
noncomputable def b_l_due_L1 : DS := (sDrop (dMt0 gPop (dV 0)))
noncomputable def t_l_due_L1 : DT := (dTr (dV 0))
noncomputable def b_l_due : DS := (sSeq (sIf (dTB (dBin (gEq false) (dV 2) (dC (.str "add")))) (sSeq (sIf (dTB (dBin (gEq false) (dApp gLen (dCons (dV 0) dNil)) (dC (.int 300)))) (sRet (dC (.str "many"))) sNext)
  (sSeq (sDrop (dMt gAppend (dV 1) (dCons (dApp (gList false) (dCons (dV 0) dNil)) dNil)))
  (sSeq (sDrop (dMt gAppend (dV 0) (dCons (dV 3) dNil)))
  (sRet (dC (.str "done")))))) sNext)
  (sSeq (sIf (dTB (dBin (gEq false) (dV 2) (dC (.str "strike")))) (sSeq (sIf (dNot (dTB (dCh gLe gLt (dC (.int 0)) (dV 3) (dApp gLen (dCons (dV 0) dNil))))) (sRet (dC (.str "none"))) sNext)
  (sSeq (sDrop (dMt gAppend (dV 1) (dCons (dApp (gList false) (dCons (dV 0) dNil)) dNil)))
  (sSeq (sDrop (dMt gPopAt (dV 0) (dCons (dV 3) dNil)))
  (sRet (dC (.str "done")))))) sNext)
  (sSeq (sIf (dNot (dTr (dV 1))) (sRet (dC (.str "none"))) sNext)
  (sSeq (sSet 4 (dMt0 gPop (dV 1)))
  (sSeq (sWhile t_l_due_L1
   b_l_due_L1)
  (sSeq (sDrop (dMt gExtend (dV 0) (dCons (dV 4) dNil)))
  (sRet (dC (.str "done")))))))))
noncomputable def F_l_due : List Va → Sto → Rs Va := autK 5 b_l_due
theorem fin_l_due (args : List Va) (s : Sto) (wf : WFn s.length s) (wa : vasB s.length args) (hl : args.length = 4) : Fin s.length (b_l_due (startA 5 args) s) (F_l_due args s) := fin_autoK _
abbrev WF (s : Sto) : Prop := WFn s.length s
theorem map_erase {α β : Type} (f : α → β) : ∀ (xs : List α) (k : Nat), (xs.eraseIdx k).map f = (xs.map f).eraseIdx k
  | [], k => by simp
  | x :: xs, 0 => by simp
  | x :: xs, k + 1 => by simp [map_erase f xs k]
def digF (n a b : Nat) : List (Str × Va) := [("n", .int n), ("rows", .ref a), ("past", .ref b)]
def refsV (ps : List (Nat × List Rec)) : List Va := ps.map fun q => .ref q.1
def digL (i a b : Nat) (ps : List (Nat × List Rec)) : List Nat := i :: a :: b :: ps.map (·.1)
structure DigAt (C : Addr) (s : Sto) (n i a b : Nat) (rows : List Rec) (ps : List (Nat × List Rec)) : Prop where
  ob : s[i]? = some (.ins C (digF n a b))
  ra : s[a]? = some (.lst (rows.map Rec.va))
  pb : s[b]? = some (.lst (refsV ps))
  pc : ∀ q ∈ ps, s[q.1]? = some (.lst (q.2.map Rec.va))
  nd : (digL i a b ps).Nodup
section
variable {C : Addr} {s s1 : Sto} {n i a b : Nat} {rows : List Rec} {ps : List (Nat × List Rec)} {D : List Nat}
theorem DigAt.keep (h : DigAt C s n i a b rows ps) (c : Chg D s s1) (hd : ∀ j ∈ digL i a b ps, j ∉ D) : DigAt C s1 n i a b rows ps := by
  unfold digL at hd
  refine ⟨c.get h.ob (hd _ (by simp)), c.get h.ra (hd _ (by simp)), c.get h.pb (hd _ (by simp)), fun q hq => c.get (h.pc q hq) (hd _ ?_), h.nd⟩
  simp only [List.mem_cons, List.mem_map]
  exact .inr (.inr (.inr ⟨q, hq, rfl⟩))
theorem DigAt.lt (h : DigAt C s n i a b rows ps) : ∀ j ∈ digL i a b ps, j < s.length := by
  intro j hj
  unfold digL at hj
  simp only [List.mem_cons, List.mem_map] at hj
  rcases hj with rfl | rfl | rfl | ⟨q, hq, rfl⟩
  · exact lt_of_get h.ob
  · exact lt_of_get h.ra
  · exact lt_of_get h.pb
  · exact lt_of_get (h.pc q hq)
theorem DigAt.ne (h : DigAt C s n i a b rows ps) : i ≠ a ∧ i ≠ b ∧ a ≠ b ∧ ∀ q ∈ ps, q.1 ≠ i ∧ q.1 ≠ a ∧ q.1 ≠ b := by
  have nd := h.nd
  unfold digL at nd
  simp only [List.nodup_cons, List.mem_cons, List.mem_map, not_or, not_exists, not_and] at nd
  obtain ⟨⟨h1, h2, h3⟩, ⟨h4, h5⟩, h6, _⟩ := nd
  exact ⟨h1, h2, h4, fun q hq => ⟨fun e => h3 q hq e, fun e => h5 q hq e, fun e => h6 q hq e⟩⟩
theorem lk_n : lkF (digF n a b) "n" = some (.int n) := by simp [digF, lkF]
theorem lk_r : lkF (digF n a b) "rows" = some (.ref a) := by simp [digF, lkF]
theorem lk_p : lkF (digF n a b) "past" = some (.ref b) := by simp [digF, lkF]
theorem lk_m {m : Str} (h : m ∈ (["add", "strike", "undo", "records", "would_change", "copy"] : List Str)) : lkF (digF n a b) m = none := by
  simp only [List.mem_cons, List.not_mem_nil, or_false] at h
  rcases h with rfl | rfl | rfl | rfl | rfl | rfl <;> simp [digF, lkF]
theorem pt_r {a' : Nat} : ptF "rows" (.ref a') (digF n a b) = digF n a' b := by simp [digF, ptF]
theorem pt_p {b' : Nat} : ptF "past" (.ref b') (digF n a b) = digF n a b' := by simp [digF, ptF]
theorem wf_setl {o : Ob} (w : WFn s.length s) (h : obB s.length o) : WFn (s.set i o).length (s.set i o) := by
  rw [List.length_set]
  exact wf_set w h
theorem vasB_refs {N : Nat} : ∀ {ps : List (Nat × List Rec)}, (∀ q ∈ ps, q.1 < N) → vasB N (refsV ps)
  | [], _ => trivial
  | q :: ps, h => ⟨h q List.mem_cons_self, vasB_refs fun q hq => h q (List.mem_cons_of_mem _ hq)⟩
theorem obB_dig {N : Nat} (h1 : a < N) (h2 : b < N) : obB N (.ins C (digF n a b)) := ⟨trivial, h1, h2, trivial⟩
theorem obB_recs {N : Nat} : obB N (.lst (rows.map Rec.va)) := vasB_recs
end
/-! ### a dig is made -/
section
variable {C : Addr} {s : Sto} {n i a b : Nat} {rows : List Rec} {ps : List (Nat × List Rec)} {ε : En}
theorem init_eq : F_Dig_init C [.ref s.length, .int n] (s ++ [.ins C []]) = .ok .non (s ++ [.ins C (digF n (s.length + 1) (s.length + 2)), .lst [], .lst []]) := by
  refine autK_nx (ε := [some (.ref s.length), some (.int n)]) ?_
  have e0 : startA 2 [.ref s.length, .int n] = [some (.ref s.length), some (.int n)] := rfl
  have g0 : ∀ (o : Ob) (z : Sto), insA C (.ref s.length) (s ++ .ins C [] :: z) = some (s.length, []) := fun o z => insA_at (by rw [List.getElem?_append_right (Nat.le_refl _), Nat.sub_self]; rfl)
  have g1 : ∀ (fs : List (Str × Va)) (z : Sto), insA C (.ref s.length) (s ++ .ins C fs :: z) = some (s.length, fs) := fun o z => insA_at (by rw [List.getElem?_append_right (Nat.le_refl _), Nat.sub_self]; rfl)
  have g2 : ∀ (o o' : Ob) (z : Sto), (s ++ o :: z).set s.length o' = s ++ o' :: z := fun o o' z => by rw [List.set_append_right _ _ (Nat.le_refl _), Nat.sub_self]; rfl
  rw [e0]
  unfold b_Dig_init
  simp [g1, g2, ptF, digF, List.append_assoc]
theorem make_eq {dn : DE} (h : dn ε s = .ok (.int n) s) : dMake C 2 (F_Dig_init C) (dCons dn dNil) ε s = .ok (.ref s.length) (s ++ [.ins C (digF n (s.length + 1) (s.length + 2)), .lst [], .lst []]) := by
  rw [e_make, e_Cons, h]
  simp only [bind_ok, e_Nil, gFn, List.length_cons, List.length_nil, if_true, init_eq, noexc_ok]
theorem dig_new : DigAt C (s ++ [.ins C (digF n (s.length + 1) (s.length + 2)), .lst [], .lst []]) n s.length (s.length + 1) (s.length + 2) [] [] := by
  refine ⟨?_, ?_, ?_, fun q hq => (List.not_mem_nil hq).elim, ?_⟩
  · rw [List.getElem?_append_right (Nat.le_refl _), Nat.sub_self]
    rfl
  · rw [get_app]
    rfl
  · rw [get_app]
    rfl
  · unfold digL
    simp
theorem wf_new (w : WFn s.length s) : WF (s ++ [.ins C (digF n (s.length + 1) (s.length + 2)), .lst [], .lst []]) := by
  unfold WF
  rw [List.length_append]
  intro o ho
  rcases List.mem_append.mp ho with h | h
  · exact obB_mono (Nat.le_add_right _ _) (w o h)
  · simp only [List.mem_cons, List.not_mem_nil, or_false] at h
    rcases h with rfl | rfl | rfl
    · exact obB_dig (by simp) (by simp)
    · trivial
    · trivial
/-! ### deeds -/
theorem nodup_app {L : List Nat} {j : Nat} (h : L.Nodup) (hj : j ∉ L) : (L ++ [j]).Nodup := by
  refine List.nodup_append.mpr ⟨h, by simp, fun x hx y hy e => ?_⟩
  rw [List.mem_singleton.mp hy] at e
  exact hj (e ▸ hx)
/-- the rows are kept among the past ones -/
theorem past_push (h : DigAt C s n i a b rows ps) (w : WFn s.length s) : ∃ s1 : Sto, s1 = (s ++ [Ob.lst (rows.map Rec.va)]).set b (Ob.lst (refsV ps ++ [Va.ref s.length])) ∧ DigAt C s1 n i a b rows (ps ++ [(s.length, rows)]) ∧ Chg [b] s s1 ∧ WFn s1.length s1 ∧ s1.length = s.length + 1 := by
  refine ⟨_, rfl, ?_, ?_, ?_, ?_⟩
  · obtain ⟨n1, n2, n3, n4⟩ := h.ne
    have hl := h.lt
    have hb := lt_of_get h.pb
    have k := h.keep (s1 := s ++ [.lst (rows.map Rec.va)]) (D := []) Chg.push (by simp)
    refine ⟨?_, ?_, ?_, ?_, ?_⟩
    · rw [get_set_ne (Ne.symm n2)]
      exact k.ob
    · rw [get_set_ne (Ne.symm n3)]
      exact k.ra
    · rw [set_get (by rw [List.length_append]; omega)]
      unfold refsV
      rw [List.map_append]
      rfl
    · intro q hq
      rcases List.mem_append.mp hq with hq | hq
      · rw [get_set_ne (fun e => (n4 q hq).2.2 e.symm)]
        exact k.pc q hq
      · rw [List.mem_singleton.mp hq, get_set_ne (by show b ≠ s.length; omega)]
        exact push_get
    · have e : digL i a b (ps ++ [(s.length, rows)]) = digL i a b ps ++ [s.length] := by
        unfold digL
        rw [List.map_append]
        rfl
      rw [e]
      exact nodup_app h.nd (fun hj => Nat.lt_irrefl _ (hl _ hj))
  · exact (Chg.push (D := [b])).trans (Chg.set (D := [b]) (by simp)) (fun j hj _ => hj)
  · have w1 := wf_push w (o := .lst (rows.map Rec.va)) obB_recs
    refine wf_setl w1 ?_
    rw [List.length_append]
    show vasB _ (refsV ps ++ [.ref s.length])
    have e : refsV ps ++ [Va.ref s.length] = refsV (ps ++ [(s.length, rows)]) := by
      unfold refsV
      rw [List.map_append]
      rfl
    rw [e]
    refine vasB_refs fun q hq => ?_
    rcases List.mem_append.mp hq with hq | hq
    · have := lt_of_get (h.pc q hq)
      simp only [List.length_singleton]
      omega
    · rw [List.mem_singleton.mp hq]
      simp
  · rw [List.length_set, List.length_append]
    rfl
/-- the rows change -/
theorem rows_set {rows' : List Rec} (h : DigAt C s n i a b rows ps) (w : WFn s.length s) : DigAt C (s.set a (.lst (rows'.map Rec.va))) n i a b rows' ps ∧ WF (s.set a (.lst (rows'.map Rec.va))) := by
  obtain ⟨n1, n2, n3, n4⟩ := h.ne
  refine ⟨⟨?_, set_get (lt_of_get h.ra), ?_, fun q hq => ?_, h.nd⟩, wf_setl w obB_recs⟩
  · rw [get_set_ne (Ne.symm n1)]
    exact h.ob
  · rw [get_set_ne n3]
    exact h.pb
  · rw [get_set_ne (fun e => (n4 q hq).2.1 e.symm)]
    exact h.pc q hq
theorem append_past {v : Va} (h : DigAt C s n i a b rows ps) (hε : ε[0]? = some (some (.ref i))) (hp : ps.length ≤ 1000000) : sDrop (dMt gAppend (dFld C "past" (dV 0)) (dCons (dApp (gList true) (dCons (dFld C "rows" (dV 0)) dNil)) dNil)) ε s = .nx ε ((s ++ [Ob.lst (rows.map Rec.va)]).set b (Ob.lst (refsV ps ++ [Va.ref s.length]))) := by
  have g1 := fld_at h.ob lk_p
  have g2 := fld_at h.ob lk_r
  have g3 := isL_ref h.pb
  have g4 : gAppend (.ref b) [.ref s.length] (s ++ [.lst (rows.map Rec.va)]) = _ := append_ref (xs := refsV ps) ((Chg.push (D := [])).get h.pb (by simp)) (by unfold refsV; rw [List.length_map]; exact hp)
  simp only [e_drop, e_Mt, e_fld, e_V, hε, bind_ok, g1, g3, if_true, e_Cons, e_App, g2, e_Nil, list_ref h.ra, g_mkL_t, g4, fl_ok]
theorem add_ok {r : Rec} (h : DigAt C s n i a b rows ps) (w : WFn s.length s) (hr : rows.length < 300) (hp : ps.length ≤ 1000000) : ∃ s1, F_Dig_add C [.ref i, r.va] s = .ok .non s1 ∧ DigAt C s1 n i a b (rows ++ [r]) (ps ++ [(s.length, rows)]) ∧ Chg [a, b] s s1 ∧ WFn s1.length s1 := by
  obtain ⟨s1, e1, h1, c1, w1, l1⟩ := past_push h w
  obtain ⟨h2, w2⟩ := rows_set (rows' := rows ++ [r]) h1 w1
  refine ⟨_, ?_, h2, (c1.mono (D2 := [a, b]) (by simp)).trans (Chg.set (D := [a]) (by simp)) (by simp), w2⟩
  · refine autK_nx (ε := [some (.ref i), some r.va]) ?_
    have e0 : startA 2 [.ref i, r.va] = [some (.ref i), some r.va] := rfl
    have g1 := fld_at h.ob lk_r
    have A := append_past (v := .non) (ε := [some (.ref i), some r.va]) h rfl hp
    have g2 := fld_at h1.ob lk_r
    have g3 := isL_ref h1.ra
    have g4 : gAppend (.ref a) [r.va] s1 = _ := append_ref h1.ra (by rw [List.length_map]; omega)
    have e5 : (rows ++ [r]).map Rec.va = rows.map Rec.va ++ [r.va] := by rw [List.map_append]; rfl
    have hn : ¬ (rows.length : Int) = 300 := by omega
    rw [e0]
    unfold b_Dig_add
    rw [e_seq, show (sIf (dTB (dBin (gEq false) (dApp gLen (dCons (dFld C "rows" (dV 0)) dNil)) (dC (.int 300)))) (sRaise "TooMany") sNext) [some (.ref i), some r.va] s = .nx [some (.ref i), some r.va] s by
      simp [g1, len_ref h.ra, hn]]
    dsimp only
    rw [e_seq, A, ← e1]
    dsimp only
    rw [e5]
    simp [g2, g3, g4]
theorem add_no {r : Rec} (h : DigAt C s n i a b rows ps) (w : WFn s.length s) (hr : rows.length = 300) : F_Dig_add C [.ref i, r.va] s = .exc "TooMany" s := by
  refine autK_exc (ε := [some (.ref i), some r.va]) ?_ w
  have e0 : startA 2 [.ref i, r.va] = [some (.ref i), some r.va] := rfl
  have g1 := fld_at h.ob lk_r
  rw [e0]
  unfold b_Dig_add
  rw [e_seq, show (sIf (dTB (dBin (gEq false) (dApp gLen (dCons (dFld C "rows" (dV 0)) dNil)) (dC (.int 300)))) (sRaise "TooMany") sNext) [some (.ref i), some r.va] s = .exc "TooMany" [some (.ref i), some r.va] s by
    simp [g1, len_ref h.ra, hr]]
theorem strike_ok {k : Nat} (h : DigAt C s n i a b rows ps) (w : WFn s.length s) (hk : k < rows.length) (hr : rows.length ≤ 300) (hp : ps.length ≤ 1000000) : ∃ s1, F_Dig_strike C [.ref i, .int k] s = .ok .non s1 ∧ DigAt C s1 n i a b (rows.eraseIdx k) (ps ++ [(s.length, rows)]) ∧ Chg [a, b] s s1 ∧ WFn s1.length s1 := by
  obtain ⟨s1, e1, h1, c1, w1, l1⟩ := past_push h w
  obtain ⟨h2, w2⟩ := rows_set (rows' := rows.eraseIdx k) h1 w1
  refine ⟨_, ?_, h2, (c1.mono (D2 := [a, b]) (by simp)).trans (Chg.set (D := [a]) (by simp)) (by simp), w2⟩
  · refine autK_nx (ε := [some (.ref i), some (.int k)]) ?_
    have e0 : startA 2 [.ref i, .int k] = [some (.ref i), some (.int k)] := rfl
    have g1 := fld_at h.ob lk_r
    have A := append_past (v := .non) (ε := [some (.ref i), some (.int k)]) h rfl hp
    have g2 := fld_at h1.ob lk_r
    have g4 : gDelIx (.ref a) (.int k) s1 = _ := del_ref h1.ra (by rw [List.length_map]; exact hk) (by omega)
    have e5 : (rows.eraseIdx k).map Rec.va = (rows.map Rec.va).eraseIdx k := map_erase _ _ _
    have hn : (k : Int) < rows.length := by omega
    have hz : (0 : Int) ≤ k := by omega
    rw [e0]
    unfold b_Dig_strike
    rw [e_seq, show (sIf (dNot (dTB (dCh gLe gLt (dC (.int 0)) (dV 1) (dApp gLen (dCons (dFld C "rows" (dV 0)) dNil))))) (sRaise "NoDeed") sNext) [some (.ref i), some (.int k)] s = .nx [some (.ref i), some (.int k)] s by
      simp [g1, len_ref h.ra, hn, hz, dCh]]
    dsimp only
    rw [e_seq, A, ← e1]
    dsimp only
    rw [e5]
    simp [g2, g4]
theorem strike_no {z : Int} (h : DigAt C s n i a b rows ps) (w : WFn s.length s) (hk : ¬ (0 ≤ z ∧ z < rows.length)) : F_Dig_strike C [.ref i, .int z] s = .exc "NoDeed" s := by
  refine autK_exc (ε := [some (.ref i), some (.int z)]) ?_ w
  have e0 : startA 2 [.ref i, .int z] = [some (.ref i), some (.int z)] := rfl
  have g1 := fld_at h.ob lk_r
  rw [e0]
  unfold b_Dig_strike
  rw [e_seq, show (sIf (dNot (dTB (dCh gLe gLt (dC (.int 0)) (dV 1) (dApp gLen (dCons (dFld C "rows" (dV 0)) dNil))))) (sRaise "NoDeed") sNext) [some (.ref i), some (.int z)] s = .exc "NoDeed" [some (.ref i), some (.int z)] s by
    by_cases h0 : 0 ≤ z
    · have h1 : ¬ z < rows.length := fun e => hk ⟨h0, e⟩
      simp [g1, len_ref h.ra, h0, h1, dCh]
    · simp [g1, len_ref h.ra, h0, dCh]]
theorem undo_ok {c : Nat} {old : List Rec} (h : DigAt C s n i a b rows (ps ++ [(c, old)])) (w : WFn s.length s) : ∃ s1, F_Dig_undo C [.ref i] s = .ok .non s1 ∧ DigAt C s1 n i c b old ps ∧ Chg [i, b] s s1 ∧ WFn s1.length s1 := by
  obtain ⟨n1, n2, n3, n4⟩ := h.ne
  have hc := n4 (c, old) (by simp)
  have er : refsV (ps ++ [(c, old)]) = refsV ps ++ [.ref c] := by
    unfold refsV
    rw [List.map_append]
    rfl
  have hpb := h.pb
  rw [er] at hpb
  have lc := lt_of_get (h.pc (c, old) (by simp))
  have li := lt_of_get h.ob
  have lb := lt_of_get h.pb
  have w1 : WF (s.set b (.lst (refsV ps))) := wf_setl w (vasB_refs fun q hq => lt_of_get (h.pc q (by simp [hq])))
  have g7 : (s.set b (.lst (refsV ps)))[i]? = some (.ins C (digF n a b)) := by
    rw [get_set_ne (Ne.symm n2)]
    exact h.ob
  refine ⟨(s.set b (.lst (refsV ps))).set i (.ins C (digF n c b)), ?_, ⟨?_, ?_, ?_, ?_, ?_⟩, ?_, ?_⟩
  · refine autK_nx (ε := [some (.ref i)]) ?_
    have e0 : startA 1 [.ref i] = [some (.ref i)] := rfl
    have g1 := fld_at h.ob lk_p
    have g3 := isL_ref hpb
    have g4 : gPop (.ref b) s = _ := pop_ref hpb
    have g5 : truA (.ref b) s = _ := tru_ref hpb
    have g6 : (refsV ps ++ [Va.ref c]).isEmpty = false := by cases refsV ps <;> rfl
    have g8 := insA_at g7
    have g9 : (digF n a b).length < 900 := by unfold digF; simp
    rw [e0]
    unfold b_Dig_undo
    rw [e_seq, show (sIf (dNot (dTr (dFld C "past" (dV 0)))) (sRaise "NoDeed") sNext) [some (.ref i)] s = .nx [some (.ref i)] s by simp [g1, g5, g6]]
    dsimp only
    rw [e_sFld]
    simp only [e_Mt0, e_fld, e_V, List.getElem?_cons_zero, bind_ok, g1, g3, if_true, g4, fl_ok, g8, g9, pt_r]
  · exact set_get (by rw [List.length_set]; exact li)
  · rw [get_set_ne (fun e => hc.1 e.symm), get_set_ne (fun e => hc.2.2 e.symm)]
    exact h.pc (c, old) (by simp)
  · rw [get_set_ne n2, set_get lb]
  · intro q hq
    have h4 := n4 q (by simp [hq])
    rw [get_set_ne (fun e => h4.1 e.symm), get_set_ne (fun e => h4.2.2 e.symm)]
    exact h.pc q (by simp [hq])
  · have nd := h.nd
    unfold digL at nd ⊢
    rw [List.map_append] at nd
    simp only [List.map_cons, List.map_nil, List.nodup_cons, List.mem_cons, List.mem_append, List.not_mem_nil, or_false, not_or, List.nodup_append] at nd ⊢
    obtain ⟨⟨q1, q2, q3, q4⟩, ⟨q5, q6, q7⟩, ⟨q8, q9⟩, q10, q11, q12⟩ := nd
    exact ⟨⟨q4, q2, q3⟩, ⟨fun e => q9 e.symm, fun hm => q12 c hm c rfl rfl⟩, q8, q10⟩
  · exact (Chg.set (D := [i, b]) (by simp)).trans (Chg.set (D := [i]) (by simp)) (by simp)
  · refine wf_setl w1 ?_
    rw [List.length_set]
    exact obB_dig lc lb
theorem undo_no (h : DigAt C s n i a b rows []) (w : WFn s.length s) : F_Dig_undo C [.ref i] s = .exc "NoDeed" s := by
  refine autK_exc (ε := [some (.ref i)]) ?_ w
  have e0 : startA 1 [.ref i] = [some (.ref i)] := rfl
  have g1 := fld_at h.ob lk_p
  have g5 : truA (.ref b) s = _ := tru_ref h.pb
  rw [e0]
  unfold b_Dig_undo
  rw [e_seq, show (sIf (dNot (dTr (dFld C "past" (dV 0)))) (sRaise "NoDeed") sNext) [some (.ref i)] s = .exc "NoDeed" [some (.ref i)] s by simp [g1, g5, refsV]]
theorem records_ok (h : DigAt C s n i a b rows ps) (w : WFn s.length s) : F_Dig_records C [.ref i] s = .ok (.ref s.length) (s ++ [.lst (rows.map Rec.va)]) := by
  refine autB_new (s2 := []) ?_ rfl obB_recs w
  have e0 : startA 1 [.ref i] = [some (.ref i)] := rfl
  have g1 := fld_at h.ob lk_r
  rw [e0]
  unfold b_Dig_records
  simp [g1, list_ref h.ra]
end
end Dn

set_option Elab.async false
set_option linter.all false
set_option maxRecDepth 100000
set_option maxHeartbeats 4000000
/-! k51: a deed, at the dig and at the law's plain lists. -/
namespace Dn
open PySem PySem.Spec PyProof.Rows L2
def pastV (ps : List (Nat × List Rec)) : List Va := ps.map fun q => .lst (q.2.map Rec.va)
def prL (i a b r p : Nat) (ps : List (Nat × List Rec)) : List Nat := r :: p :: digL i a b ps
structure Pr (C : Addr) (s : Sto) (n i a b r p : Nat) (rows : List Rec) (ps : List (Nat × List Rec)) (m : Nat) : Prop where
  dg : DigAt C s n i a b rows ps
  hr : s[r]? = some (.lst (rows.map Rec.va))
  hp : s[p]? = some (.lst (pastV ps))
  nd : (prL i a b r p ps).Nodup
  few : rows.length ≤ 300 ∧ ps.length ≤ m
  nice : ∀ x ∈ rows, x.nice n
  niceP : ∀ q ∈ ps, q.2.length ≤ 300 ∧ ∀ x ∈ q.2, x.nice n
section
variable {C : Addr} {s s1 s2 : Sto} {n i a b r p m : Nat} {rows : List Rec} {ps : List (Nat × List Rec)} {D : List Nat}
theorem Pr.keep (h : Pr C s n i a b r p rows ps m) (c : Chg D s s1) (hd : ∀ j ∈ prL i a b r p ps, j ∉ D) : Pr C s1 n i a b r p rows ps m :=
  ⟨h.dg.keep c fun j hj => hd j (by unfold prL; simp [hj]), c.get h.hr (hd _ (by unfold prL; simp)), c.get h.hp (hd _ (by unfold prL; simp)), h.nd, h.few, h.nice, h.niceP⟩
theorem Pr.lt (h : Pr C s n i a b r p rows ps m) : ∀ j ∈ prL i a b r p ps, j < s.length := by
  intro j hj
  unfold prL at hj
  rcases List.mem_cons.mp hj with rfl | hj
  · exact lt_of_get h.hr
  · rcases List.mem_cons.mp hj with rfl | hj
    · exact lt_of_get h.hp
    · exact h.dg.lt j hj
theorem Pr.ne (h : Pr C s n i a b r p rows ps m) : r ≠ p ∧ (∀ j ∈ digL i a b ps, j ≠ r ∧ j ≠ p) := by
  have nd := h.nd
  unfold prL at nd
  simp only [List.nodup_cons, List.mem_cons, not_or] at nd
  obtain ⟨⟨h1, h2⟩, h3, _⟩ := nd
  exact ⟨h1, fun j hj => ⟨fun e => h2 (e ▸ hj), fun e => h3 (e ▸ hj)⟩⟩
theorem Pr.mono {m' : Nat} (h : Pr C s n i a b r p rows ps m) (hm : m ≤ m') : Pr C s n i a b r p rows ps m' := ⟨h.dg, h.hr, h.hp, h.nd, ⟨h.few.1, Nat.le_trans h.few.2 hm⟩, h.nice, h.niceP⟩
/-! ### the law's plain lists -/
theorem obB_past {N : Nat} : ∀ {ps : List (Nat × List Rec)}, obB N (.lst (pastV ps))
  | [] => trivial
  | q :: ps => ⟨vasB_recs, obB_past (ps := ps)⟩
theorem pastV_app {q : Nat × List Rec} : pastV (ps ++ [q]) = pastV ps ++ [.lst (q.2.map Rec.va)] := by
  unfold pastV
  rw [List.map_append]
  rfl
theorem pastV_len : (pastV ps).length = ps.length := by
  unfold pastV
  rw [List.length_map]
variable {w : Str} {x : Rec} {what : Va}
theorem due_start {w : Str} {what : Va} : startA 5 [.ref r, .ref p, .str w, what] = [some (.ref r), some (.ref p), some (.str w), some what, none] := rfl
theorem due_many (h : s[r]? = some (.lst (rows.map Rec.va))) (hl : rows.length = 300) : F_l_due [.ref r, .ref p, .str "add", what] s = .ok (.str "many") s := by
  refine autK_ret ?_
  rw [due_start]
  unfold b_l_due
  simp [len_ref h, hl]
theorem due_add (h : s[r]? = some (.lst (rows.map Rec.va))) (hp : s[p]? = some (.lst (pastV ps))) (hrp : r ≠ p) (hl : rows.length < 300) (hm : ps.length ≤ 1000000) :
    F_l_due [.ref r, .ref p, .str "add", x.va] s = .ok (.str "done") ((s.set p (.lst (pastV ps ++ [.lst (rows.map Rec.va)]))).set r (.lst ((rows ++ [x]).map Rec.va))) := by
  refine autK_ret ?_
  have hn : ¬ (rows.length : Int) = 300 := by omega
  have g1 : gAppend (.ref p) [.lst (rows.map Rec.va)] s = _ := append_ref hp (by rw [pastV_len]; exact hm)
  have h2 : (s.set p (.lst (pastV ps ++ [.lst (rows.map Rec.va)])))[r]? = some (.lst (rows.map Rec.va)) := by
    rw [get_set_ne (Ne.symm hrp)]
    exact h
  have g2 : gAppend (.ref r) [x.va] (s.set p (.lst (pastV ps ++ [.lst (rows.map Rec.va)]))) = _ := append_ref h2 (by rw [List.length_map]; omega)
  have g3 := isL_ref h2
  rw [due_start, List.map_append]
  unfold b_l_due
  simp [len_ref h, hn, isL_ref hp, list_ref h, g1, g2, g3]
theorem due_snone {z : Int} (h : s[r]? = some (.lst (rows.map Rec.va))) (hk : ¬ (0 ≤ z ∧ z < rows.length)) : F_l_due [.ref r, .ref p, .str "strike", .int z] s = .ok (.str "none") s := by
  refine autK_ret ?_
  rw [due_start]
  unfold b_l_due
  by_cases h0 : 0 ≤ z
  · have h1 : ¬ z < rows.length := fun e => hk ⟨h0, e⟩
    simp [len_ref h, h0, h1, dCh]
  · simp [len_ref h, h0, dCh]
theorem due_strike {k : Nat} (h : s[r]? = some (.lst (rows.map Rec.va))) (hp : s[p]? = some (.lst (pastV ps))) (hrp : r ≠ p) (hk : k < rows.length) (hl : rows.length ≤ 300) (hm : ps.length ≤ 1000000) :
    F_l_due [.ref r, .ref p, .str "strike", .int k] s = .ok (.str "done") ((s.set p (.lst (pastV ps ++ [.lst (rows.map Rec.va)]))).set r (.lst ((rows.eraseIdx k).map Rec.va))) := by
  refine autK_ret ?_
  have hn : (k : Int) < rows.length := by omega
  have hz : (0 : Int) ≤ k := by omega
  have g1 : gAppend (.ref p) [.lst (rows.map Rec.va)] s = _ := append_ref hp (by rw [pastV_len]; exact hm)
  have h2 : (s.set p (.lst (pastV ps ++ [.lst (rows.map Rec.va)])))[r]? = some (.lst (rows.map Rec.va)) := by
    rw [get_set_ne (Ne.symm hrp)]
    exact h
  have g2 : gPopAt (.ref r) [.int (k : Int)] (s.set p (.lst (pastV ps ++ [.lst (rows.map Rec.va)]))) = _ := popAt_ref h2 (by rw [List.length_map]; exact hk) (by rw [List.length_map]; omega)
  have g3 := isL_ref h2
  rw [due_start, map_erase]
  unfold b_l_due
  simp [len_ref h, hn, isL_ref hp, list_ref h, g1, g2, g3, dCh]
theorem due_unone (hp : s[p]? = some (.lst [])) : F_l_due [.ref r, .ref p, .str "undo", what] s = .ok (.str "none") s := by
  refine autK_ret ?_
  have g5 : truA (.ref p) s = _ := tru_ref hp
  rw [due_start]
  unfold b_l_due
  simp [g5]
theorem pop_all {ε : En} (hε : ε[0]? = some (some (.ref r))) : ∀ (k : Nat) (xs : List Va) (s : Sto), xs.length = k → s[r]? = some (.lst xs) → wl t_l_due_L1 b_l_due_L1 (k + 1) ε s = .nx ε (s.set r (.lst []))
  | 0, xs, s, hk, h => by
    have : xs = [] := List.length_eq_zero_iff.mp hk
    subst this
    have g5 : truA (.ref r) s = _ := tru_ref h
    unfold wl t_l_due_L1
    simp [hε, g5, set_same h]
  | k + 1, xs, s, hk, h => by
    obtain ⟨ys, y, rfl⟩ : ∃ ys y, xs = ys ++ [y] := by
      rcases List.eq_nil_or_concat xs with e | ⟨ys, y, e⟩
      · subst e
        simp at hk
      · exact ⟨ys, y, by rw [e, List.concat_eq_append]⟩
    have g5 : truA (.ref r) s = _ := tru_ref h
    have ge : (ys ++ [y]).isEmpty = false := by cases ys <;> rfl
    have g3 := isL_ref h
    have g4 : gPop (.ref r) s = _ := pop_ref h
    have ih := pop_all hε k ys (s.set r (.lst ys)) (by rw [List.length_append, List.length_singleton] at hk; omega) (set_get (lt_of_get h))
    rw [List.set_set] at ih
    unfold wl
    rw [show t_l_due_L1 ε s = .ok true s by unfold t_l_due_L1; simp [hε, g5, ge]]
    rw [fl_ok, if_pos rfl, show b_l_due_L1 ε s = .nx ε (s.set r (.lst ys)) by unfold b_l_due_L1; simp [hε, g3, g4]]
    exact ih
theorem due_undo {c : Nat} {old : List Rec} (h : s[r]? = some (.lst (rows.map Rec.va))) (hp : s[p]? = some (.lst (pastV (ps ++ [(c, old)])))) (hrp : r ≠ p) (hl : old.length ≤ 300) :
    F_l_due [.ref r, .ref p, .str "undo", what] s = .ok (.str "done") ((s.set p (.lst (pastV ps))).set r (.lst (old.map Rec.va))) := by
  refine autK_ret ?_
  rw [pastV_app] at hp
  have g5 : truA (.ref p) s = _ := tru_ref hp
  have ge : (pastV ps ++ [Va.lst (old.map Rec.va)]).isEmpty = false := by cases pastV ps <;> rfl
  have g3 := isL_ref hp
  have g4 : gPop (.ref p) s = _ := pop_ref hp
  have h2 : (s.set p (.lst (pastV ps)))[r]? = some (.lst (rows.map Rec.va)) := by
    rw [get_set_ne (Ne.symm hrp)]
    exact h
  have lr : r < (s.set p (.lst (pastV ps))).length := lt_of_get h2
  have W : sWhile t_l_due_L1 b_l_due_L1 [some (.ref r), some (.ref p), some (.str "undo"), some what, some (.lst (old.map Rec.va))] (s.set p (.lst (pastV ps))) = .nx [some (.ref r), some (.ref p), some (.str "undo"), some what, some (.lst (old.map Rec.va))] ((s.set p (.lst (pastV ps))).set r (.lst [])) :=
    sWhile_eq (pop_all rfl _ _ _ rfl h2) (by intro e; cases e)
  have h3 : ((s.set p (.lst (pastV ps))).set r (.lst []))[r]? = some (.lst []) := set_get lr
  have g6 : gExtend (.ref r) [.lst (old.map Rec.va)] ((s.set p (.lst (pastV ps))).set r (.lst [])) = _ := ext_ref h3 rfl (by rw [List.length_map]; simp; omega)
  rw [List.set_set, List.nil_append] at g6
  rw [due_start]
  unfold b_l_due
  simp [g5, ge, g3, g4, W, isL_ref h3, g6]
/-! ### a deed at the dig -/
theorem meth_eq {ε : En} {k nn : Nat} {mm : Str} {F0 : List Va → Sto → Rs Va} {da : DA} (h : DigAt C s n i a b rows ps) (hε : ε[k]? = some (some (.ref i))) (hm : mm ∈ (["add", "strike", "undo", "records", "would_change", "copy"] : List Str)) :
    dMeth C mm (dV k) nn F0 da ε s = (evA da ε s).bind fun xs s2 => gFn nn F0 (.ref i :: xs) s2 := by
  rw [e_meth, e_V, hε]
  simp only [bind_ok, insA_at h.ob, lk_m hm]
theorem done_start {w : Str} {what : Va} : startA 3 [.ref i, .str w, what] = [some (.ref i), some (.str w), some what] := rfl
theorem done_add (h : DigAt C s n i a b rows ps) {res : Rs Va} (e : F_Dig_add C [.ref i, what] s = res) : (∀ s1, res = .ok .non s1 → F_l_done C [.ref i, .str "add", what] s = .ok (.str "done") s1) ∧ (res = .exc "TooMany" s → F_l_done C [.ref i, .str "add", what] s = .ok (.str "many") s) := by
  have M := meth_eq (ε := [some (.ref i), some (.str "add"), some what]) (k := 0) (nn := 2) (mm := "add") (F0 := F_Dig_add C) (da := dCons (dV 2) dNil) h rfl (by simp)
  refine ⟨fun s1 q => ?_, fun q => ?_⟩
  · subst q
    refine autK_ret ?_
    rw [done_start]
    unfold b_l_done
    simp [M, gFn, e, -e_meth]
  · subst q
    refine autK_ret ?_
    rw [done_start]
    unfold b_l_done
    simp [M, gFn, e, -e_meth, lkC, noEx]
theorem done_strike (h : DigAt C s n i a b rows ps) {res : Rs Va} (e : F_Dig_strike C [.ref i, what] s = res) : (∀ s1, res = .ok .non s1 → F_l_done C [.ref i, .str "strike", what] s = .ok (.str "done") s1) ∧ (res = .exc "NoDeed" s → F_l_done C [.ref i, .str "strike", what] s = .ok (.str "none") s) := by
  have M := meth_eq (ε := [some (.ref i), some (.str "strike"), some what]) (k := 0) (nn := 2) (mm := "strike") (F0 := F_Dig_strike C) (da := dCons (dV 2) dNil) h rfl (by simp)
  refine ⟨fun s1 q => ?_, fun q => ?_⟩
  · subst q
    refine autK_ret ?_
    rw [done_start]
    unfold b_l_done
    simp [M, gFn, e, -e_meth]
  · subst q
    refine autK_ret ?_
    rw [done_start]
    unfold b_l_done
    simp [M, gFn, e, -e_meth, lkC, noEx]
theorem done_undo (h : DigAt C s n i a b rows ps) {res : Rs Va} (e : F_Dig_undo C [.ref i] s = res) : (∀ s1, res = .ok .non s1 → F_l_done C [.ref i, .str "undo", what] s = .ok (.str "done") s1) ∧ (res = .exc "NoDeed" s → F_l_done C [.ref i, .str "undo", what] s = .ok (.str "none") s) := by
  have M := meth_eq (ε := [some (.ref i), some (.str "undo"), some what]) (k := 0) (nn := 1) (mm := "undo") (F0 := F_Dig_undo C) (da := dNil) h rfl (by simp)
  refine ⟨fun s1 q => ?_, fun q => ?_⟩
  · subst q
    refine autK_ret ?_
    rw [done_start]
    unfold b_l_done
    simp [M, gFn, e, -e_meth]
  · subst q
    refine autK_ret ?_
    rw [done_start]
    unfold b_l_done
    simp [M, gFn, e, -e_meth, lkC, noEx]
end
/-! ### the deed, at both -/
def AfterX (C : Addr) (s s2 : Sto) (n i a b r p : Nat) (ps : List (Nat × List Rec)) (m : Nat) (rows' : List Rec) : Prop := ∃ ps' a', Pr C s2 n i a' b r p rows' ps' (m + 1) ∧ Chg (prL i a b r p ps) s s2 ∧ WF s2 ∧ ∀ j ∈ prL i a' b r p ps', j < s.length → j ∈ prL i a b r p ps
def After (C : Addr) (s s2 : Sto) (n i a b r p : Nat) (ps : List (Nat × List Rec)) (m : Nat) : Prop := ∃ rows', AfterX C s s2 n i a b r p ps m rows'
section
variable {C : Addr} {s s1 s2 : Sto} {n i a b r p m : Nat} {rows : List Rec} {ps : List (Nat × List Rec)} {D : List Nat} {what : Va} {x : Rec}
theorem after_same (h : Pr C s n i a b r p rows ps m) (w : WF s) : After C s s n i a b r p ps m := ⟨rows, ps, a, h.mono (Nat.le_succ _), .refl, w, fun j hj _ => hj⟩
/-- the rows are kept, and others stand there -/
theorem after_push {rows' : List Rec} (h : Pr C s n i a b r p rows ps m) (h1 : DigAt C s1 n i a b rows' (ps ++ [(s.length, rows)])) (c1 : Chg [a, b] s s1) (w1 : WF s1) (hl : rows'.length ≤ 300) (hn : ∀ x ∈ rows', x.nice n) :
    AfterX C s ((s1.set p (.lst (pastV ps ++ [.lst (rows.map Rec.va)]))).set r (.lst (rows'.map Rec.va))) n i a b r p ps m rows' := by
  obtain ⟨n1, n2⟩ := h.ne
  have hlt := h.lt
  have ip : ∀ j ∈ digL i a b (ps ++ [(s.length, rows)]), j ≠ r ∧ j ≠ p := by
    intro j hj
    have e : digL i a b (ps ++ [(s.length, rows)]) = digL i a b ps ++ [s.length] := by
      unfold digL
      rw [List.map_append]
      rfl
    rw [e] at hj
    rcases List.mem_append.mp hj with hj | hj
    · exact n2 j hj
    · rw [List.mem_singleton.mp hj]
      have h1 := hlt r (by unfold prL; simp)
      have h2 := hlt p (by unfold prL; simp)
      exact ⟨by omega, by omega⟩
  have a1 := n2 a (by unfold digL; simp)
  have b1 := n2 b (by unfold digL; simp)
  have kr : s1[r]? = some (.lst (rows.map Rec.va)) := c1.get h.hr (by simp; exact ⟨fun e => a1.1 e.symm, fun e => b1.1 e.symm⟩)
  have kp : s1[p]? = some (.lst (pastV ps)) := c1.get h.hp (by simp; exact ⟨fun e => a1.2 e.symm, fun e => b1.2 e.symm⟩)
  have c2 : Chg [r, p] s1 ((s1.set p (.lst (pastV ps ++ [.lst (rows.map Rec.va)]))).set r (.lst (rows'.map Rec.va))) := (Chg.set (D := [r, p]) (by simp)).trans (Chg.set (D := [r]) (by simp)) (by simp)
  refine ⟨ps ++ [(s.length, rows)], a, ⟨h1.keep c2 fun j hj => by have := ip j hj; simp [this.1, this.2], ?_, ?_, ?_, ?_, hn, ?_⟩, ?_, ?_, ?_⟩
  · exact set_get (by rw [List.length_set]; exact lt_of_get kr)
  · rw [get_set_ne n1, set_get (lt_of_get kp), pastV_app]
  · unfold prL
    refine List.nodup_cons.mpr ⟨?_, List.nodup_cons.mpr ⟨fun hj => (ip p hj).2 rfl, h1.nd⟩⟩
    intro hj
    rcases List.mem_cons.mp hj with e | hj
    · exact n1 e
    · exact (ip r hj).1 rfl
  · refine ⟨hl, ?_⟩
    rw [List.length_append, List.length_singleton]
    exact Nat.succ_le_succ h.few.2
  · intro q hq
    rcases List.mem_append.mp hq with hq | hq
    · exact h.niceP q hq
    · rw [List.mem_singleton.mp hq]
      exact ⟨h.few.1, h.nice⟩
  · refine (c1.mono (D2 := prL i a b r p ps) (by unfold prL digL; simp)).trans c2 ?_
    unfold prL
    simp
  · refine wf_setl (wf_setl w1 ?_) obB_recs
    rw [← pastV_app (q := (0, rows))]
    exact obB_past
  · intro j hj hjl
    unfold prL at hj ⊢
    have e : digL i a b (ps ++ [(s.length, rows)]) = digL i a b ps ++ [s.length] := by
      unfold digL
      rw [List.map_append]
      rfl
    rw [e] at hj
    simp only [List.mem_cons, List.mem_append, List.not_mem_nil, or_false] at hj ⊢
    rcases hj with rfl | rfl | hj | rfl
    · exact .inl rfl
    · exact .inr (.inl rfl)
    · exact .inr (.inr hj)
    · exact absurd hjl (Nat.lt_irrefl _)
theorem deed_add (h : Pr C s n i a b r p rows ps m) (w : WF s) (hm : m ≤ 1000) (hx : x.nice n) : ∃ v s1 s2, F_l_done C [.ref i, .str "add", x.va] s = .ok (.str v) s1 ∧ F_l_due [.ref r, .ref p, .str "add", x.va] s1 = .ok (.str v) s2 ∧ After C s s2 n i a b r p ps m := by
  have hpl := h.few.2
  by_cases hl : rows.length = 300
  · exact ⟨_, s, s, (done_add h.dg (add_no h.dg w hl)).2 rfl, due_many h.hr hl, after_same h w⟩
  · have hl' : rows.length < 300 := Nat.lt_of_le_of_ne h.few.1 hl
    obtain ⟨s1, e1, h1, c1, w1⟩ := add_ok (r := x) h.dg w hl' (by omega)
    obtain ⟨n1, n2⟩ := h.ne
    have a1 := n2 a (by unfold digL; simp)
    have b1 := n2 b (by unfold digL; simp)
    have kr : s1[r]? = some (.lst (rows.map Rec.va)) := c1.get h.hr (by simp; exact ⟨fun e => a1.1 e.symm, fun e => b1.1 e.symm⟩)
    have kp : s1[p]? = some (.lst (pastV ps)) := c1.get h.hp (by simp; exact ⟨fun e => a1.2 e.symm, fun e => b1.2 e.symm⟩)
    refine ⟨_, s1, _, (done_add h.dg e1).1 _ rfl, due_add kr kp n1 hl' (by omega), ⟨_, after_push h h1 c1 w1 ?_ ?_⟩⟩
    · rw [List.length_append, List.length_singleton]
      omega
    · intro y hy
      rcases List.mem_append.mp hy with hy | hy
      · exact h.nice y hy
      · rw [List.mem_singleton.mp hy]
        exact hx
theorem deed_strike {z : Int} (h : Pr C s n i a b r p rows ps m) (w : WF s) (hm : m ≤ 1000) : ∃ v s1 s2, F_l_done C [.ref i, .str "strike", .int z] s = .ok (.str v) s1 ∧ F_l_due [.ref r, .ref p, .str "strike", .int z] s1 = .ok (.str v) s2 ∧ After C s s2 n i a b r p ps m := by
  have hpl := h.few.2
  have hrl := h.few.1
  by_cases hl : 0 ≤ z ∧ z < rows.length
  · obtain ⟨k, rfl⟩ : ∃ k : Nat, z = k := ⟨z.toNat, by omega⟩
    have hk : k < rows.length := by omega
    obtain ⟨s1, e1, h1, c1, w1⟩ := strike_ok (k := k) h.dg w hk hrl (by omega)
    obtain ⟨n1, n2⟩ := h.ne
    have a1 := n2 a (by unfold digL; simp)
    have b1 := n2 b (by unfold digL; simp)
    have kr : s1[r]? = some (.lst (rows.map Rec.va)) := c1.get h.hr (by simp; exact ⟨fun e => a1.1 e.symm, fun e => b1.1 e.symm⟩)
    have kp : s1[p]? = some (.lst (pastV ps)) := c1.get h.hp (by simp; exact ⟨fun e => a1.2 e.symm, fun e => b1.2 e.symm⟩)
    refine ⟨_, s1, _, (done_strike h.dg e1).1 _ rfl, due_strike kr kp n1 hk hrl (by omega), ⟨_, after_push h h1 c1 w1 ?_ ?_⟩⟩
    · rw [List.length_eraseIdx_of_lt hk]
      omega
    · intro y hy
      exact h.nice y (List.mem_of_mem_eraseIdx hy)
  · exact ⟨_, s, s, (done_strike h.dg (strike_no h.dg w hl)).2 rfl, due_snone h.hr hl, after_same h w⟩
theorem deed_undo (h : Pr C s n i a b r p rows ps m) (w : WF s) : ∃ v s1 s2, F_l_done C [.ref i, .str "undo", what] s = .ok (.str v) s1 ∧ F_l_due [.ref r, .ref p, .str "undo", what] s1 = .ok (.str v) s2 ∧ After C s s2 n i a b r p ps m := by
  rcases List.eq_nil_or_concat ps with e | ⟨ps0, ⟨c, old⟩, e⟩
  · subst e
    exact ⟨_, s, s, (done_undo h.dg (undo_no h.dg w)).2 rfl, due_unone h.hp, after_same h w⟩
  · rw [List.concat_eq_append] at e
    subst e
    obtain ⟨s1, e1, h1, c1, w1⟩ := undo_ok h.dg w
    obtain ⟨n1, n2⟩ := h.ne
    have a1 := n2 i (by unfold digL; simp)
    have b1 := n2 b (by unfold digL; simp)
    have cc := n2 c (by unfold digL; simp)
    have kr : s1[r]? = some (.lst (rows.map Rec.va)) := c1.get h.hr (by simp; exact ⟨fun e => a1.1 e.symm, fun e => b1.1 e.symm⟩)
    have kp : s1[p]? = some (.lst (pastV (ps0 ++ [(c, old)]))) := c1.get h.hp (by simp; exact ⟨fun e => a1.2 e.symm, fun e => b1.2 e.symm⟩)
    have ho := h.niceP (c, old) (by simp)
    have sub : ∀ j ∈ digL i c b ps0, j ∈ digL i a b (ps0 ++ [(c, old)]) := by
      intro j hj
      unfold digL at hj ⊢
      rw [List.map_append]
      simp only [List.mem_cons, List.mem_append, List.map_cons, List.map_nil, List.not_mem_nil, or_false] at hj ⊢
      rcases hj with h | h | h | h
      · exact .inl h
      · exact .inr (.inr (.inr (.inr h)))
      · exact .inr (.inr (.inl h))
      · exact .inr (.inr (.inr (.inl h)))
    have ip : ∀ j ∈ digL i c b ps0, j ≠ r ∧ j ≠ p := fun j hj => n2 j (sub j hj)
    have c2 : Chg [r, p] s1 ((s1.set p (.lst (pastV ps0))).set r (.lst (old.map Rec.va))) := (Chg.set (D := [r, p]) (by simp)).trans (Chg.set (D := [r]) (by simp)) (by simp)
    refine ⟨_, s1, _, (done_undo h.dg e1).1 _ rfl, due_undo kr kp n1 ho.1, old, ps0, c, ⟨h1.keep c2 fun j hj => by have := ip j hj; simp [this.1, this.2], ?_, ?_, ?_, ?_, ho.2, ?_⟩, ?_, ?_, ?_⟩
    · exact set_get (by rw [List.length_set]; exact lt_of_get kr)
    · rw [get_set_ne n1, set_get (lt_of_get kp)]
    · unfold prL
      refine List.nodup_cons.mpr ⟨?_, List.nodup_cons.mpr ⟨fun hj => (ip p hj).2 rfl, h1.nd⟩⟩
      intro hj
      rcases List.mem_cons.mp hj with e | hj
      · exact n1 e
      · exact (ip r hj).1 rfl
    · refine ⟨ho.1, ?_⟩
      have := h.few.2
      rw [List.length_append, List.length_singleton] at this
      omega
    · intro q hq
      exact h.niceP q (List.mem_append_left _ hq)
    · refine (c1.mono (D2 := prL i a b r p (ps0 ++ [(c, old)])) (by unfold prL digL; simp)).trans c2 ?_
      unfold prL
      simp
    · exact wf_setl (wf_setl w1 obB_past) obB_recs
    · intro j hj _
      unfold prL at hj ⊢
      simp only [List.mem_cons] at hj ⊢
      rcases hj with h | h | h
      · exact .inl h
      · exact .inr (.inl h)
      · exact .inr (.inr (sub j h))
end
end Dn

set_option Elab.async false
set_option linter.all false
set_option maxRecDepth 100000
set_option maxHeartbeats 4000000
/-! k51: a copy; what would change. -/
namespace Dn
open PySem PySem.Spec PyProof.Rows L2
open Dm (Edge Tb fw InN Calm Holds Feas colL)
section
variable {C : Addr} {s s1 s2 : Sto} {n i a b r p m : Nat} {rows : List Rec} {ps : List (Nat × List Rec)} {D : List Nat} {ε : En}
theorem copies {b : Nat} {all : List Va} (hε : 2 < ε.length) : ∀ (l : List (Nat × List Rec)) (acc : List Va) (S : Sto), S[b]? = some (.lst all) → (∀ q ∈ l, S[q.1]? = some (.lst (q.2.map Rec.va))) → WF S →
    ∃ S' l2, cl (some (b, all)) (dgName 2) dYes (dApp (gList true) (dCons (dV 2) dNil)) ε (refsV l) acc S = .ok (acc ++ refsV l2) S' ∧ l2.map (·.2) = l.map (·.2) ∧ (∀ q ∈ l2, S'[q.1]? = some (.lst (q.2.map Rec.va))) ∧ (∀ q ∈ l2, S.length ≤ q.1) ∧ (l2.map (·.1)).Nodup ∧ Chg [] S S' ∧ WF S'
  | [], acc, S, hb, _, w => ⟨S, [], by
      show cl _ _ _ _ _ [] _ _ = .ok (acc ++ []) S
      rw [clS_nil hb, List.append_nil], rfl, by simp, by simp, by simp, .refl, w⟩
  | q :: l, acc, S, hb, hq, w => by
    have h0 := hq q List.mem_cons_self
    have c0 : Chg [] S (S ++ [.lst (q.2.map Rec.va)]) := .push
    obtain ⟨S', l2, h1, h2, h3, h4, h5, c1, w1⟩ := copies (b := b) (all := all) hε l (acc ++ [.ref S.length]) (S ++ [.lst (q.2.map Rec.va)]) (c0.get hb (by simp)) (fun q' hq' => c0.get (hq q' (List.mem_cons_of_mem _ hq')) (by simp)) (wf_push w obB_recs)
    refine ⟨S', (S.length, q.2) :: l2, ?_, by rw [List.map_cons, List.map_cons, h2], ?_, ?_, ?_, c0.trans c1 (by simp), w1⟩
    · show cl _ _ _ _ _ (.ref q.1 :: refsV l) _ _ = _
      rw [clS_cons hb, e_dgName]
      dsimp only
      have g : (ε.set 2 (some (.ref q.1)))[2]? = some (some (.ref q.1)) := List.getElem?_set_self hε
      simp only [e_Yes, noexc_ok, bind_ok, if_true, e_App, e_Cons, e_V, g, e_Nil, list_ref h0, g_mkL_t]
      rw [h1, List.append_assoc]
      rfl
    · intro q' hq'
      rcases List.mem_cons.mp hq' with rfl | hq'
      · exact c1.get push_get (by simp)
      · exact h3 q' hq'
    · intro q' hq'
      rcases List.mem_cons.mp hq' with rfl | hq'
      · exact Nat.le_refl _
      · have := h4 q' hq'
        rw [List.length_append] at this
        omega
    · rw [List.map_cons]
      refine List.nodup_cons.mpr ⟨fun hm => ?_, h5⟩
      obtain ⟨q', hq', e⟩ := List.mem_map.mp hm
      have := h4 q' hq'
      rw [List.length_append, List.length_singleton] at this
      omega
theorem copy_ok (h : DigAt C s n i a b rows ps) (w : WF s) (hp : ps.length ≤ 100000) : ∃ s1 a2 b2 ps2, F_Dig_copy C [.ref i] s = .ok (.ref s.length) s1 ∧ DigAt C s1 n s.length a2 b2 rows ps2 ∧ ps2.map (·.2) = ps.map (·.2) ∧ Chg [] s s1 ∧ WF s1 ∧ ∀ j ∈ digL s.length a2 b2 ps2, s.length ≤ j := by
  -- the new dig
  have c0 : Chg [] s (s ++ [.ins C (digF n (s.length + 1) (s.length + 2)), .lst [], .lst []]) := .push
  have w0 : WF (s ++ [.ins C (digF n (s.length + 1) (s.length + 2)), .lst [], .lst []]) := wf_new w
  have d0 : (s ++ [Ob.ins C (digF n (s.length + 1) (s.length + 2)), Ob.lst [], Ob.lst []])[s.length]? = some (.ins C (digF n (s.length + 1) (s.length + 2))) := by
    rw [List.getElem?_append_right (Nat.le_refl _), Nat.sub_self]
    rfl
  have l0 : (s ++ [Ob.ins C (digF n (s.length + 1) (s.length + 2)), Ob.lst [], Ob.lst []]).length = s.length + 3 := by
    rw [List.length_append]
    rfl
  have M : dMake C 2 (F_Dig_init C) (dCons (dFld C "n" (dV 0)) dNil) [some (.ref i), none, none] s = _ := make_eq (n := n) (by
    have g1 := fld_at h.ob lk_n
    simp [g1])
  generalize s ++ [Ob.ins C (digF n (s.length + 1) (s.length + 2)), Ob.lst [], Ob.lst []] = S0 at c0 w0 d0 l0 M
  -- its rows
  have h0 := h.keep c0 (by simp)
  have c1 : Chg [] S0 (S0 ++ [.lst (rows.map Rec.va)]) := .push
  have w1 : WF (S0 ++ [Ob.lst (rows.map Rec.va)]) := wf_push w0 obB_recs
  have l1 : (S0 ++ [Ob.lst (rows.map Rec.va)]).length = s.length + 4 := by
    rw [List.length_append, l0]
    rfl
  have d1 : (S0 ++ [Ob.lst (rows.map Rec.va)])[s.length]? = some (.ins C (digF n (s.length + 1) (s.length + 2))) := c1.get d0 (by simp)
  have w2 : WF ((S0 ++ [Ob.lst (rows.map Rec.va)]).set s.length (.ins C (digF n S0.length (s.length + 2)))) := wf_setl w1 (obB_dig (by omega) (by omega))
  have c2 : Chg [s.length] (S0 ++ [Ob.lst (rows.map Rec.va)]) ((S0 ++ [Ob.lst (rows.map Rec.va)]).set s.length (.ins C (digF n S0.length (s.length + 2)))) := Chg.set (by simp)
  have E2 : sFldD C "rows" (dV 1) (dApp (gList true) (dCons (dFld C "rows" (dV 0)) dNil)) [some (.ref i), some (.ref s.length), none] S0 = .nx [some (.ref i), some (.ref s.length), none] ((S0 ++ [Ob.lst (rows.map Rec.va)]).set s.length (.ins C (digF n S0.length (s.length + 2)))) := by
    have g1 := fld_at h0.ob lk_r
    have g2 := insA_at d1
    have g9 : ∀ a b, (digF n a b).length < 900 := fun a b => by unfold digF; simp
    simp only [e_sFld, e_App, e_Cons, e_fld, e_V, List.getElem?_cons_zero, List.getElem?_cons_succ, bind_ok, g1, e_Nil, list_ref h0.ra, g_mkL_t, fl_ok, g2, g9, if_true, pt_r]
  have d2 : ((S0 ++ [Ob.lst (rows.map Rec.va)]).set s.length (Ob.ins C (digF n S0.length (s.length + 2))))[s.length]? = some (.ins C (digF n S0.length (s.length + 2))) := set_get (by omega)
  have r2 : ((S0 ++ [Ob.lst (rows.map Rec.va)]).set s.length (Ob.ins C (digF n S0.length (s.length + 2))))[S0.length]? = some (.lst (rows.map Rec.va)) := by
    rw [get_set_ne (by omega)]
    exact push_get
  have c02 : Chg [] s ((S0 ++ [Ob.lst (rows.map Rec.va)]).set s.length (.ins C (digF n S0.length (s.length + 2)))) := (c0.trans c1 (by simp)).trans c2 (fun j hj hl => by simp at hj; omega)
  have l2 : ((S0 ++ [Ob.lst (rows.map Rec.va)]).set s.length (Ob.ins C (digF n S0.length (s.length + 2)))).length = s.length + 4 := by rw [List.length_set, l1]
  generalize ((S0 ++ [Ob.lst (rows.map Rec.va)]).set s.length (Ob.ins C (digF n S0.length (s.length + 2)))) = S2 at w2 E2 d2 r2 c02 l2
  have h2 := h.keep c02 (by simp)
  -- its past
  obtain ⟨S3, ps2, q1, q2, q3, q4, q5, c3, w3⟩ := copies (ε := [some (.ref i), some (.ref s.length), none]) (b := b) (all := refsV ps) (show 2 < 3 by decide) ps [] S2 h2.pb h2.pc w2
  have w4 : WF (S3 ++ [.lst (refsV ps2)]) := wf_push w3 (by
    show vasB _ (refsV ps2)
    exact vasB_refs fun q hq => Nat.lt_succ_of_lt (lt_of_get (q3 q hq)))
  have c4 : Chg [] S3 (S3 ++ [.lst (refsV ps2)]) := .push
  have l3 := c3.len
  have E3 : c_Dig_copy_1 C [some (.ref i), some (.ref s.length), none] S2 = .ok (.ref S3.length) (S3 ++ [.lst (refsV ps2)]) := by
    have g1 := fld_at h2.ob lk_p
    have hq : leq (refsV ps).length 100000 := by
      unfold leq refsV
      rw [List.length_map]
      exact hp
    unfold c_Dig_copy_1
    simp only [e_Lc, dSeq, e_fld, e_V, List.getElem?_cons_zero, bind_ok, g1, h2.pb, hq, if_true, wip, List.set, q1, List.nil_append, g_mkL_t]
  have d4 : (S3 ++ [Ob.lst (refsV ps2)])[s.length]? = some (.ins C (digF n S0.length (s.length + 2))) := c4.get (c3.get d2 (by simp)) (by simp)
  have E4 : sFldD C "past" (dV 1) (c_Dig_copy_1 C) [some (.ref i), some (.ref s.length), none] S2 = .nx [some (.ref i), some (.ref s.length), none] ((S3 ++ [Ob.lst (refsV ps2)]).set s.length (.ins C (digF n S0.length S3.length))) := by
    have g2 := insA_at d4
    have g9 : ∀ a b, (digF n a b).length < 900 := fun a b => by unfold digF; simp
    simp only [e_sFld, E3, fl_ok, e_V, List.getElem?_cons_zero, List.getElem?_cons_succ, g2, g9, if_true, pt_p]
  refine ⟨(S3 ++ [Ob.lst (refsV ps2)]).set s.length (.ins C (digF n S0.length S3.length)), S0.length, S3.length, ps2, autK_ret ?_, ⟨?_, ?_, ?_, ?_, ?_⟩, q2, ?_, ?_, ?_⟩
  · · have e0 : startA 3 [.ref i] = [some (.ref i), none, none] := rfl
      rw [e0]
      unfold b_Dig_copy
      rw [e_seq, e_set, M]
      simp only [fl_ok, List.set]
      rw [e_seq, E2]
      dsimp only
      rw [e_seq, E4]
      dsimp only
      simp only [e_ret, e_V, List.getElem?_cons_zero, List.getElem?_cons_succ, fl_ok]
  · exact set_get (lt_of_get d4)
  · rw [get_set_ne (by omega)]
    exact c4.get (c3.get r2 (by simp)) (by simp)
  · rw [get_set_ne (by omega)]
    exact push_get
  · intro q hq
    have := q4 q hq
    rw [get_set_ne (by omega)]
    exact c4.get (q3 q hq) (by simp)
  · unfold digL
    refine List.nodup_cons.mpr ⟨?_, List.nodup_cons.mpr ⟨?_, List.nodup_cons.mpr ⟨?_, q5⟩⟩⟩
    · simp only [List.mem_cons, List.mem_map, not_or, not_exists, not_and]
      refine ⟨by omega, by omega, fun q hq e => ?_⟩
      have := q4 q hq
      omega
    · simp only [List.mem_cons, List.mem_map, not_or, not_exists, not_and]
      refine ⟨by omega, fun q hq e => ?_⟩
      have := q4 q hq
      omega
    · simp only [List.mem_map, not_exists, not_and]
      intro q hq e
      have := lt_of_get (q3 q hq)
      omega
  · exact ((c02.trans c3 (by simp)).trans c4 (by simp)).trans (Chg.set (D := [s.length]) (by simp)) (fun j hj hl => by simp at hj; omega)
  · refine wf_setl w4 (obB_dig ?_ ?_)
    · rw [List.length_append]
      omega
    · rw [List.length_append, List.length_singleton]
      omega
  · intro j hj
    unfold digL at hj
    simp only [List.mem_cons, List.mem_map] at hj
    rcases hj with rfl | rfl | rfl | ⟨q, hq, rfl⟩
    · exact Nat.le_refl _
    · omega
    · omega
    · have := q4 q hq
      omega
end
/-! ### what would change -/
def pyO : Option Int → PyData
  | none => .none
  | some v => .int v
theorem toPy_oV (o : Option Int) : toPy (oV o) = some (pyO o) := by cases o <;> rfl
theorem shp_pair (a b : Option Int) : shp (.tuple [pyO a, pyO b]) := by
  unfold shp
  cases a <;> cases b <;> first | rfl | (simp [pyO, SeqAt.shaped, PyData.canLay0, PyData.canLayAll0, PyData.depth]; done)
theorem eqv_pair (a b c d : Option Int) : PyData.eqv (.tuple [pyO a, pyO b]) (.tuple [pyO c, pyO d]) = decide (a = c ∧ b = d) := by
  cases a <;> cases b <;> cases c <;> cases d <;> simp [pyO, PyData.eqv, PyData.eqvAll] <;> rfl
theorem g_eq_pair {neg : Bool} {a b c d : Option Int} {s : Sto} : gEq neg (.tup [oV a, oV b]) (.tup [oV c, oV d]) s = .ok (.bl (neg != decide (a = c ∧ b = d))) s := by
  rw [g_eq_data (d := .tuple [pyO a, pyO b]) (e := .tuple [pyO c, pyO d]) rfl (by simp [toPyS, toPy, toPys, toPy_oV]) (by simp [toPyS, toPy, toPys, toPy_oV]) (shp_pair a b) (shp_pair c d), eqv_pair]
theorem l_holds_eq {n : Nat} {rs : List Rec} {x : Va} {s : Sto} (hF : Fits n rs) (hx : seqL x s = some (rs.map Rec.va)) : F_l_holds [.int n, x] s = .ok (.bl (holdB n rs)) s := by
  unfold F_l_holds
  simp only [hx, recsOf_map]
  rw [if_pos ⟨by omega, by rw [Int.toNat_natCast]; exact hF⟩, Int.toNat_natCast]
theorem negO_inj {a b : Option Int} : negO a = negO b ↔ a = b := by
  unfold negO
  cases a <;> cases b <;> simp
/-- the units whose reach changes -/
noncomputable def chgU (n : Nat) (T U : Tb) : List Nat := (List.range n).filter fun u => !decide (T n u = U n u ∧ T u n = U u n)
section
variable {C : Addr} {s : Sto} {n i a b r p m : Nat} {rows : List Rec} {ps : List (Nat × List Rec)} {x : Rec} {y : Va}
theorem rows_plus (h : s[a]? = some (.lst (rows.map Rec.va))) (hl : rows.length ≤ 300) : gAdd false (.ref a) (.lst [x.va]) s = .ok (.lst ((rows ++ [x]).map Rec.va)) s := by
  rw [add_ref h (z := .lst [x.va]) rfl (by rw [List.length_map]; simp; omega), List.map_append]
  rfl
theorem would_no (h : DigAt C s n i a b rows ps) (w : WF s) (hl : rows.length ≤ 300) (hF : Fits n rows) (hF2 : Fits n (rows ++ [x])) (hb : holdB n rows = false ∨ holdB n (rows ++ [x]) = false) : F_Dig_would_change C [.ref i, x.va] s = .exc "Unsure" s := by
  have g1 := fld_at h.ob lk_n
  have g2 := fld_at h.ob lk_r
  cases hq : holdB n rows with
  | false =>
    refine aut_exc (s0 := s) (ε := [some (.ref i), some x.va, none, none, none]) ?_ List.take_length w
    have e0 : startA 5 [.ref i, x.va] = [some (.ref i), some x.va, none, none, none] := rfl
    rw [e0]
    unfold b_Dig_would_change
    simp [g1, g2, gFn, sure_no w hF (seqL_ref h.ra) hq]
  | true =>
    have hb2 : holdB n (rows ++ [x]) = false := by
      rcases hb with e | e
      · rw [hq] at e
        cases e
      · exact e
    refine aut_exc (s0 := s) (ε := [some (.ref i), some x.va, some (tbV n (tbOf n rows)), none, none]) ?_ List.take_length w
    have e0 : startA 5 [.ref i, x.va] = [some (.ref i), some x.va, none, none, none] := rfl
    have hh := hold_eq (s := s) hF2 (x := .lst ((rows ++ [x]).map Rec.va)) rfl
    rw [e0]
    unfold b_Dig_would_change
    simp [g1, g2, gFn, sure_ok w hF (seqL_ref h.ra) hq, rows_plus h.ra hl, hh, hb2, truA, -List.map_append]
theorem would_ok (h : DigAt C s n i a b rows ps) (w : WF s) (hl : rows.length ≤ 300) (hF : Fits n rows) (hF2 : Fits n (rows ++ [x])) (hb : holdB n rows = true) (hb2 : holdB n (rows ++ [x]) = true) :
    F_Dig_would_change C [.ref i, x.va] s = .ok (.lst (natsV (chgU n (tbOf n rows) (tbOf n (rows ++ [x]))))) s := by
  have g1 := fld_at h.ob lk_n
  have g2 := fld_at h.ob lk_r
  have hn := hF.1
  have hr : inR (n : Int) := ⟨by omega, by omega⟩
  refine aut_ret0 ?_ vasB_nats w
  have e0 : startA 5 [.ref i, x.va] = [some (.ref i), some x.va, none, none, none] := rfl
  have hh := hold_eq (s := s) hF2 (x := .lst ((rows ++ [x]).map Rec.va)) rfl
  have hw := ways_eq (s := s) hF2 (x := .lst ((rows ++ [x]).map Rec.va)) rfl
  have Cc : c_Dig_would_change_1 C [some (.ref i), some x.va, some (tbV n (tbOf n rows)), some (tbV n (tbOf n (rows ++ [x]))), none] s = .ok (.lst (natsV (chgU n (tbOf n rows) (tbOf n (rows ++ [x]))))) s := by
    unfold c_Dig_would_change_1 chgU natsV
    rw [lc_eq (fun u : Nat => Va.int u) (fun u => Va.int u) (fun u => !decide (tbOf n rows n u = tbOf n (rows ++ [x]) n u ∧ tbOf n rows u n = tbOf n (rows ++ [x]) u n)) (l := List.range n) (ck := none) (by simp [g1, hr, rgA_nats]) trivial (by rw [List.length_range]; omega) (fun u hu => by
      have hu := List.mem_range.mp hu
      have z1 := ends_eq (T := tbOf n rows) (s := s) w (Nat.le_refl n) (show u ≤ n by omega)
      have z2 := ends_eq (T := tbOf n (rows ++ [x])) (s := s) w (Nat.le_refl n) (show u ≤ n by omega)
      have z3 := fun a b c d => g_eq_pair (neg := true) (a := a) (b := negO b) (c := c) (d := negO d) (s := s)
      simp [wip, g1, gFn, z1, z2, endV, z3, negO_inj]) (fun u hu _ => by simp [wip])]
    rfl
  rw [e0]
  unfold b_Dig_would_change
  simp [g1, g2, gFn, sure_ok w hF (seqL_ref h.ra) hb, rows_plus h.ra hl, hh, hb2, hw, Cc, truA, -List.map_append, show fw n (edgesR n (rows ++ [x])) = tbOf n (rows ++ [x]) from rfl]
noncomputable def told51 (n : Nat) (rows : List Rec) (x : Rec) : Va := if holdB n rows = true ∧ holdB n (rows ++ [x]) = true then .lst [.lst (natsV (chgU n (tbOf n rows) (tbOf n (rows ++ [x]))))] else .lst []
theorem told51_eq (h : DigAt C s n i a b rows ps) (w : WF s) (hl : rows.length ≤ 300) (hF : Fits n rows) (hF2 : Fits n (rows ++ [x])) : F_l_told C [.ref i, x.va] s = .ok (told51 n rows x) s := by
  refine aut_ret0 ?_ (by unfold told51; split <;> first | exact ⟨vasB_nats, trivial⟩ | trivial) w
  have e0 : startA 2 [.ref i, x.va] = [some (.ref i), some x.va] := rfl
  have M := meth_eq (ε := [some (.ref i), some x.va]) (k := 0) (nn := 2) (mm := "would_change") (F0 := F_Dig_would_change C) (da := dCons (dV 1) dNil) h rfl (by simp)
  rw [e0]
  unfold b_l_told told51
  by_cases hb : holdB n rows = true ∧ holdB n (rows ++ [x]) = true
  · rw [if_pos hb]
    simp [M, gFn, would_ok h w hl hF hF2 hb.1 hb.2, -e_meth]
  · rw [if_neg hb]
    have hb' : holdB n rows = false ∨ holdB n (rows ++ [x]) = false := by
      cases q : holdB n rows with
      | false => exact .inl rfl
      | true =>
        cases q2 : holdB n (rows ++ [x]) with
        | false => exact .inr rfl
        | true => exact absurd ⟨q, q2⟩ hb
    simp [M, gFn, would_no h w hl hF hF2 hb', -e_meth, lkC, noEx]
def rchV (n : Nat) (T : Tb) : List Va := (List.range n).map fun u => .tup [oV (T n u), oV (T u n)]
theorem rchV_b {k n : Nat} {T : Tb} : vasB k (rchV n T) := by
  unfold rchV
  generalize List.range n = l
  induction l with
  | nil => trivial
  | cons u l ih => exact ⟨⟨oV_b _, oV_b _, trivial⟩, ih⟩
theorem reaches_eq (w : WF s) (hF : Fits n rows) (hx : seqL y s = some (rows.map Rec.va)) (hb : holdB n rows = true) : F_l_reaches [.int n, y] s = .ok (.lst (rchV n (tbOf n rows))) s := by
  refine aut_ret0 ?_ (show vaB _ (.lst _) from rchV_b) w
  have hn := hF.1
  have hr : inR (n : Int) := ⟨by omega, by omega⟩
  have e0 : startA 9 [.int n, y] = [some (.int n), some y, none, none, none, none, none, none, none] := rfl
  have St := l_steps_eq hF hx
  have f1 := far_row (s := s) hF hb (Nat.le_refl n)
  have f2 := far_col (s := s) hF hb (Nat.le_refl n)
  have hE : (edgesR n rows).length ≤ 100000 := by
    have := edgesR_few (n := n) rows
    have := hF.2.1
    omega
  have C1 : ∀ e3 : Option Va, c_l_reaches_1 [some (.int n), some y, some (.lst ((edgesR n rows).map edV)), e3, none, none, none, none, none] s = .ok (.lst ((Dm.rev (edgesR n rows)).map edV)) s := fun e3 => by
    unfold c_l_reaches_1
    rw [lc_allG edV (fun e => edV (e.2.1, e.1, e.2.2)) (l := edgesR n rows) (ck := none) (fun e : Edge => [some (.int n), some y, some (.lst ((edgesR n rows).map edV)), e3, none, some (.int e.1), some (.int e.2.1), some (.int e.2.2), none]) (seq_lst rfl) trivial hE (fun e _ => rfl) (fun e _ => by simp [edV])]
    rw [g_mkL_f]
    unfold Dm.rev
    rw [List.map_map]
    rfl
  have C2 : c_l_reaches_2 [some (.int n), some y, some (.lst ((edgesR n rows).map edV)), some (.lst (rowV n (tbOf n rows) n)), some (.lst (rowV n (colT (tbOf n rows)) n)), none, none, none, none] s = .ok (.lst (rchV n (tbOf n rows))) s := by
    unfold c_l_reaches_2 rchV
    rw [lc_all (fun u : Nat => Va.int u) (fun u => Va.tup [oV (tbOf n rows n u), oV (tbOf n rows u n)]) (l := List.range n) (ck := none) (by simp [hr, rgA_nats]) trivial (by rw [List.length_range]; omega) (fun u hu => by
      have hu := List.mem_range.mp hu
      have z1 := rowV_at (T := tbOf n rows) (i := n) (s := s) (show u ≤ n by omega)
      have z2 := rowV_at (T := colT (tbOf n rows)) (i := n) (s := s) (show u ≤ n by omega)
      simp [wip, z1, z2, colT, -g_ix_lst])]
    rfl
  rw [e0]
  unfold b_l_reaches
  simp [gFn, St, f1, f2, C1, C2, -g_ix_lst]
theorem rchV_at {T : Tb} {u : Nat} (h : u < n) : gIx (.lst (rchV n T)) (.int u) s = .ok (.tup [oV (T n u), oV (T u n)]) s := by
  rw [g_ix_lst, atI_in .non (by omega) (by unfold rchV; rw [List.length_map, List.length_range]; omega), Int.toNat_natCast]
  unfold rchV
  rw [getD_map _ _ _ 0 _ (by rw [List.length_range]; exact h)]
  simp [h]
theorem change_eq (w : WF s) (hl : rows.length ≤ 300) (hF : Fits n rows) (hF2 : Fits n (rows ++ [x])) (hx : s[r]? = some (.lst (rows.map Rec.va))) : F_l_change [.int n, .ref r, x.va] s = .ok (told51 n rows x) s := by
  refine aut_ret0 ?_ (by unfold told51; split <;> first | exact ⟨vasB_nats, trivial⟩ | trivial) w
  have hn := hF.1
  have hr : inR (n : Int) := ⟨by omega, by omega⟩
  have e0 : startA 6 [.int n, .ref r, x.va] = [some (.int n), some (.ref r), some x.va, none, none, none] := rfl
  have A := fun {x : Rec} => rows_plus (x := x) hx hl
  have H1 := l_holds_eq hF (seqL_ref hx)
  have H2 := l_holds_eq (s := s) hF2 (x := .lst ((rows ++ [x]).map Rec.va)) rfl
  rw [e0]
  unfold b_l_change told51
  by_cases hb : holdB n rows = true ∧ holdB n (rows ++ [x]) = true
  · rw [if_pos hb]
    have R1 := reaches_eq w hF (seqL_ref hx) hb.1
    have R2 := reaches_eq w hF2 (y := .lst ((rows ++ [x]).map Rec.va)) rfl hb.2
    have Cc : c_l_change_1 [some (.int n), some (.ref r), some x.va, some (.lst (rchV n (tbOf n rows))), some (.lst (rchV n (tbOf n (rows ++ [x])))), none] s = .ok (.lst (natsV (chgU n (tbOf n rows) (tbOf n (rows ++ [x]))))) s := by
      unfold c_l_change_1 chgU natsV
      rw [lc_eq (fun u : Nat => Va.int u) (fun u => Va.int u) (fun u => !decide (tbOf n rows n u = tbOf n (rows ++ [x]) n u ∧ tbOf n rows u n = tbOf n (rows ++ [x]) u n)) (l := List.range n) (ck := none) (by simp [hr, rgA_nats]) trivial (by rw [List.length_range]; omega) (fun u hu => by
        have hu := List.mem_range.mp hu
        have z3 := fun a b c d => g_eq_pair (neg := true) (a := a) (b := b) (c := c) (d := d) (s := s)
        simp [wip, rchV_at (s := s) hu, z3, -g_ix_lst]) (fun u hu _ => by simp [wip])]
      rfl
    simp [gFn, H1, H2, hb.1, hb.2, A, R1, R2, Cc, truA, -List.map_append]
  · rw [if_neg hb]
    cases q : holdB n rows with
    | false => simp [gFn, H1, q, A, truA, -List.map_append]
    | true =>
      have q2 : holdB n (rows ++ [x]) = false := by
        cases q2 : holdB n (rows ++ [x]) with
        | false => rfl
        | true => exact absurd ⟨q, q2⟩ hb
      simp [gFn, H1, H2, q, q2, A, truA, -List.map_append]
theorem dats_nats : ∀ l : List Nat, datsB (natsV l) = true ∧ deps (natsV l) ≤ 0
  | [] => ⟨rfl, Nat.le_refl _⟩
  | u :: l => by
    obtain ⟨h1, h2⟩ := dats_nats l
    refine ⟨?_, ?_⟩
    · show datsB (Va.int u :: natsV l) = true
      unfold datsB
      rw [h1]
      rfl
    · show deps (Va.int u :: natsV l) ≤ 0
      unfold deps
      have : dep (Va.int u) = 0 := by unfold dep; rfl
      omega
theorem told51_same (hn : n ≤ 1000) : F_l_sameR [told51 n rows x, told51 n rows x] s = .ok (.bl true) s := by
  unfold told51
  split
  · generalize hU : chgU n (tbOf n rows) (tbOf n (rows ++ [x])) = U
    obtain ⟨h1, h2⟩ := dats_nats U
    have hl : U.length ≤ 100000 := by
      rw [← hU]
      unfold chgU
      have := List.length_filter_le (fun u => !decide (tbOf n rows n u = tbOf n (rows ++ [x]) n u ∧ tbOf n rows u n = tbOf n (rows ++ [x]) u n)) (List.range n)
      rw [List.length_range] at this
      omega
    have d1 : datsB [Va.lst (natsV U)] = true := by
      simp [datsB, datB, h1]
      unfold natsV
      rw [List.length_map]
      exact hl
    have d2 : deps [Va.lst (natsV U)] < 5 := by
      simp [deps, dep]
      omega
    rw [sameR_eq (xs := [.lst (natsV U)]) (ys := [.lst (natsV U)]) rfl rfl ⟨by simp, d1⟩ ⟨by simp, d1⟩ d2, samesB_refl _ d1]
  · rw [sameR_eq (xs := []) (ys := []) rfl rfl ⟨by simp, rfl⟩ ⟨by simp, rfl⟩ (by simp [deps])]
    rfl
end
end Dn

set_option Elab.async false
set_option linter.all false
set_option maxRecDepth 100000
set_option maxHeartbeats 4000000
/-! k51: the law. -/
namespace Dn
open PySem PySem.Spec PyProof.Rows L2
noncomputable def b_law_L1 (CDig : Addr) : DS := (sSeq (sSet 9 (dApp (gFn 3 F_l_record) (dCons (dV 1) (dCons (dV 2) (dCons (dLst false (dCons (dC (.str "kind")) dNil)) dNil)))))
  (sSeq (sDrop (dMeth CDig "add" (dV 4) 2 (F_Dig_add CDig) (dCons (dV 9) dNil)))
  (sSeq (sDrop (dMt gAppend (dV 6) (dCons (dApp (gList false) (dCons (dV 5) dNil)) dNil)))
  (sDrop (dMt gAppend (dV 5) (dCons (dV 9) dNil))))))
noncomputable def c_law_1 (CDig : Addr) : DE := (dLc true (dSeq (dV 6)) (dgName 9) dYes (dApp (gList false) (dCons (dV 9) dNil)) [9])
noncomputable def b_law_L2 (CDig : Addr) : DS := (sSeq (sSet 10 (dBin gIx (dLst false (dCons (dC (.str "add")) (dCons (dC (.str "add")) (dCons (dC (.str "add")) (dCons (dC (.str "strike")) (dCons (dC (.str "undo")) (dCons (dC (.str "copy")) (dCons (dC (.str "ask")) dNil)))))))) (dApp (gFn 2 F_l_draw) (dCons (dV 1) (dCons (dC (.int 7)) dNil)))))
  (sSeq (sSet 11 (dApp (gFn 3 F_l_record) (dCons (dV 1) (dCons (dV 2) (dCons (dV 3) dNil)))))
  (sSeq (sSet 12 (dV 11))
  (sSeq (sIf (dTB (dBin (gEq false) (dV 10) (dC (.str "strike")))) (sSet 12 (dBin gSub (dApp (gFn 2 F_l_draw) (dCons (dV 1) (dCons (dBin (gAdd false) (dApp gLen (dCons (dV 5) dNil)) (dC (.int 2))) dNil))) (dApp gInt (dCons (dBin (gEq false) (dApp (gFn 2 F_l_draw) (dCons (dV 1) (dCons (dC (.int 9)) dNil))) (dC (.int 0))) dNil)))) sNext)
  (sSeq (sIf (dTB (dBin (gEq false) (dV 10) (dC (.str "copy")))) (sSet 7 (dTup (dCons (dMeth CDig "copy" (dV 4) 1 (F_Dig_copy CDig) dNil) (dCons (dApp (gList true) (dCons (dV 5) dNil)) (dCons (c_law_1 CDig) dNil))))) (sIf (dTB (dBin (gEq false) (dV 10) (dC (.str "ask")))) (sIf (dNot (dTr (dApp (gFn 2 F_l_sameR) (dCons (dApp (gFn 2 (F_l_told CDig)) (dCons (dV 4) (dCons (dV 11) dNil))) (dCons (dApp (gFn 3 F_l_change) (dCons (dV 2) (dCons (dV 5) (dCons (dV 11) dNil)))) dNil))))) (sRet (dC (.bl false))) sNext) (sIf (dTB (dBin (gEq true) (dApp (gFn 3 (F_l_done CDig)) (dCons (dV 4) (dCons (dV 10) (dCons (dV 12) dNil)))) (dApp (gFn 4 F_l_due) (dCons (dV 5) (dCons (dV 6) (dCons (dV 10) (dCons (dV 12) dNil))))))) (sRet (dC (.bl false))) sNext)))
  (sSeq (sSet 13 (dMeth CDig "records" (dV 4) 1 (F_Dig_records CDig) dNil))
  (sSeq (sIf (dNot (dTr (dApp (gFn 2 F_l_sameR) (dCons (dV 13) (dCons (dV 5) dNil))))) (sRet (dC (.bl false))) sNext)
  (sDrop (dMt gAppend (dV 13) (dCons (dC .non) dNil))))))))))
noncomputable def b_law_L3 (CDig : Addr) : DS := (sSeq (sSet 10 (dBin gIx (dLst false (dCons (dC (.str "add")) (dCons (dC (.str "strike")) (dCons (dC (.str "undo")) (dCons (dC (.str "undo")) (dCons (dC (.str "ask")) dNil)))))) (dApp (gFn 2 F_l_draw) (dCons (dV 1) (dCons (dC (.int 5)) dNil)))))
  (sSeq (sSet 12 (dApp (gFn 3 F_l_record) (dCons (dV 1) (dCons (dV 2) (dCons (dV 3) dNil)))))
  (sSeq (sIf (dTB (dBin (gEq false) (dV 10) (dC (.str "strike")))) (sSet 12 (dBin gSub (dApp (gFn 2 F_l_draw) (dCons (dV 1) (dCons (dBin (gAdd false) (dApp gLen (dCons (dV 15) dNil)) (dC (.int 2))) dNil))) (dApp gInt (dCons (dBin (gEq false) (dApp (gFn 2 F_l_draw) (dCons (dV 1) (dCons (dC (.int 9)) dNil))) (dC (.int 0))) dNil)))) sNext)
  (sSeq (sIf (dTB (dBin (gEq false) (dV 10) (dC (.str "ask")))) (sIf (dNot (dTr (dApp (gFn 2 F_l_sameR) (dCons (dApp (gFn 2 (F_l_told CDig)) (dCons (dV 14) (dCons (dV 12) dNil))) (dCons (dApp (gFn 3 F_l_change) (dCons (dV 2) (dCons (dV 15) (dCons (dV 12) dNil)))) dNil))))) (sRet (dC (.bl false))) sNext) (sIf (dTB (dBin (gEq true) (dApp (gFn 3 (F_l_done CDig)) (dCons (dV 14) (dCons (dV 10) (dCons (dV 12) dNil)))) (dApp (gFn 4 F_l_due) (dCons (dV 15) (dCons (dV 16) (dCons (dV 10) (dCons (dV 12) dNil))))))) (sRet (dC (.bl false))) sNext))
  (sIf (dOr (dNot (dTr (dApp (gFn 2 F_l_sameR) (dCons (dMeth CDig "records" (dV 14) 1 (F_Dig_records CDig) dNil) (dCons (dV 15) dNil))))) (dNot (dTr (dApp (gFn 2 F_l_sameR) (dCons (dMeth CDig "records" (dV 4) 1 (F_Dig_records CDig) dNil) (dCons (dV 5) dNil)))))) (sRet (dC (.bl false))) sNext)))))
noncomputable def r_law_12 (CDig : Addr) : DS := (sSeq (sFor (dRg1 (dCons (dApp (gFn 2 F_l_draw) (dCons (dV 1) (dCons (dBin gIx (dLst false (dCons (dC (.int 4)) (dCons (dC (.int 45)) dNil))) (dApp (gFn 2 F_l_draw) (dCons (dV 1) (dCons (dC (.int 2)) dNil)))) dNil))) dNil)) (dgName 8)
   (b_law_L3 CDig))
  (sRet (dC (.bl true))))
noncomputable def r_law_11 (CDig : Addr) : DS := (sSeq (sIf (dNot (dTr (dApp (gFn 2 F_l_sameR) (dCons (dMeth CDig "records" (dV 14) 1 (F_Dig_records CDig) dNil) (dCons (dV 15) dNil))))) (sRet (dC (.bl false))) sNext)
  (r_law_12 CDig))
noncomputable def r_law_9 (CDig : Addr) : DS := (sSeq (sIf (dTB (dBin (gIs false) (dV 7) (dC .non))) (sRet (dApp (gFn 2 F_l_sameR) (dCons (dMeth CDig "records" (dV 4) 1 (F_Dig_records CDig) dNil) (dCons (dV 5) dNil)))) sNext)
  (sSeq (sAsg (dgTup [14, 15, 16]) (dV 7))
  (r_law_11 CDig)))
noncomputable def r_law_8 (CDig : Addr) : DS := (sSeq (sFor (dRg1 (dCons (dApp (gFn 2 F_l_draw) (dCons (dV 1) (dCons (dC (.int 41)) dNil))) dNil)) (dgName 8)
   (b_law_L2 CDig))
  (r_law_9 CDig))
noncomputable def r_law_7 (CDig : Addr) : DS := (sSeq (sIf (dTB (dBin (gEq false) (dApp (gFn 2 F_l_draw) (dCons (dV 1) (dCons (dC (.int 30)) dNil))) (dC (.int 0)))) (sFor (dRg1 (dCons (dBin (gAdd false) (dC (.int 298)) (dApp (gFn 2 F_l_draw) (dCons (dV 1) (dCons (dC (.int 3)) dNil)))) dNil)) (dgName 8)
   (b_law_L1 CDig)) sNext)
  (r_law_8 CDig))
noncomputable def b_law (CDig : Addr) : DS := (sSeq (sSet 1 (dApp (gFn 1 F_l_stream) (dCons (dV 0) dNil)))
  (sSeq (sSet 2 (dApp (gFn 1 F_l_units) (dCons (dV 1) dNil)))
  (sSeq (sSet 3 (dLst false (dCons (dC (.str "before")) (dCons (dC (.str "before")) (dCons (dC (.str "same")) (dCons (dC (.str "within")) (dCons (dC (.str "since")) (dCons (dC (.str "until")) (dCons (dC (.str "kind")) dNil)))))))))
  (sSeq (sSet 4 (dMake CDig 2 (F_Dig_init CDig) (dCons (dV 2) dNil)))
  (sSeq (sSet 5 (dLst true dNil))
  (sSeq (sSet 6 (dLst true dNil))
  (sSeq (sSet 7 (dC .non))
  (r_law_7 CDig))))))))
theorem sq {d1 d2 : DS} {ε ε1 : En} {s s1 : Sto} {r : Fl} (h1 : d1 ε s = .nx ε1 s1) (h2 : d2 ε1 s1 = r) : sSeq d1 d2 ε s = r := by
  rw [e_seq, h1]
  exact h2
structure Dg where
  i : Nat
  a : Nat
  b : Nat
  r : Nat
  p : Nat
  rows : List Rec
  ps : List (Nat × List Rec)
def Dg.L (q : Dg) : List Nat := prL q.i q.a q.b q.r q.p q.ps
def Dg.At (q : Dg) (C : Addr) (s : Sto) (n m : Nat) : Prop := Pr C s n q.i q.a q.b q.r q.p q.rows q.ps m
def twV : Option Dg → Va
  | none => .non
  | some q => .tup [.ref q.i, .ref q.r, .ref q.p]
structure LS (C : Addr) (s : Sto) (n m : Nat) (q : Dg) (o : Option Dg) : Prop where
  st : ∃ t, stAt s 0 = some t
  wf : WF s
  pr : q.At C s n m
  z : 0 ∉ q.L
  tw : ∀ q2, o = some q2 → q2.At C s n m ∧ 0 ∉ q2.L ∧ ∀ j ∈ q2.L, j ∉ q.L
section
variable {C : Addr} {s s1 s2 : Sto} {n m : Nat} {q q' : Dg} {o : Option Dg}
theorem LS.zero (h : LS C s n m q o) (c : Chg [0] s s1) (w : WF s1) (st : ∃ t, stAt s1 0 = some t) : LS C s1 n m q o :=
  ⟨st, w, h.pr.keep c fun j hj e => h.z (by rw [List.mem_singleton.mp e] at hj; exact hj), h.z, fun q2 e => by
    obtain ⟨h1, h2, h3⟩ := h.tw q2 e
    exact ⟨h1.keep c fun j hj e => h2 (by rw [List.mem_singleton.mp e] at hj; exact hj), h2, h3⟩⟩
theorem st_get {t : Stm} (h : stAt s 0 = some t) : s[0]? = some t.ob := by
  unfold stAt at h
  cases e : s[0]? with
  | none =>
    rw [e] at h
    cases h
  | some o =>
    rw [e] at h
    rw [Stm.ob_of h]
theorem LS.same (h : LS C s n m q o) (c : Chg [] s s1) (w : WF s1) : LS C s1 n m q o := by
  obtain ⟨t, ht⟩ := h.st
  exact h.zero (c.mono (by simp)) w ⟨t, stAt_of (c.get (st_get ht) (by simp))⟩
theorem LS.more {m' : Nat} (h : LS C s n m q o) (hm : m ≤ m') : LS C s n m' q o :=
  ⟨h.st, h.wf, h.pr.mono hm, h.z, fun q2 e => ⟨(h.tw q2 e).1.mono hm, (h.tw q2 e).2⟩⟩
theorem LS.draw {k : Int} (h : LS C s n m q o) (h1 : 0 < k) (h2 : k < 1073741824) : ∃ d s1, F_l_draw [.ref 0, .int k] s = .ok (.int d) s1 ∧ 0 ≤ d ∧ d < k ∧ LS C s1 n m q o := by
  obtain ⟨t, ht⟩ := h.st
  have hd := t.draw_in h1
  exact ⟨_, _, draw_eq ht h1 h2, hd.1, hd.2, h.zero (Chg.set (by simp)) (wf_setl h.wf (Stm.b _ _)) ⟨_, stAt_put (stAt_lt ht)⟩⟩
theorem LS.record {ws : List Str} (h : LS C s n m q o) (h1 : 1 ≤ n) (h2 : n ≤ 1000) (hw : 0 < ws.length ∧ ws.length ≤ 1000) (h6 : ∀ x ∈ ws, x ∈ sixWords) : ∃ (x : Rec) (s1 : Sto), F_l_record [.ref 0, .int n, .lst (ws.map .str)] s = .ok x.va s1 ∧ x.nice n ∧ LS C s1 n m q o := by
  obtain ⟨t, ht⟩ := h.st
  refine ⟨(recordM t n ws).1, s.set 0 (recordM t n ws).2.ob, ?_, ⟨recordM_fits (by omega), recordM_ok⟩, h.zero (Chg.set (by simp)) (wf_setl h.wf (Stm.b _ _)) ⟨_, stAt_put (stAt_lt ht)⟩⟩
  unfold F_l_record
  simp only [ht, strsOf_map]
  rw [if_pos ⟨by omega, by omega, hw.1, hw.2, h6⟩]
theorem LS.fresh (h : LS C s n m q o) : ∀ j ∈ q.L, j < s.length := Pr.lt h.pr
/-- a deed at the first dig -/
theorem LS.deed {rows' : List Rec} (h : LS C s n m q o) (A : AfterX C s s2 n q.i q.a q.b q.r q.p q.ps m rows') : ∃ a' ps', LS C s2 n (m + 1) ⟨q.i, a', q.b, q.r, q.p, rows', ps'⟩ o := by
  obtain ⟨ps', a', h1, c, w, sub⟩ := A
  obtain ⟨t, ht⟩ := h.st
  have c' : Chg q.L s s2 := c
  have l0 := lt_of_get (st_get ht)
  refine ⟨a', ps', ⟨⟨t, stAt_of (c'.get (st_get ht) h.z)⟩, w, h1, ?_, ?_⟩⟩
  · intro hz
    exact h.z (sub 0 hz l0)
  · intro q2 e
    obtain ⟨k1, k2, k3⟩ := h.tw q2 e
    have lt2 := Pr.lt k1
    refine ⟨(k1.keep c k3).mono (Nat.le_succ _), k2, fun j hj hj' => k3 j hj (sub j hj' (lt2 j hj))⟩
/-- a deed at the other dig -/
theorem LS.deed2 {q2 : Dg} {rows' : List Rec} (h : LS C s n m q (some q2)) (A : AfterX C s s2 n q2.i q2.a q2.b q2.r q2.p q2.ps m rows') : ∃ a' ps', LS C s2 n (m + 1) q (some ⟨q2.i, a', q2.b, q2.r, q2.p, rows', ps'⟩) := by
  obtain ⟨ps', a', h1, c, w, sub⟩ := A
  obtain ⟨t, ht⟩ := h.st
  obtain ⟨k1, k2, k3⟩ := h.tw q2 rfl
  have c' : Chg q2.L s s2 := c
  have l0 := lt_of_get (st_get ht)
  have lt1 := h.fresh
  refine ⟨a', ps', ⟨⟨t, stAt_of (c'.get (st_get ht) k2)⟩, w, (h.pr.keep c fun j hj hj' => k3 j hj' hj).mono (Nat.le_succ _), h.z, ?_⟩⟩
  intro q3 e
  cases e
  refine ⟨h1, fun hz => k2 (sub 0 hz l0), fun j hj hj' => k3 j (sub j hj (lt1 j hj')) hj'⟩
theorem fitsQ {rows : List Rec} (hn : n ≤ 1000) (hl : rows.length ≤ 301) (hr : ∀ x ∈ rows, x.nice n) : Fits n rows := ⟨hn, by omega, fun r hr' => (hr r hr').1⟩
theorem fitsP {rows : List Rec} {x : Rec} (hn : n ≤ 1000) (hl : rows.length ≤ 300) (hr : ∀ x ∈ rows, x.nice n) (hx : x.nice n) : Fits n (rows ++ [x]) :=
  fitsQ hn (by rw [List.length_append, List.length_singleton]; omega) fun y hy => by
    rcases List.mem_append.mp hy with hy | hy
    · exact hr y hy
    · rw [List.mem_singleton.mp hy]
      exact hx
/-- what the dig tells, and the plain list -/
theorem recs_same {ε : En} {k kr : Nat} (h : q.At C s n m) (w : WF s) (h1 : ε[k]? = some (some (.ref q.i))) (h2 : ε[kr]? = some (some (.ref q.r))) :
    dApp (gFn 2 F_l_sameR) (dCons (dMeth C "records" (dV k) 1 (F_Dig_records C) dNil) (dCons (dV kr) dNil)) ε s = .ok (.bl true) (s ++ [.lst (q.rows.map Rec.va)]) := by
  have M := meth_eq (ε := ε) (k := k) (nn := 1) (mm := "records") (F0 := F_Dig_records C) (da := dNil) h.dg h1 (by simp)
  have R := records_ok h.dg w
  have S := sameR_recs (rs := q.rows) (s := s ++ [.lst (q.rows.map Rec.va)]) (x := .ref s.length) (y := .ref q.r) (seqL_ref push_get) (seqL_ref ((Chg.push (D := [])).get h.hr (by simp))) (by have := h.few.1; omega)
  simp only [e_App, e_Cons, M, e_Nil, bind_ok, gFn, List.length_cons, List.length_nil, if_true, R, e_V, h2, S]
theorem LS.push {rs : List Rec} (h : LS C s n m q o) : LS C (s ++ [.lst (rs.map Rec.va)]) n m q o := h.same Chg.push (wf_push h.wf obB_recs)
end
def wsA : List Str := ["before", "before", "same", "within", "since", "until", "kind"]
theorem wsA_six : ∀ x ∈ wsA, x ∈ sixWords := by
  intro x hx
  simp only [wsA, sixWords, List.mem_cons, List.not_mem_nil, or_false] at hx ⊢
  rcases hx with h | h | h | h | h | h | h <;> simp [h]
abbrev wsV : Va := .lst (wsA.map .str)
abbrev En51 (e0 : Option Va) (n : Nat) (q : Dg) (o : Option Dg) (e8 e9 e10 e11 e12 e13 e14 e15 e16 : Option Va) : En := [e0, some (.ref 0), some (.int n), some wsV, some (.ref q.i), some (.ref q.r), some (.ref q.p), some (twV o), e8, e9, e10, e11, e12, e13, e14, e15, e16]
section
variable {C : Addr} {s s1 s2 : Sto} {n m : Nat} {q q' : Dg} {o : Option Dg} {e0 e8 e9 e10 e11 e12 e13 e14 e15 e16 : Option Va}
/-! ### many records ahead -/
theorem turn1 (h : LS C s n m q none) (h1 : 1 ≤ n) (h2 : n ≤ 1000) (hm : m ≤ 1000) (hl : q.rows.length < 300) : ∃ q' e9' s', b_law_L1 C (En51 e0 n q none e8 e9 e10 e11 e12 e13 e14 e15 e16) s = .nx (En51 e0 n q' none e8 e9' e10 e11 e12 e13 e14 e15 e16) s' ∧ LS C s' n (m + 1) q' none ∧ q'.rows.length = q.rows.length + 1 := by
  obtain ⟨x, s1, R, hx, L1⟩ := h.record (ws := ["kind"]) h1 h2 ⟨by decide, by decide⟩ (by intro x hx; simp at hx; subst hx; simp [sixWords])
  have pr := L1.pr
  have hpl := pr.few.2
  obtain ⟨S1, A1, D1, c1, w1⟩ := add_ok (r := x) pr.dg L1.wf hl (by omega)
  have M := meth_eq (ε := En51 e0 n q none e8 (some x.va) e10 e11 e12 e13 e14 e15 e16) (k := 4) (nn := 2) (mm := "add") (F0 := F_Dig_add C) (da := dCons (dV 9) dNil) pr.dg rfl (by simp)
  obtain ⟨n1, n2⟩ := pr.ne
  have a1 := n2 q.a (by unfold digL; simp)
  have b1 := n2 q.b (by unfold digL; simp)
  have kr : S1[q.r]? = some (.lst (q.rows.map Rec.va)) := c1.get pr.hr (by simp; exact ⟨fun e => a1.1 e.symm, fun e => b1.1 e.symm⟩)
  have kp : S1[q.p]? = some (.lst (pastV q.ps)) := c1.get pr.hp (by simp; exact ⟨fun e => a1.2 e.symm, fun e => b1.2 e.symm⟩)
  have AX := after_push pr D1 c1 w1 (by rw [List.length_append, List.length_singleton]; omega) (fun y hy => by
    rcases List.mem_append.mp hy with hy | hy
    · exact pr.nice y hy
    · rw [List.mem_singleton.mp hy]
      exact hx)
  obtain ⟨a', ps', L2⟩ := L1.deed AX
  have g1 : gAppend (.ref q.p) [.lst (q.rows.map Rec.va)] S1 = _ := append_ref kp (by rw [pastV_len]; omega)
  have kr2 : (S1.set q.p (.lst (pastV q.ps ++ [.lst (q.rows.map Rec.va)])))[q.r]? = some (.lst (q.rows.map Rec.va)) := by
    rw [get_set_ne (Ne.symm n1)]
    exact kr
  have g2 : gAppend (.ref q.r) [x.va] (S1.set q.p (.lst (pastV q.ps ++ [.lst (q.rows.map Rec.va)]))) = _ := append_ref kr2 (by rw [List.length_map]; omega)
  have e5 : (q.rows ++ [x]).map Rec.va = q.rows.map Rec.va ++ [x.va] := by rw [List.map_append]; rfl
  refine ⟨⟨q.i, a', q.b, q.r, q.p, q.rows ++ [x], ps'⟩, some x.va, _, ?_, L2, by rw [List.length_append]; rfl⟩
  unfold b_law_L1
  refine sq (ε1 := En51 e0 n q none e8 (some x.va) e10 e11 e12 e13 e14 e15 e16) (s1 := s1) ?_ ?_
  · have R' : F_l_record [.ref 0, .int n, .lst [.str "kind"]] s = .ok x.va s1 := R
    simp [En51, gFn, R']
  refine sq (ε1 := En51 e0 n q none e8 (some x.va) e10 e11 e12 e13 e14 e15 e16) (s1 := S1) ?_ ?_
  · rw [e_drop, M]
    simp [En51, gFn, A1]
  refine sq (ε1 := En51 e0 n q none e8 (some x.va) e10 e11 e12 e13 e14 e15 e16) (s1 := S1.set q.p (.lst (pastV q.ps ++ [.lst (q.rows.map Rec.va)]))) ?_ ?_
  · simp [En51, isL_ref kp, list_ref kr, g1]
  · rw [e5]
    simp [En51, isL_ref kr2, g2]
/-! ### one of the deeds -/
theorem ask_same (h : q.At C s n m) (w : WF s) (hn : n ≤ 1000) {x : Rec} (hx : x.nice n) {ε : En} {k kr kw : Nat} (h1 : ε[k]? = some (some (.ref q.i))) (h2 : ε[kr]? = some (some (.ref q.r))) (h3 : ε[2]? = some (some (.int n))) (h4 : ε[kw]? = some (some x.va)) :
    sIf (dNot (dTr (dApp (gFn 2 F_l_sameR) (dCons (dApp (gFn 2 (F_l_told C)) (dCons (dV k) (dCons (dV kw) dNil))) (dCons (dApp (gFn 3 F_l_change) (dCons (dV 2) (dCons (dV kr) (dCons (dV kw) dNil)))) dNil))))) (sRet (dC (.bl false))) sNext ε s = .nx ε s := by
  have T := told51_eq (x := x) h.dg w h.few.1 (fitsQ hn (by have := h.few.1; omega) h.nice) (fitsP hn h.few.1 h.nice hx)
  have U := change_eq (x := x) w h.few.1 (fitsQ hn (by have := h.few.1; omega) h.nice) (fitsP hn h.few.1 h.nice hx) h.hr
  have V := told51_same (rows := q.rows) (x := x) (s := s) hn
  simp [gFn, h1, h2, h3, h4, T, U, V, truA]
/-- the last part of a turn: the dig tells the list -/
theorem tail2 (h : LS C s n m q o) : ∃ e13' s', (sSeq (sSet 13 (dMeth C "records" (dV 4) 1 (F_Dig_records C) dNil))
  (sSeq (sIf (dNot (dTr (dApp (gFn 2 F_l_sameR) (dCons (dV 13) (dCons (dV 5) dNil))))) (sRet (dC (.bl false))) sNext)
  (sDrop (dMt gAppend (dV 13) (dCons (dC .non) dNil))))) (En51 e0 n q o e8 e9 e10 e11 e12 e13 e14 e15 e16) s = .nx (En51 e0 n q o e8 e9 e10 e11 e12 e13' e14 e15 e16) s' ∧ LS C s' n m q o := by
  have M := meth_eq (ε := En51 e0 n q o e8 e9 e10 e11 e12 e13 e14 e15 e16) (k := 4) (nn := 1) (mm := "records") (F0 := F_Dig_records C) (da := dNil) h.pr.dg rfl (by simp)
  have R := records_ok h.pr.dg h.wf
  have S := sameR_recs (rs := q.rows) (s := s ++ [.lst (q.rows.map Rec.va)]) (x := .ref s.length) (y := .ref q.r) (seqL_ref push_get) (seqL_ref ((Chg.push (D := [])).get h.pr.hr (by simp))) (by have := h.pr.few.1; omega)
  have pg : (s ++ [Ob.lst (q.rows.map Rec.va)])[s.length]? = some (.lst (q.rows.map Rec.va)) := push_get
  have g : gAppend (.ref s.length) [.non] (s ++ [.lst (q.rows.map Rec.va)]) = _ := append_ref pg (by rw [List.length_map]; have := h.pr.few.1; omega)
  have hp := h.push (rs := q.rows)
  refine ⟨some (.ref s.length), (s ++ [Ob.lst (q.rows.map Rec.va)]).set s.length (Ob.lst (q.rows.map Rec.va ++ [Va.non])), ?_, ?_⟩
  · refine sq (ε1 := En51 e0 n q o e8 e9 e10 e11 e12 (some (.ref s.length)) e14 e15 e16) (s1 := s ++ [.lst (q.rows.map Rec.va)]) ?_ ?_
    · rw [e_set, M]
      simp [En51, gFn, R]
    refine sq (ε1 := En51 e0 n q o e8 e9 e10 e11 e12 (some (.ref s.length)) e14 e15 e16) (s1 := s ++ [.lst (q.rows.map Rec.va)]) ?_ ?_
    · simp [En51, gFn, S, truA]
    · simp [En51, isL_ref pg, g]
  · have ld := lt_of_get h.pr.dg.ob
    have c : Chg [] s ((s ++ [Ob.lst (q.rows.map Rec.va)]).set s.length (Ob.lst (q.rows.map Rec.va ++ [Va.non]))) := (Chg.push (D := []) (s1 := [Ob.lst (q.rows.map Rec.va)])).trans (Chg.set (D := [s.length]) (by simp)) (fun j hj hl => by simp at hj; omega)
    refine h.same c (wf_setl hp.wf ?_)
    have : ∀ (N : Nat) (rs : List Rec), vasB N (rs.map Rec.va ++ [.non]) := by
      intro N rs
      induction rs with
      | nil => exact ⟨trivial, trivial⟩
      | cons x rs ih => exact ⟨x.b _, ih⟩
    exact this _ _
/-- a copy -/
theorem copy2 (h : LS C s n m q o) (hm : m ≤ 1000) : ∃ q2 s', (sSet 7 (dTup (dCons (dMeth C "copy" (dV 4) 1 (F_Dig_copy C) dNil) (dCons (dApp (gList true) (dCons (dV 5) dNil)) (dCons (c_law_1 C) dNil))))) (En51 e0 n q o e8 e9 e10 e11 e12 e13 e14 e15 e16) s = .nx (En51 e0 n q (some q2) e8 e9 e10 e11 e12 e13 e14 e15 e16) s' ∧ LS C s' n m q (some q2) := by
  have M := meth_eq (ε := En51 e0 n q o e8 e9 e10 e11 e12 e13 e14 e15 e16) (k := 4) (nn := 1) (mm := "copy") (F0 := F_Dig_copy C) (da := dNil) h.pr.dg rfl (by simp)
  have hpl := h.pr.few.2
  obtain ⟨S1, a2, b2, ps2, E1, D1, ep, c1, w1, hj1⟩ := copy_ok h.pr.dg h.wf (by omega)
  have L1 := h.same c1 w1
  have L2 := L1.push (rs := q.rows)
  have w3 : WF ((S1 ++ [.lst (q.rows.map Rec.va)]) ++ [.lst (pastV q.ps)]) := wf_push L2.wf obB_past
  have L3 := L2.same (s1 := (S1 ++ [.lst (q.rows.map Rec.va)]) ++ [.lst (pastV q.ps)]) Chg.push w3
  have epv : pastV ps2 = pastV q.ps := by
    have e : ∀ ps : List (Nat × List Rec), pastV ps = (ps.map (·.2)).map fun rs => Va.lst (rs.map Rec.va) := fun ps => by
      unfold pastV
      rw [List.map_map]
      rfl
    rw [e, e, ep]
  have G1 : gList true [.ref q.r] S1 = _ := list_ref L1.pr.hr
  have G2 : c_law_1 C (En51 e0 n q o e8 e9 e10 e11 e12 e13 e14 e15 e16) (S1 ++ [.lst (q.rows.map Rec.va)]) = .ok (.ref (S1 ++ [Ob.lst (q.rows.map Rec.va)]).length) ((S1 ++ [.lst (q.rows.map Rec.va)]) ++ [.lst (pastV q.ps)]) := by
    unfold c_law_1
    rw [lc_all (fun x : Nat × List Rec => Va.lst (x.2.map Rec.va)) (fun x => Va.lst (x.2.map Rec.va)) (l := q.ps) (ck := some (q.p, pastV q.ps)) (by
      have := L2.pr.hp
      unfold dSeq
      simp only [e_V, List.getElem?_cons_zero, List.getElem?_cons_succ, bind_ok, this]
      rfl) L2.pr.hp (by omega) (fun x _ => by simp [wip])]
    rfl
  have l1 := c1.len
  have ls := lt_of_get h.pr.dg.ob
  have D3 := D1.keep (s1 := (S1 ++ [.lst (q.rows.map Rec.va)]) ++ [.lst (pastV q.ps)]) (D := []) ((Chg.push (D := [])).trans (Chg.push (D := [])) (by simp)) (by simp)
  have dlt := D1.lt
  refine ⟨⟨s.length, a2, b2, S1.length, (S1 ++ [Ob.lst (q.rows.map Rec.va)]).length, q.rows, ps2⟩, (S1 ++ [.lst (q.rows.map Rec.va)]) ++ [.lst (pastV q.ps)], ?_, L3.st, L3.wf, L3.pr, L3.z, ?_⟩
  · rw [e_set, e_Tup, e_Cons, M]
    have G1' : gList true [.ref q.r] S1 = .ok (.ref S1.length) (S1 ++ [.lst (q.rows.map Rec.va)]) := G1
    simp only [e_Nil, bind_ok, gFn, List.length_cons, List.length_nil, if_true, E1, e_Cons, e_App, e_V, List.getElem?_cons_zero, List.getElem?_cons_succ, G1', G2, fl_ok, List.set]
    rfl
  · intro q2 e
    cases e
    refine ⟨⟨D3, ?_, ?_, ?_, ⟨h.pr.few.1, ?_⟩, h.pr.nice, ?_⟩, ?_, ?_⟩
    · exact (Chg.push (D := [])).get push_get (by simp)
    · show ((S1 ++ [Ob.lst (q.rows.map Rec.va)]) ++ [Ob.lst (pastV q.ps)])[(S1 ++ [Ob.lst (q.rows.map Rec.va)]).length]? = some (.lst (pastV ps2))
      rw [epv]
      exact push_get
    · show (S1.length :: (S1 ++ [Ob.lst (q.rows.map Rec.va)]).length :: digL s.length a2 b2 ps2).Nodup
      refine List.nodup_cons.mpr ⟨?_, List.nodup_cons.mpr ⟨fun hj => ?_, D1.nd⟩⟩
      · intro hj
        rcases List.mem_cons.mp hj with e | hj
        · rw [List.length_append, List.length_singleton] at e
          omega
        · exact Nat.lt_irrefl _ (dlt _ hj)
      · have := dlt _ hj
        rw [List.length_append, List.length_singleton] at this
        omega
    · show ps2.length ≤ m
      have : ps2.length = q.ps.length := by
        have := congrArg List.length ep
        rw [List.length_map, List.length_map] at this
        exact this
      omega
    · intro x hx
      have hx2 : x.2 ∈ q.ps.map (·.2) := by
        rw [← ep]
        exact List.mem_map_of_mem hx
      obtain ⟨y, hy, e⟩ := List.mem_map.mp hx2
      rw [← e]
      exact h.pr.niceP y hy
    · intro hz
      rcases List.mem_cons.mp hz with e | hz
      · dsimp only at e
        omega
      · rcases List.mem_cons.mp hz with e | hz
        · dsimp only at e
          rw [List.length_append] at e
          simp at e
        · have := hj1 0 hz
          omega
    · intro j hj hj'
      have hlt := h.fresh j hj'
      rcases List.mem_cons.mp hj with e | hj
      · dsimp only at e
        omega
      · rcases List.mem_cons.mp hj with e | hj
        · dsimp only at e
          rw [List.length_append] at e
          omega
        · have := hj1 j hj
          omega
/-- a deed drawn: the word, and what comes with it -/
def wordsA : List Str := ["add", "add", "add", "strike", "undo", "copy", "ask"]
def wordsB : List Str := ["add", "strike", "undo", "undo", "ask"]
theorem word_at {ws : List Str} {d : Int} (h0 : 0 ≤ d) (h1 : d < ws.length) : gIx (.lst (ws.map .str)) (.int d) s = .ok (.str (ws.getD d.toNat "")) s := by
  rw [g_ix_lst, atI_in .non h0 (by rw [List.length_map]; exact h1)]
  dsimp only
  rw [getD_map Va.str ws _ "" _ (by omega)]
theorem wordsA_cases {x : Str} (h : x ∈ wordsA) : x = "add" ∨ x = "strike" ∨ x = "undo" ∨ x = "copy" ∨ x = "ask" := by
  simp only [wordsA, List.mem_cons, List.not_mem_nil, or_false] at h
  rcases h with h | h | h | h | h | h | h <;> simp [h]
theorem wordsB_cases {x : Str} (h : x ∈ wordsB) : x = "add" ∨ x = "strike" ∨ x = "undo" ∨ x = "ask" := by
  simp only [wordsB, List.mem_cons, List.not_mem_nil, or_false] at h
  rcases h with h | h | h | h | h <;> simp [h]
/-- the number to be struck -/
theorem strike_what {kr : Nat} {lr : Nat} {ε : En} {ε12 : Int → En} (h : LS C s n m q o) (hε : ε[1]? = some (some (.ref 0))) (hr : ε[kr]? = some (some (.ref lr))) (rows : List Rec) (hl : rows.length ≤ 300) (hk : ∀ s1, LS C s1 n m q o → s1[lr]? = some (.lst (rows.map Rec.va))) (h12 : ∀ z : Int, ε.set 12 (some (.int z)) = ε12 z) :
    ∃ (z : Int) (s' : Sto), (sSet 12 (dBin gSub (dApp (gFn 2 F_l_draw) (dCons (dV 1) (dCons (dBin (gAdd false) (dApp gLen (dCons (dV kr) dNil)) (dC (.int 2))) dNil))) (dApp gInt (dCons (dBin (gEq false) (dApp (gFn 2 F_l_draw) (dCons (dV 1) (dCons (dC (.int 9)) dNil))) (dC (.int 0))) dNil)))) ε s = .nx (ε12 z) s' ∧ LS C s' n m q o := by
  obtain ⟨d, s1, E1, _, _, L1⟩ := h.draw (k := (rows.length : Int) + 2) (by omega) (by omega)
  obtain ⟨d2, s2, E2, _, _, L2⟩ := L1.draw (k := 9) (by decide) (by decide)
  refine ⟨d - (if d2 = 0 then 1 else 0), s2, ?_, L2⟩
  rw [← h12]
  simp [hε, hr, gFn, len_ref (hk s h), E1, E2]
theorem turn2 (h : LS C s n m q o) (h1 : 1 ≤ n) (h2 : n ≤ 1000) (hm : m ≤ 1000) : ∃ q' o' e10' e11' e12' e13' s', b_law_L2 C (En51 e0 n q o e8 e9 e10 e11 e12 e13 e14 e15 e16) s = .nx (En51 e0 n q' o' e8 e9 e10' e11' e12' e13' e14 e15 e16) s' ∧ LS C s' n (m + 1) q' o' := by
  obtain ⟨d, s1, E1, d0, d1, L1⟩ := h.draw (k := 7) (by decide) (by decide)
  have W1 := word_at (ws := wordsA) (s := s1) d0 d1
  have hW : wordsA.getD d.toNat "" ∈ wordsA := getD_mem (show d.toNat < 7 by omega)
  generalize wordsA.getD d.toNat "" = w at W1 hW
  have W1' : gIx (.lst [.str "add", .str "add", .str "add", .str "strike", .str "undo", .str "copy", .str "ask"]) (.int d) s1 = .ok (.str w) s1 := W1
  obtain ⟨x, s2, E2, hx, L2⟩ := L1.record h1 h2 (ws := wsA) ⟨by decide, by decide⟩ wsA_six
  -- what comes behind the deed
  have fin : ∀ {q' o' e12' s3}, LS C s3 n (m + 1) q' o' → ∃ q'' o'' e10' e11' e12'' e13' s', (sSeq (sSet 13 (dMeth C "records" (dV 4) 1 (F_Dig_records C) dNil))
      (sSeq (sIf (dNot (dTr (dApp (gFn 2 F_l_sameR) (dCons (dV 13) (dCons (dV 5) dNil))))) (sRet (dC (.bl false))) sNext)
      (sDrop (dMt gAppend (dV 13) (dCons (dC .non) dNil))))) (En51 e0 n q' o' e8 e9 (some (.str w)) (some x.va) e12' e13 e14 e15 e16) s3 = .nx (En51 e0 n q'' o'' e8 e9 e10' e11' e12'' e13' e14 e15 e16) s' ∧ LS C s' n (m + 1) q'' o'' := fun {q' o' e12' s3} L => by
    obtain ⟨f13, s', E, L'⟩ := tail2 (e0 := e0) (e8 := e8) (e9 := e9) (e10 := some (.str w)) (e11 := some x.va) (e12 := e12') (e13 := e13) (e14 := e14) (e15 := e15) (e16 := e16) L
    exact ⟨q', o', _, _, _, f13, s', E, L'⟩
  have pre : ∀ {R : Fl}, (sSeq (sIf (dTB (dBin (gEq false) (dV 10) (dC (.str "strike")))) (sSet 12 (dBin gSub (dApp (gFn 2 F_l_draw) (dCons (dV 1) (dCons (dBin (gAdd false) (dApp gLen (dCons (dV 5) dNil)) (dC (.int 2))) dNil))) (dApp gInt (dCons (dBin (gEq false) (dApp (gFn 2 F_l_draw) (dCons (dV 1) (dCons (dC (.int 9)) dNil))) (dC (.int 0))) dNil)))) sNext)
  (sSeq (sIf (dTB (dBin (gEq false) (dV 10) (dC (.str "copy")))) (sSet 7 (dTup (dCons (dMeth C "copy" (dV 4) 1 (F_Dig_copy C) dNil) (dCons (dApp (gList true) (dCons (dV 5) dNil)) (dCons (c_law_1 C) dNil))))) (sIf (dTB (dBin (gEq false) (dV 10) (dC (.str "ask")))) (sIf (dNot (dTr (dApp (gFn 2 F_l_sameR) (dCons (dApp (gFn 2 (F_l_told C)) (dCons (dV 4) (dCons (dV 11) dNil))) (dCons (dApp (gFn 3 F_l_change) (dCons (dV 2) (dCons (dV 5) (dCons (dV 11) dNil)))) dNil))))) (sRet (dC (.bl false))) sNext) (sIf (dTB (dBin (gEq true) (dApp (gFn 3 (F_l_done C)) (dCons (dV 4) (dCons (dV 10) (dCons (dV 12) dNil)))) (dApp (gFn 4 F_l_due) (dCons (dV 5) (dCons (dV 6) (dCons (dV 10) (dCons (dV 12) dNil))))))) (sRet (dC (.bl false))) sNext)))
  (sSeq (sSet 13 (dMeth C "records" (dV 4) 1 (F_Dig_records C) dNil))
  (sSeq (sIf (dNot (dTr (dApp (gFn 2 F_l_sameR) (dCons (dV 13) (dCons (dV 5) dNil))))) (sRet (dC (.bl false))) sNext)
  (sDrop (dMt gAppend (dV 13) (dCons (dC .non) dNil))))))) (En51 e0 n q o e8 e9 (some (.str w)) (some x.va) (some x.va) e13 e14 e15 e16) s2 = R → b_law_L2 C (En51 e0 n q o e8 e9 e10 e11 e12 e13 e14 e15 e16) s = R := fun {R} E => by
    unfold b_law_L2
    refine sq (ε1 := En51 e0 n q o e8 e9 (some (.str w)) e11 e12 e13 e14 e15 e16) (s1 := s1) ?_ ?_
    · simp [En51, gFn, E1, W1', -g_ix_lst]
    refine sq (ε1 := En51 e0 n q o e8 e9 (some (.str w)) (some x.va) e12 e13 e14 e15 e16) (s1 := s2) ?_ ?_
    · have E2' : F_l_record [.ref 0, .int n, wsV] s1 = .ok x.va s2 := E2
      simp [En51, gFn, E2', -List.map_cons]
    refine sq (ε1 := En51 e0 n q o e8 e9 (some (.str w)) (some x.va) (some x.va) e13 e14 e15 e16) (s1 := s2) ?_ ?_
    · simp [En51]
    exact E
  rcases wordsA_cases hW with rfl | rfl | rfl | rfl | rfl
  · -- add
    obtain ⟨v, s3, s4, D1, D2, rows', A⟩ := deed_add (x := x) L2.pr L2.wf hm hx
    obtain ⟨a', ps', L4⟩ := L2.deed A
    obtain ⟨q'', o'', f10, f11, f12, f13, s5, E5, L5⟩ := fin (e12' := some x.va) L4
    refine ⟨q'', o'', f10, f11, f12, f13, s5, pre ?_, L5⟩
    refine sq (ε1 := En51 e0 n q o e8 e9 (some (.str "add")) (some x.va) (some x.va) e13 e14 e15 e16) (s1 := s2) ?_ ?_
    · simp [En51]
    refine sq (ε1 := En51 e0 n ⟨q.i, a', q.b, q.r, q.p, rows', ps'⟩ o e8 e9 (some (.str "add")) (some x.va) (some x.va) e13 e14 e15 e16) (s1 := s4) ?_ E5
    · simp [En51, gFn, D1, D2]
  · -- strike
    obtain ⟨z, s3, E3, L3⟩ := strike_what (kr := 5) (lr := q.r) (ε := En51 e0 n q o e8 e9 (some (.str "strike")) (some x.va) (some x.va) e13 e14 e15 e16) (ε12 := fun z => En51 e0 n q o e8 e9 (some (.str "strike")) (some x.va) (some (.int z)) e13 e14 e15 e16) L2 rfl rfl q.rows L2.pr.few.1 (fun s1 h => h.pr.hr) (fun z => rfl)
    obtain ⟨v, s4, s5, D1, D2, rows', A⟩ := deed_strike (z := z) L3.pr L3.wf hm
    obtain ⟨a', ps', L5⟩ := L3.deed A
    obtain ⟨q'', o'', f10, f11, f12, f13, s6, E6, L6⟩ := fin (e12' := some (.int z)) L5
    refine ⟨q'', o'', f10, f11, f12, f13, s6, pre ?_, L6⟩
    refine sq (ε1 := En51 e0 n q o e8 e9 (some (.str "strike")) (some x.va) (some (.int z)) e13 e14 e15 e16) (s1 := s3) ?_ ?_
    · rw [e_ifS]
      simp only [e_TB, e_Bin, e_V, En51, List.getElem?_cons_zero, List.getElem?_cons_succ, bind_ok, e_C, g_eq_str, decide_true, Bool.false_bne, fl_ok, if_true]
      exact E3
    refine sq (ε1 := En51 e0 n ⟨q.i, a', q.b, q.r, q.p, rows', ps'⟩ o e8 e9 (some (.str "strike")) (some x.va) (some (.int z)) e13 e14 e15 e16) (s1 := s5) ?_ E6
    · simp [En51, gFn, D1, D2]
  · -- undo
    obtain ⟨v, s3, s4, D1, D2, rows', A⟩ := deed_undo (what := x.va) L2.pr L2.wf
    obtain ⟨a', ps', L4⟩ := L2.deed A
    obtain ⟨q'', o'', f10, f11, f12, f13, s5, E5, L5⟩ := fin (e12' := some x.va) L4
    refine ⟨q'', o'', f10, f11, f12, f13, s5, pre ?_, L5⟩
    refine sq (ε1 := En51 e0 n q o e8 e9 (some (.str "undo")) (some x.va) (some x.va) e13 e14 e15 e16) (s1 := s2) ?_ ?_
    · simp [En51]
    refine sq (ε1 := En51 e0 n ⟨q.i, a', q.b, q.r, q.p, rows', ps'⟩ o e8 e9 (some (.str "undo")) (some x.va) (some x.va) e13 e14 e15 e16) (s1 := s4) ?_ E5
    · simp [En51, gFn, D1, D2]
  · -- copy
    obtain ⟨q2, s3, E3, L3⟩ := copy2 (e0 := e0) (e8 := e8) (e9 := e9) (e10 := some (.str "copy")) (e11 := some x.va) (e12 := some x.va) (e13 := e13) (e14 := e14) (e15 := e15) (e16 := e16) L2 hm
    obtain ⟨q'', o'', f10, f11, f12, f13, s5, E5, L5⟩ := fin (e12' := some x.va) (L3.more (Nat.le_succ _))
    refine ⟨q'', o'', f10, f11, f12, f13, s5, pre ?_, L5⟩
    refine sq (ε1 := En51 e0 n q o e8 e9 (some (.str "copy")) (some x.va) (some x.va) e13 e14 e15 e16) (s1 := s2) ?_ ?_
    · simp [En51]
    refine sq (ε1 := En51 e0 n q (some q2) e8 e9 (some (.str "copy")) (some x.va) (some x.va) e13 e14 e15 e16) (s1 := s3) ?_ E5
    · rw [e_ifS]
      simp only [e_TB, e_Bin, e_V, En51, List.getElem?_cons_zero, List.getElem?_cons_succ, bind_ok, e_C, g_eq_str, decide_true, Bool.false_bne, fl_ok, if_true]
      exact E3
  · -- ask
    have A := ask_same (ε := En51 e0 n q o e8 e9 (some (.str "ask")) (some x.va) (some x.va) e13 e14 e15 e16) (k := 4) (kr := 5) (kw := 11) L2.pr L2.wf h2 hx rfl rfl rfl rfl
    obtain ⟨q'', o'', f10, f11, f12, f13, s5, E5, L5⟩ := fin (e12' := some x.va) (L2.more (Nat.le_succ _))
    refine ⟨q'', o'', f10, f11, f12, f13, s5, pre ?_, L5⟩
    refine sq (ε1 := En51 e0 n q o e8 e9 (some (.str "ask")) (some x.va) (some x.va) e13 e14 e15 e16) (s1 := s2) ?_ ?_
    · simp [En51]
    refine sq (ε1 := En51 e0 n q o e8 e9 (some (.str "ask")) (some x.va) (some x.va) e13 e14 e15 e16) (s1 := s2) ?_ E5
    · rw [e_ifS]
      have z1 : (dTB (dBin (gEq false) (dV 10) (dC (.str "copy")))) (En51 e0 n q o e8 e9 (some (.str "ask")) (some x.va) (some x.va) e13 e14 e15 e16) s2 = .ok false s2 := by simp [En51]
      have z2 : (dTB (dBin (gEq false) (dV 10) (dC (.str "ask")))) (En51 e0 n q o e8 e9 (some (.str "ask")) (some x.va) (some x.va) e13 e14 e15 e16) s2 = .ok true s2 := by simp [En51]
      rw [z1, fl_ok, if_neg (by decide), e_ifS, z2, fl_ok, if_pos rfl]
      exact A
end
end Dn

set_option Elab.async false
set_option linter.all false
set_option maxRecDepth 100000
set_option maxHeartbeats 1000000
/-! k51: the loops, the law. -/
namespace Dn
open PySem PySem.Spec PyProof.Rows L2
section
variable {C : Addr} {s s1 s2 : Sto} {n m : Nat} {q q' : Dg} {o : Option Dg} {e0 e8 e9 e10 e11 e12 e13 e14 e15 e16 : Option Va}
/-- a turn at the copy -/
theorem turnC {q2 : Dg} (h : LS C s n m q (some q2)) (h1 : 1 ≤ n) (h2 : n ≤ 1000) (hm : m ≤ 1000) : ∃ q2' e10' e12' s', b_law_L3 C (En51 e0 n q (some q2) e8 e9 e10 e11 e12 e13 (some (.ref q2.i)) (some (.ref q2.r)) (some (.ref q2.p))) s = .nx (En51 e0 n q (some q2') e8 e9 e10' e11 e12' e13 (some (.ref q2'.i)) (some (.ref q2'.r)) (some (.ref q2'.p))) s' ∧ LS C s' n (m + 1) q (some q2') := by
  obtain ⟨d, s1, E1, d0, d1, L1⟩ := h.draw (k := 5) (by decide) (by decide)
  have W1 := word_at (ws := wordsB) (s := s1) d0 d1
  have hW : wordsB.getD d.toNat "" ∈ wordsB := getD_mem (show d.toNat < 5 by omega)
  generalize wordsB.getD d.toNat "" = w at W1 hW
  have W1' : gIx (.lst [.str "add", .str "strike", .str "undo", .str "undo", .str "ask"]) (.int d) s1 = .ok (.str w) s1 := W1
  obtain ⟨x, s2, E2, hx, L2⟩ := L1.record h1 h2 (ws := wsA) ⟨by decide, by decide⟩ wsA_six
  have fin : ∀ {q2' : Dg} {e10' e12' : Option Va} {s3 : Sto}, LS C s3 n (m + 1) q (some q2') → ∃ s', (sIf (dOr (dNot (dTr (dApp (gFn 2 F_l_sameR) (dCons (dMeth C "records" (dV 14) 1 (F_Dig_records C) dNil) (dCons (dV 15) dNil))))) (dNot (dTr (dApp (gFn 2 F_l_sameR) (dCons (dMeth C "records" (dV 4) 1 (F_Dig_records C) dNil) (dCons (dV 5) dNil)))))) (sRet (dC (.bl false))) sNext) (En51 e0 n q (some q2') e8 e9 e10' e11 e12' e13 (some (.ref q2'.i)) (some (.ref q2'.r)) (some (.ref q2'.p))) s3 = .nx (En51 e0 n q (some q2') e8 e9 e10' e11 e12' e13 (some (.ref q2'.i)) (some (.ref q2'.r)) (some (.ref q2'.p))) s' ∧ LS C s' n (m + 1) q (some q2') := fun {q2' e10' e12' s3} L => by
    obtain ⟨k1, k2, k3⟩ := L.tw q2' rfl
    have A := recs_same (ε := En51 e0 n q (some q2') e8 e9 e10' e11 e12' e13 (some (.ref q2'.i)) (some (.ref q2'.r)) (some (.ref q2'.p))) (k := 14) (kr := 15) k1 L.wf rfl rfl
    have L2 := L.push (rs := q2'.rows)
    have B := recs_same (ε := En51 e0 n q (some q2') e8 e9 e10' e11 e12' e13 (some (.ref q2'.i)) (some (.ref q2'.r)) (some (.ref q2'.p))) (k := 4) (kr := 5) L2.pr L2.wf rfl rfl
    refine ⟨_, ?_, L2.push (rs := q.rows)⟩
    rw [e_ifS, e_Or, e_Not, e_Tr, A]
    simp only [bind_ok, truA, Bool.not_true, Bool.false_eq_true, if_false, e_Not, e_Tr, B, fl_ok, e_next]
  have pre : ∀ {R : Fl}, (sSeq (sIf (dTB (dBin (gEq false) (dV 10) (dC (.str "strike")))) (sSet 12 (dBin gSub (dApp (gFn 2 F_l_draw) (dCons (dV 1) (dCons (dBin (gAdd false) (dApp gLen (dCons (dV 15) dNil)) (dC (.int 2))) dNil))) (dApp gInt (dCons (dBin (gEq false) (dApp (gFn 2 F_l_draw) (dCons (dV 1) (dCons (dC (.int 9)) dNil))) (dC (.int 0))) dNil)))) sNext)
  (sSeq (sIf (dTB (dBin (gEq false) (dV 10) (dC (.str "ask")))) (sIf (dNot (dTr (dApp (gFn 2 F_l_sameR) (dCons (dApp (gFn 2 (F_l_told C)) (dCons (dV 14) (dCons (dV 12) dNil))) (dCons (dApp (gFn 3 F_l_change) (dCons (dV 2) (dCons (dV 15) (dCons (dV 12) dNil)))) dNil))))) (sRet (dC (.bl false))) sNext) (sIf (dTB (dBin (gEq true) (dApp (gFn 3 (F_l_done C)) (dCons (dV 14) (dCons (dV 10) (dCons (dV 12) dNil)))) (dApp (gFn 4 F_l_due) (dCons (dV 15) (dCons (dV 16) (dCons (dV 10) (dCons (dV 12) dNil))))))) (sRet (dC (.bl false))) sNext))
  (sIf (dOr (dNot (dTr (dApp (gFn 2 F_l_sameR) (dCons (dMeth C "records" (dV 14) 1 (F_Dig_records C) dNil) (dCons (dV 15) dNil))))) (dNot (dTr (dApp (gFn 2 F_l_sameR) (dCons (dMeth C "records" (dV 4) 1 (F_Dig_records C) dNil) (dCons (dV 5) dNil)))))) (sRet (dC (.bl false))) sNext))) (En51 e0 n q (some q2) e8 e9 (some (.str w)) e11 (some x.va) e13 (some (.ref q2.i)) (some (.ref q2.r)) (some (.ref q2.p))) s2 = R → b_law_L3 C (En51 e0 n q (some q2) e8 e9 e10 e11 e12 e13 (some (.ref q2.i)) (some (.ref q2.r)) (some (.ref q2.p))) s = R := fun {R} E => by
    unfold b_law_L3
    refine sq (ε1 := En51 e0 n q (some q2) e8 e9 (some (.str w)) e11 e12 e13 (some (.ref q2.i)) (some (.ref q2.r)) (some (.ref q2.p))) (s1 := s1) ?_ ?_
    · simp [En51, gFn, E1, W1', -g_ix_lst]
    refine sq (ε1 := En51 e0 n q (some q2) e8 e9 (some (.str w)) e11 (some x.va) e13 (some (.ref q2.i)) (some (.ref q2.r)) (some (.ref q2.p))) (s1 := s2) ?_ ?_
    · have E2' : F_l_record [.ref 0, .int n, wsV] s1 = .ok x.va s2 := E2
      simp [En51, gFn, E2', -List.map_cons]
    exact E
  obtain ⟨k1, k2, k3⟩ := L2.tw q2 rfl
  rcases wordsB_cases hW with rfl | rfl | rfl | rfl
  · -- add
    obtain ⟨v, s3, s4, D1, D2, rows', A⟩ := deed_add (x := x) k1 L2.wf hm hx
    obtain ⟨a', ps', L4⟩ := L2.deed2 A
    obtain ⟨s5, E5, L5⟩ := fin (e10' := some (.str "add")) (e12' := some x.va) L4
    refine ⟨_, some (.str "add"), some x.va, s5, pre ?_, L5⟩
    refine sq (ε1 := En51 e0 n q (some q2) e8 e9 (some (.str "add")) e11 (some x.va) e13 (some (.ref q2.i)) (some (.ref q2.r)) (some (.ref q2.p))) (s1 := s2) ?_ ?_
    · simp [En51]
    refine sq (ε1 := En51 e0 n q (some ⟨q2.i, a', q2.b, q2.r, q2.p, rows', ps'⟩) e8 e9 (some (.str "add")) e11 (some x.va) e13 (some (.ref q2.i)) (some (.ref q2.r)) (some (.ref q2.p))) (s1 := s4) ?_ E5
    · simp [En51, gFn, D1, D2, twV]
  · -- strike
    obtain ⟨z, s3, E3, L3⟩ := strike_what (kr := 15) (lr := q2.r) (ε := En51 e0 n q (some q2) e8 e9 (some (.str "strike")) e11 (some x.va) e13 (some (.ref q2.i)) (some (.ref q2.r)) (some (.ref q2.p))) (ε12 := fun z => En51 e0 n q (some q2) e8 e9 (some (.str "strike")) e11 (some (.int z)) e13 (some (.ref q2.i)) (some (.ref q2.r)) (some (.ref q2.p))) L2 rfl rfl q2.rows k1.few.1 (fun s1 h => (h.tw q2 rfl).1.hr) (fun z => rfl)
    obtain ⟨v, s4, s5, D1, D2, rows', A⟩ := deed_strike (z := z) (L3.tw q2 rfl).1 L3.wf hm
    obtain ⟨a', ps', L5⟩ := L3.deed2 A
    obtain ⟨s6, E6, L6⟩ := fin (e10' := some (.str "strike")) (e12' := some (.int z)) L5
    refine ⟨_, some (.str "strike"), some (.int z), s6, pre ?_, L6⟩
    refine sq (ε1 := En51 e0 n q (some q2) e8 e9 (some (.str "strike")) e11 (some (.int z)) e13 (some (.ref q2.i)) (some (.ref q2.r)) (some (.ref q2.p))) (s1 := s3) ?_ ?_
    · rw [e_ifS]
      simp only [e_TB, e_Bin, e_V, En51, List.getElem?_cons_zero, List.getElem?_cons_succ, bind_ok, e_C, g_eq_str, decide_true, Bool.false_bne, fl_ok, if_true]
      exact E3
    refine sq (ε1 := En51 e0 n q (some ⟨q2.i, a', q2.b, q2.r, q2.p, rows', ps'⟩) e8 e9 (some (.str "strike")) e11 (some (.int z)) e13 (some (.ref q2.i)) (some (.ref q2.r)) (some (.ref q2.p))) (s1 := s5) ?_ E6
    · simp [En51, gFn, D1, D2, twV]
  · -- undo
    obtain ⟨v, s3, s4, D1, D2, rows', A⟩ := deed_undo (what := x.va) k1 L2.wf
    obtain ⟨a', ps', L4⟩ := L2.deed2 A
    obtain ⟨s5, E5, L5⟩ := fin (e10' := some (.str "undo")) (e12' := some x.va) L4
    refine ⟨_, some (.str "undo"), some x.va, s5, pre ?_, L5⟩
    refine sq (ε1 := En51 e0 n q (some q2) e8 e9 (some (.str "undo")) e11 (some x.va) e13 (some (.ref q2.i)) (some (.ref q2.r)) (some (.ref q2.p))) (s1 := s2) ?_ ?_
    · simp [En51]
    refine sq (ε1 := En51 e0 n q (some ⟨q2.i, a', q2.b, q2.r, q2.p, rows', ps'⟩) e8 e9 (some (.str "undo")) e11 (some x.va) e13 (some (.ref q2.i)) (some (.ref q2.r)) (some (.ref q2.p))) (s1 := s4) ?_ E5
    · simp [En51, gFn, D1, D2, twV]
  · -- ask
    have A := ask_same (ε := En51 e0 n q (some q2) e8 e9 (some (.str "ask")) e11 (some x.va) e13 (some (.ref q2.i)) (some (.ref q2.r)) (some (.ref q2.p))) (k := 14) (kr := 15) (kw := 12) k1 L2.wf h2 hx rfl rfl rfl rfl
    obtain ⟨s5, E5, L5⟩ := fin (e10' := some (.str "ask")) (e12' := some x.va) (L2.more (Nat.le_succ _))
    refine ⟨_, some (.str "ask"), some x.va, s5, pre ?_, L5⟩
    refine sq (ε1 := En51 e0 n q (some q2) e8 e9 (some (.str "ask")) e11 (some x.va) e13 (some (.ref q2.i)) (some (.ref q2.r)) (some (.ref q2.p))) (s1 := s2) ?_ ?_
    · simp [En51]
    refine sq (ε1 := En51 e0 n q (some q2) e8 e9 (some (.str "ask")) e11 (some x.va) e13 (some (.ref q2.i)) (some (.ref q2.r)) (some (.ref q2.p))) (s1 := s2) ?_ E5
    · have z2 : (dTB (dBin (gEq false) (dV 10) (dC (.str "ask")))) (En51 e0 n q (some q2) e8 e9 (some (.str "ask")) e11 (some x.va) e13 (some (.ref q2.i)) (some (.ref q2.r)) (some (.ref q2.p))) s2 = .ok true s2 := by simp [En51]
      rw [e_ifS, z2, fl_ok, if_pos rfl]
      exact A
/-! ### the loops -/
theorem loop51a {k : Nat} (h : LS C s n 0 q none) (h1 : 1 ≤ n) (h2 : n ≤ 1000) (hk : k ≤ 300) (hq : q.rows.length = 0) : ∃ q' e8' e9' s', lp none (fBody (dgName 8) (b_law_L1 C)) ((List.range k).map fun i => Va.int (i : Nat)) (En51 e0 n q none e8 e9 e10 e11 e12 e13 e14 e15 e16) s = .nx (En51 e0 n q' none e8' e9' e10 e11 e12 e13 e14 e15 e16) s' ∧ LS C s' n 300 q' none := by
  obtain ⟨ε', s', L, q', e8', e9', e, LS', hl⟩ := lp_inv (fun i : Nat => Va.int (i : Nat)) (ck := none) (body := fBody (dgName 8) (b_law_L1 C)) (fun d ε s => ∃ q' e8' e9', ε = En51 e0 n q' none e8' e9' e10 e11 e12 e13 e14 e15 e16 ∧ LS C s n d.length q' none ∧ q'.rows.length = d.length) (fun _ _ _ _ => trivial) (List.range k) [] _ s ⟨q, e8, e9, rfl, h, hq⟩ (fun d x r ε s hd ⟨q', e8', e9', e, LS', hl⟩ => by
    have hl2 := congrArg List.length hd
    rw [List.nil_append, List.length_range, List.length_append, List.length_cons] at hl2
    subst e
    obtain ⟨q2, f9, s2, E, L2, l2⟩ := turn1 (e0 := e0) (e8 := some (.int (x : Nat))) (e9 := e9') (e10 := e10) (e11 := e11) (e12 := e12) (e13 := e13) (e14 := e14) (e15 := e15) (e16 := e16) LS' h1 h2 (by omega) (by omega)
    refine ⟨_, s2, ?_, q2, some (.int (x : Nat)), f9, rfl, by rw [List.length_append, List.length_singleton]; exact L2, by rw [List.length_append, List.length_singleton, l2, hl]⟩
    rw [e_fBody, e_dgName]
    exact E)
  subst e
  rw [List.nil_append, List.length_range] at LS'
  exact ⟨q', e8', e9', s', L, LS'.more hk⟩
theorem loop51b {k : Nat} (h : LS C s n m q o) (h1 : 1 ≤ n) (h2 : n ≤ 1000) (hm : m + k ≤ 1000) : ∃ q' o' e8' e10' e11' e12' e13' s', lp none (fBody (dgName 8) (b_law_L2 C)) ((List.range k).map fun i => Va.int (i : Nat)) (En51 e0 n q o e8 e9 e10 e11 e12 e13 e14 e15 e16) s = .nx (En51 e0 n q' o' e8' e9 e10' e11' e12' e13' e14 e15 e16) s' ∧ LS C s' n (m + k) q' o' := by
  obtain ⟨ε', s', L, q', o', e8', e10', e11', e12', e13', e, LS'⟩ := lp_inv (fun i : Nat => Va.int (i : Nat)) (ck := none) (body := fBody (dgName 8) (b_law_L2 C)) (fun d ε s => ∃ q' o' e8' e10' e11' e12' e13', ε = En51 e0 n q' o' e8' e9 e10' e11' e12' e13' e14 e15 e16 ∧ LS C s n (m + d.length) q' o') (fun _ _ _ _ => trivial) (List.range k) [] _ s ⟨q, o, e8, e10, e11, e12, e13, rfl, h⟩ (fun d x r ε s hd ⟨q', o', e8', e10', e11', e12', e13', e, LS'⟩ => by
    have hl2 := congrArg List.length hd
    rw [List.nil_append, List.length_range, List.length_append, List.length_cons] at hl2
    subst e
    obtain ⟨q2, o2, f10, f11, f12, f13, s2, E, L2⟩ := turn2 (e0 := e0) (e8 := some (.int (x : Nat))) (e9 := e9) (e10 := e10') (e11 := e11') (e12 := e12') (e13 := e13') (e14 := e14) (e15 := e15) (e16 := e16) LS' h1 h2 (by omega)
    refine ⟨_, s2, ?_, q2, o2, some (.int (x : Nat)), f10, f11, f12, f13, rfl, by rw [List.length_append, List.length_singleton, ← Nat.add_assoc]; exact L2⟩
    rw [e_fBody, e_dgName]
    exact E)
  subst e
  rw [List.nil_append, List.length_range] at LS'
  exact ⟨q', o', e8', e10', e11', e12', e13', s', L, LS'⟩
theorem loop51c {k : Nat} {q2 : Dg} (h : LS C s n m q (some q2)) (h1 : 1 ≤ n) (h2 : n ≤ 1000) (hm : m + k ≤ 1000) : ∃ ε' s', lp none (fBody (dgName 8) (b_law_L3 C)) ((List.range k).map fun i => Va.int (i : Nat)) (En51 e0 n q (some q2) e8 e9 e10 e11 e12 e13 (some (.ref q2.i)) (some (.ref q2.r)) (some (.ref q2.p))) s = .nx ε' s' := by
  obtain ⟨ε', s', L, _⟩ := lp_inv (fun i : Nat => Va.int (i : Nat)) (ck := none) (body := fBody (dgName 8) (b_law_L3 C)) (fun d ε s => ∃ q2' e8' e10' e12', ε = En51 e0 n q (some q2') e8' e9 e10' e11 e12' e13 (some (.ref q2'.i)) (some (.ref q2'.r)) (some (.ref q2'.p)) ∧ LS C s n (m + d.length) q (some q2')) (fun _ _ _ _ => trivial) (List.range k) [] _ s ⟨q2, e8, e10, e12, rfl, h⟩ (fun d x r ε s hd ⟨q', e8', e10', e12', e, LS'⟩ => by
    have hl2 := congrArg List.length hd
    rw [List.nil_append, List.length_range, List.length_append, List.length_cons] at hl2
    subst e
    obtain ⟨q3, f10, f12, s2, E, L2⟩ := turnC (e0 := e0) (e8 := some (.int (x : Nat))) (e9 := e9) (e10 := e10') (e11 := e11) (e12 := e12') (e13 := e13) LS' h1 h2 (by omega)
    refine ⟨_, s2, ?_, q3, some (.int (x : Nat)), f10, f12, rfl, by rw [List.length_append, List.length_singleton, ← Nat.add_assoc]; exact L2⟩
    rw [e_fBody, e_dgName]
    exact E)
  exact ⟨ε', s', L⟩
end
end Dn

set_option Elab.async false
set_option linter.all false
set_option maxRecDepth 100000
set_option maxHeartbeats 1000000
/-! k51: the loops, the law. -/
namespace Dn
open PySem PySem.Spec PyProof.Rows L2
section
variable {C : Addr} {s s1 s2 : Sto} {n m : Nat} {q q' : Dg} {o : Option Dg} {e0 e8 e9 e10 e11 e12 e13 e14 e15 e16 : Option Va}
/-! ### the law -/
theorem rest12 {q2 : Dg} (h : LS C s n m q (some q2)) (h1 : 1 ≤ n) (h2 : n ≤ 1000) (hm : m ≤ 500) : ∃ s', r_law_12 C (En51 e0 n q (some q2) e8 e9 e10 e11 e12 e13 (some (.ref q2.i)) (some (.ref q2.r)) (some (.ref q2.p))) s = .ret (.bl true) s' := by
  obtain ⟨d, s1, E1, d0, d1, L1⟩ := h.draw (k := 2) (by decide) (by decide)
  have A2 : gIx (.lst [.int 4, .int 45]) (.int d) s1 = .ok (.int ([4, 45].getD d.toNat 0)) s1 := by rw [g_ix_lst, at2 d0 d1]
  have hA : [(4 : Int), 45].getD d.toNat 0 = 4 ∨ [(4 : Int), 45].getD d.toNat 0 = 45 := by
    have := getD_mem (xs := [(4 : Int), 45]) (d := 0) (show d.toNat < 2 by omega)
    simpa using this
  generalize [(4 : Int), 45].getD d.toNat 0 = A at A2 hA
  obtain ⟨k, s2, E2, k0, k1, L2⟩ := L1.draw (k := A) (by omega) (by omega)
  obtain ⟨k', rfl⟩ : ∃ k' : Nat, k = k' := ⟨k.toNat, by omega⟩
  obtain ⟨ε', s3, L3⟩ := loop51c (e0 := e0) (e8 := e8) (e9 := e9) (e10 := e10) (e11 := e11) (e12 := e12) (e13 := e13) (k := k') L2 h1 h2 (by omega)
  have hr : inR (k' : Int) := ⟨by omega, by omega⟩
  refine ⟨s3, ?_⟩
  unfold r_law_12
  refine sq (ε1 := ε') (s1 := s3) ?_ (by simp)
  rw [e_for]
  have D : dRg1 (dCons (dApp (gFn 2 F_l_draw) (dCons (dV 1) (dCons (dBin gIx (dLst false (dCons (dC (.int 4)) (dCons (dC (.int 45)) dNil))) (dApp (gFn 2 F_l_draw) (dCons (dV 1) (dCons (dC (.int 2)) dNil)))) dNil))) dNil) (En51 e0 n q (some q2) e8 e9 e10 e11 e12 e13 (some (.ref q2.i)) (some (.ref q2.r)) (some (.ref q2.p))) s = .ok (none, (List.range k').map fun i => Va.int (i : Nat)) s2 := by
    simp [En51, gFn, E1, A2, E2, hr, rgA_nats, -g_ix_lst]
  rw [D, fl_ok]
  exact L3
theorem rest9 (h : LS C s n m q o) (h1 : 1 ≤ n) (h2 : n ≤ 1000) (hm : m ≤ 500) : ∃ s', r_law_9 C (En51 e0 n q o e8 e9 e10 e11 e12 e13 e14 e15 e16) s = .ret (.bl true) s' := by
  unfold r_law_9
  cases o with
  | none =>
    have A := recs_same (ε := En51 e0 n q none e8 e9 e10 e11 e12 e13 e14 e15 e16) (k := 4) (kr := 5) h.pr h.wf rfl rfl
    have z : dTB (dBin (gIs false) (dV 7) (dC .non)) (En51 e0 n q none e8 e9 e10 e11 e12 e13 e14 e15 e16) s = .ok true s := by simp [En51, twV, gIs]
    refine ⟨s ++ [.lst (q.rows.map Rec.va)], ?_⟩
    rw [e_seq, e_ifS, z, fl_ok, if_pos rfl, e_ret, A, fl_ok]
  | some q2 =>
    have z : dTB (dBin (gIs false) (dV 7) (dC .non)) (En51 e0 n q (some q2) e8 e9 e10 e11 e12 e13 e14 e15 e16) s = .ok false s := by simp [En51, twV, gIs]
    obtain ⟨k1, k2, k3⟩ := h.tw q2 rfl
    have A := recs_same (ε := En51 e0 n q (some q2) e8 e9 e10 e11 e12 e13 (some (.ref q2.i)) (some (.ref q2.r)) (some (.ref q2.p))) (k := 14) (kr := 15) k1 h.wf rfl rfl
    obtain ⟨s', R⟩ := rest12 (e0 := e0) (e8 := e8) (e9 := e9) (e10 := e10) (e11 := e11) (e12 := e12) (e13 := e13) (h.push (rs := q2.rows)) h1 h2 hm
    refine ⟨s', ?_⟩
    refine sq (ε1 := En51 e0 n q (some q2) e8 e9 e10 e11 e12 e13 e14 e15 e16) (s1 := s) ?_ ?_
    · rw [e_ifS, z, fl_ok, if_neg (by decide), e_next]
    refine sq (ε1 := En51 e0 n q (some q2) e8 e9 e10 e11 e12 e13 (some (.ref q2.i)) (some (.ref q2.r)) (some (.ref q2.p))) (s1 := s) (by simp [sAsg, dgTup, En51, twV, setAll]) ?_
    unfold r_law_11
    refine sq (ε1 := En51 e0 n q (some q2) e8 e9 e10 e11 e12 e13 (some (.ref q2.i)) (some (.ref q2.r)) (some (.ref q2.p))) (s1 := s ++ [.lst (q2.rows.map Rec.va)]) ?_ ?_
    rotate_left
    · exact R
    rw [e_ifS, e_Not, e_Tr, A]
    simp [truA]
theorem rest8 (h : LS C s n m q o) (h1 : 1 ≤ n) (h2 : n ≤ 1000) (hm : m ≤ 300) : ∃ s', r_law_8 C (En51 e0 n q o e8 e9 e10 e11 e12 e13 e14 e15 e16) s = .ret (.bl true) s' := by
  obtain ⟨k, s2, E2, k0, k1, L2⟩ := h.draw (k := 41) (by decide) (by decide)
  obtain ⟨k', rfl⟩ : ∃ k' : Nat, k = k' := ⟨k.toNat, by omega⟩
  obtain ⟨q', o', f8, f10, f11, f12, f13, s3, E3, L3⟩ := loop51b (e0 := e0) (e8 := e8) (e9 := e9) (e10 := e10) (e11 := e11) (e12 := e12) (e13 := e13) (e14 := e14) (e15 := e15) (e16 := e16) (k := k') L2 h1 h2 (by omega)
  obtain ⟨s4, R⟩ := rest9 (e0 := e0) (e8 := f8) (e9 := e9) (e10 := f10) (e11 := f11) (e12 := f12) (e13 := f13) (e14 := e14) (e15 := e15) (e16 := e16) L3 h1 h2 (by omega)
  have hr : inR (k' : Int) := ⟨by omega, by omega⟩
  refine ⟨s4, ?_⟩
  unfold r_law_8
  refine sq (ε1 := En51 e0 n q' o' f8 e9 f10 f11 f12 f13 e14 e15 e16) (s1 := s3) ?_ ?_
  rotate_left
  · exact R
  rw [e_for]
  have D : dRg1 (dCons (dApp (gFn 2 F_l_draw) (dCons (dV 1) (dCons (dC (.int 41)) dNil))) dNil) (En51 e0 n q o e8 e9 e10 e11 e12 e13 e14 e15 e16) s = .ok (none, (List.range k').map fun i => Va.int (i : Nat)) s2 := by
    simp [En51, gFn, E2, hr, rgA_nats]
  rw [D, fl_ok]
  exact E3
theorem rest7 (h : LS C s n 0 q none) (h1 : 1 ≤ n) (h2 : n ≤ 1000) (hq : q.rows.length = 0) : ∃ s', r_law_7 C (En51 e0 n q none e8 e9 e10 e11 e12 e13 e14 e15 e16) s = .ret (.bl true) s' := by
  obtain ⟨d, s1, E1, d0, d1, L1⟩ := h.draw (k := 30) (by decide) (by decide)
  unfold r_law_7
  by_cases hd : d = 0
  · obtain ⟨k, s2, E2, k0, k1, L2⟩ := L1.draw (k := 3) (by decide) (by decide)
    obtain ⟨k', hk'⟩ : ∃ k' : Nat, 298 + k = k' := ⟨(298 + k).toNat, by omega⟩
    obtain ⟨q', f8, f9, s3, E3, L3⟩ := loop51a (e0 := e0) (e8 := e8) (e9 := e9) (e10 := e10) (e11 := e11) (e12 := e12) (e13 := e13) (e14 := e14) (e15 := e15) (e16 := e16) (k := k') L2 h1 h2 (by omega) hq
    obtain ⟨s4, R⟩ := rest8 (e0 := e0) (e8 := f8) (e9 := f9) (e10 := e10) (e11 := e11) (e12 := e12) (e13 := e13) (e14 := e14) (e15 := e15) (e16 := e16) L3 h1 h2 (Nat.le_refl _)
    have hr : inR (k' : Int) := ⟨by omega, by omega⟩
    refine ⟨s4, ?_⟩
    refine sq (ε1 := En51 e0 n q' none f8 f9 e10 e11 e12 e13 e14 e15 e16) (s1 := s3) ?_ ?_
    rotate_left
    · exact R
    have z : dTB (dBin (gEq false) (dApp (gFn 2 F_l_draw) (dCons (dV 1) (dCons (dC (.int 30)) dNil))) (dC (.int 0))) (En51 e0 n q none e8 e9 e10 e11 e12 e13 e14 e15 e16) s = .ok true s1 := by simp [En51, gFn, E1, hd]
    have D : dRg1 (dCons (dBin (gAdd false) (dC (.int 298)) (dApp (gFn 2 F_l_draw) (dCons (dV 1) (dCons (dC (.int 3)) dNil)))) dNil) (En51 e0 n q none e8 e9 e10 e11 e12 e13 e14 e15 e16) s1 = .ok (none, (List.range k').map fun i => Va.int (i : Nat)) s2 := by
      simp [En51, gFn, E2, hr, rgA_nats, hk']
    rw [e_ifS, z, fl_ok, if_pos rfl, e_for, D, fl_ok]
    exact E3
  · obtain ⟨s4, R⟩ := rest8 (e0 := e0) (e8 := e8) (e9 := e9) (e10 := e10) (e11 := e11) (e12 := e12) (e13 := e13) (e14 := e14) (e15 := e15) (e16 := e16) L1 h1 h2 (by omega)
    refine ⟨s4, ?_⟩
    refine sq (ε1 := En51 e0 n q none e8 e9 e10 e11 e12 e13 e14 e15 e16) (s1 := s1) ?_ ?_
    rotate_left
    · exact R
    have z : dTB (dBin (gEq false) (dApp (gFn 2 F_l_draw) (dCons (dV 1) (dCons (dC (.int 30)) dNil))) (dC (.int 0))) (En51 e0 n q none e8 e9 e10 e11 e12 e13 e14 e15 e16) s = .ok false s1 := by simp [En51, gFn, E1, hd]
    rw [e_ifS, z, fl_ok, if_neg (by decide), e_next]
end
theorem law_run (C : Addr) (ns : List Int) : ∃ s0, b_law C (startA 17 [.ext (ns.map .int)]) [] = .ret (.bl true) s0 := by
  obtain ⟨n, u, e1, n1, n2⟩ := units1 (t := Stm.mk0 ns)
  have l0 : LS C ([u.ob, .ins C (digF n 2 3), .lst [], .lst [], .lst [], .lst []]) n 0 ⟨1, 2, 3, 4, 5, [], []⟩ none := by
    have d1 := dig_new (C := C) (s := [u.ob]) (n := n)
    have w1 := wf_new (C := C) (n := n) (wf1 (t := u))
    have w2 := wf_push w1 (o := .lst []) trivial
    have w3 := wf_push w2 (o := .lst []) trivial
    have d2 := d1.keep (s1 := ([u.ob] ++ [.ins C (digF n 2 3), .lst [], .lst []] ++ [.lst []]) ++ [.lst []]) (D := []) ((Chg.push (D := [])).trans (Chg.push (D := [])) (by simp)) (by simp)
    exact ⟨⟨u, stAt_of rfl⟩, w3, ⟨d2, rfl, rfl, by decide, ⟨Nat.zero_le _, Nat.le_refl _⟩, by simp, by simp⟩, by decide, fun q2 e => by cases e⟩
  obtain ⟨s', R⟩ := rest7 (e0 := some (.ext (ns.map .int))) (e8 := none) (e9 := none) (e10 := none) (e11 := none) (e12 := none) (e13 := none) (e14 := none) (e15 := none) (e16 := none) l0 n1 (by omega) rfl
  refine ⟨s', ?_⟩
  have e0 : startA 17 [.ext (ns.map .int)] = [some (.ext (ns.map .int)), none, none, none, none, none, none, none, none, none, none, none, none, none, none, none, none] := rfl
  rw [e0]
  unfold b_law
  refine sq (ε1 := [some (.ext (ns.map .int)), some (.ref 0), none, none, none, none, none, none, none, none, none, none, none, none, none, none, none]) (s1 := [(Stm.mk0 ns).ob]) ?_ ?_
  · simp [gFn, stream1]
  refine sq (ε1 := [some (.ext (ns.map .int)), some (.ref 0), some (.int n), none, none, none, none, none, none, none, none, none, none, none, none, none, none]) (s1 := [u.ob]) ?_ ?_
  · simp [gFn, e1]
  refine sq (ε1 := [some (.ext (ns.map .int)), some (.ref 0), some (.int n), some wsV, none, none, none, none, none, none, none, none, none, none, none, none, none]) (s1 := [u.ob]) rfl ?_
  refine sq (ε1 := [some (.ext (ns.map .int)), some (.ref 0), some (.int n), some wsV, some (.ref 1), none, none, none, none, none, none, none, none, none, none, none, none]) (s1 := [u.ob, .ins C (digF n 2 3), .lst [], .lst []]) ?_ ?_
  · rw [e_set, make_eq (n := n) rfl]
    rfl
  refine sq (ε1 := [some (.ext (ns.map .int)), some (.ref 0), some (.int n), some wsV, some (.ref 1), some (.ref 4), none, none, none, none, none, none, none, none, none, none, none]) (s1 := [u.ob, .ins C (digF n 2 3), .lst [], .lst [], .lst []]) rfl ?_
  refine sq (ε1 := [some (.ext (ns.map .int)), some (.ref 0), some (.int n), some wsV, some (.ref 1), some (.ref 4), some (.ref 5), none, none, none, none, none, none, none, none, none, none]) (s1 := [u.ob, .ins C (digF n 2 3), .lst [], .lst [], .lst [], .lst []]) rfl ?_
  refine sq (ε1 := [some (.ext (ns.map .int)), some (.ref 0), some (.int n), some wsV, some (.ref 1), some (.ref 4), some (.ref 5), some .non, none, none, none, none, none, none, none, none, none]) (s1 := [u.ob, .ins C (digF n 2 3), .lst [], .lst [], .lst [], .lst []]) rfl ?_
  exact R
theorem fin_law {C : Addr} (args : List Va) (s : Sto) (wf : WFn s.length s) (wa : vasB s.length args) (hl : args.length = 1) : Fin s.length (b_law C (startA 17 args) s) (F_yes args s) := by
  unfold F_yes
  split
  · split
    · rename_i e
      rw [intsOf_eq e]
      obtain ⟨s0, h⟩ := law_run C _
      exact Fin.yes h
    · exact .bad
  · exact .bad
end Dn

set_option Elab.async false
set_option linter.all false
set_option maxRecDepth 100000
set_option maxHeartbeats 4000000
/-! the rows. -/
namespace Dn
open PySem PySem.Spec PyProof.Rows L2
def noCls : Cls0 := fun _ => .none

theorem cal_bad {P : Program} {w : World} {K : PySem.W.Frag} {mg : Str → Option Value} {base : Heap} {CL : Cls0} {x : Str} {st : Stmt} {ps : List Str} {k : Nat} {F0 : List Va → Sto → Rs Va} (T : Txt K mg x st ps) (hF : ∀ args s, F0 args s = .bad) : Cal P w K mg base CL x ps k F0 := by
  obtain ⟨f, fd, F, hm, hbn⟩ := T
  refine ⟨f, fd, ⟨fun vs H Q E h => ?_, fun A outer s H args us vs Q E _ _ _ _ h => ?_⟩, hm, F.kp, hbn⟩
  · obtain ⟨_, _, _, _, args, _, _, _, hp⟩ := h
    rw [hF] at hp
    exact hp.elim
  · obtain ⟨_, _, _, _, args, _, _, _, hp⟩ := h
    rw [hF] at hp
    exact hp.elim
theorem F_l_same0 (args : List Va) (s : Sto) : F_l_same 0 args s = .bad := by
  unfold F_l_same
  split
  · rw [if_neg (fun h => Nat.not_lt_zero _ h.2.2)]
  · rfl
theorem rg_tupK {X : Cx} {W : WX} {k : Nat} {K' : PySem.W.Frag} {es : List Expr} {j : Nat} {pos : Pos} {is : List Nat} {u : TGs} {n : Nat} (hK : X.K = K') (O : Okc X W k) (h : RGs X es u is) (hn : (assignEach es X.env).length = n := by rfl) (hst : (assignEach es X.env).findIdx? (·.1) = none := by rfl) (hl : is.length = n := by rfl) : RG X (.Tuple es j pos) (gTup K' n u) (dgTup is) is := by
  subst hK
  exact rg_tup O h hn hst hl
theorem yes_imp {K : PySem.W.Frag} {CL : Cls0} (vs : List V) (H : Hp) (Q : VK) (E : XK) (q : spF K noCls 1 F_yes vs H Q E) : spF K CL 1 F_yes vs H Q E := by
  obtain ⟨F, G, as, s, args, S, r, l, p⟩ := q
  refine ⟨F, G, as, s, args, S, r, l, ?_⟩
  unfold F_yes at p ⊢
  split at p <;> (try split at p) <;> first | exact p | exact p.elim
theorem exm_two {K : PySem.W.Frag} {R S : Addr} {b : Bool} (h1 : PySem.W.subIn K (.ref S) (.type "BaseException") = some true) (h2 : PySem.W.isClsIn K S = true) (h3 : PySem.W.typeIn K (.ref S) = some (.type "type")) (h4 : PySem.W.subIn K (.ref R) (.ref S) = some b) :
    PySem.W.exmOne K (.ref R) (.ref S) = some b := by
  have e1 : (PySem.W.subIn K (.ref S) (.type "BaseException") == some true) = true := by rw [h1] <;> rfl
  have e2 : ((PySem.W.clsIn K S).isSome && PySem.W.typeIn K (.ref S) == some (.type "type")) = true := by
    have h2' : (PySem.W.clsIn K S).isSome = true := h2
    rw [h2', h3] <;> rfl
  show (if (PySem.W.subIn K (.ref S) (.type "BaseException") == some true) = true then (if ((PySem.W.clsIn K S).isSome && PySem.W.typeIn K (.ref S) == some (.type "type")) = true then PySem.W.subIn K (.ref R) (.ref S) else none) else none) = some b
  rw [if_pos e1, if_pos e2, h4]
def topS (i : Nat) : Stmt := PySem.Challenge.pw_digteller_k51_whole_digs.main.body.getD i (.Pass ⟨0, 0, 0, 0⟩)
abbrev s_Dig_init : Stmt := inClass (topS 15) 0
abbrev N_Dig_init : List Str := ["self", "n"]
abbrev P_Dig_init : List Str := ["self", "n"]
theorem sc_Dig_init : FnScope N_Dig_init P_Dig_init (defScope s_Dig_init) := ⟨rfl, rfl, rfl, by decide +kernel, rfl, by decide +kernel, by decide +kernel⟩
abbrev s_Dig_add : Stmt := inClass (topS 15) 1
abbrev N_Dig_add : List Str := ["self", "record"]
abbrev P_Dig_add : List Str := ["self", "record"]
theorem sc_Dig_add : FnScope N_Dig_add P_Dig_add (defScope s_Dig_add) := ⟨rfl, rfl, rfl, by decide +kernel, rfl, by decide +kernel, by decide +kernel⟩
abbrev s_Dig_records : Stmt := inClass (topS 15) 4
abbrev N_Dig_records : List Str := ["self"]
abbrev P_Dig_records : List Str := ["self"]
theorem sc_Dig_records : FnScope N_Dig_records P_Dig_records (defScope s_Dig_records) := ⟨rfl, rfl, rfl, by decide +kernel, rfl, by decide +kernel, by decide +kernel⟩
abbrev s_Dig_copy : Stmt := inClass (topS 15) 6
abbrev N_Dig_copy : List Str := ["self", "dig", "rows"]
abbrev P_Dig_copy : List Str := ["self"]
theorem sc_Dig_copy : FnScope N_Dig_copy P_Dig_copy (defScope s_Dig_copy) := ⟨rfl, rfl, rfl, by decide +kernel, rfl, by decide +kernel, by decide +kernel⟩
abbrev s_l_stream : Stmt := topS 17
abbrev N_l_stream : List Str := ["script", "mixed", "cell"]
abbrev P_l_stream : List Str := ["script"]
theorem sc_l_stream : FnScope N_l_stream P_l_stream (defScope s_l_stream) := ⟨rfl, rfl, rfl, by decide +kernel, rfl, by decide +kernel, by decide +kernel⟩
abbrev s_l_draw : Stmt := topS 18
abbrev N_l_draw : List Str := ["stream", "many", "value"]
abbrev P_l_draw : List Str := ["stream", "many"]
theorem sc_l_draw : FnScope N_l_draw P_l_draw (defScope s_l_draw) := ⟨rfl, rfl, rfl, by decide +kernel, rfl, by decide +kernel, by decide +kernel⟩
abbrev s_l_same : Stmt := topS 20
abbrev N_l_same : List Str := ["one", "two", "k"]
abbrev P_l_same : List Str := ["one", "two"]
theorem sc_l_same : FnScope N_l_same P_l_same (defScope s_l_same) := ⟨rfl, rfl, rfl, by decide +kernel, rfl, by decide +kernel, by decide +kernel⟩
abbrev s_l_units : Stmt := topS 21
abbrev N_l_units : List Str := ["stream"]
abbrev P_l_units : List Str := ["stream"]
theorem sc_l_units : FnScope N_l_units P_l_units (defScope s_l_units) := ⟨rfl, rfl, rfl, by decide +kernel, rfl, by decide +kernel, by decide +kernel⟩
abbrev s_l_pick : Stmt := topS 19
abbrev N_l_pick : List Str := ["stream", "rows"]
abbrev P_l_pick : List Str := ["stream", "rows"]
theorem sc_l_pick : FnScope N_l_pick P_l_pick (defScope s_l_pick) := ⟨rfl, rfl, rfl, by decide +kernel, rfl, by decide +kernel, by decide +kernel⟩
abbrev s_l_other : Stmt := topS 22
abbrev N_l_other : List Str := ["stream", "n", "a"]
abbrev P_l_other : List Str := ["stream", "n", "a"]
theorem sc_l_other : FnScope N_l_other P_l_other (defScope s_l_other) := ⟨rfl, rfl, rfl, by decide +kernel, rfl, by decide +kernel, by decide +kernel⟩
abbrev s_l_record : Stmt := topS 23
abbrev N_l_record : List Str := ["stream", "n", "words", "word", "a", "year", "b"]
abbrev P_l_record : List Str := ["stream", "n", "words"]
theorem sc_l_record : FnScope N_l_record P_l_record (defScope s_l_record) := ⟨rfl, rfl, rfl, by decide +kernel, rfl, by decide +kernel, by decide +kernel⟩
abbrev s_l_steps : Stmt := topS 26
abbrev N_l_steps : List Str := ["n", "records", "found", "record", "word"]
abbrev P_l_steps : List Str := ["n", "records"]
theorem sc_l_steps : FnScope N_l_steps P_l_steps (defScope s_l_steps) := ⟨rfl, rfl, rfl, by decide +kernel, rfl, by decide +kernel, by decide +kernel⟩
abbrev s_l_far : Stmt := topS 27
abbrev N_l_far : List Str := ["n", "steps", "begin", "found", "place", "k", "is_new", "one", "two", "more"]
abbrev P_l_far : List Str := ["n", "steps", "begin"]
theorem sc_l_far : FnScope N_l_far P_l_far (defScope s_l_far) := ⟨rfl, rfl, rfl, by decide +kernel, rfl, by decide +kernel, by decide +kernel⟩
abbrev s_l_holds : Stmt := topS 28
abbrev N_l_holds : List Str := ["n", "records"]
abbrev P_l_holds : List Str := ["n", "records"]
theorem sc_l_holds : FnScope N_l_holds P_l_holds (defScope s_l_holds) := ⟨rfl, rfl, rfl, by decide +kernel, rfl, by decide +kernel, by decide +kernel⟩
abbrev s_l_reaches : Stmt := topS 29
abbrev N_l_reaches : List Str := ["n", "records", "steps", "first", "last", "one", "two", "more", "unit"]
abbrev P_l_reaches : List Str := ["n", "records"]
theorem sc_l_reaches : FnScope N_l_reaches P_l_reaches (defScope s_l_reaches) := ⟨rfl, rfl, rfl, by decide +kernel, rfl, by decide +kernel, by decide +kernel⟩
abbrev s_l_change : Stmt := topS 30
abbrev N_l_change : List Str := ["n", "rows", "record", "one", "two", "unit"]
abbrev P_l_change : List Str := ["n", "rows", "record"]
theorem sc_l_change : FnScope N_l_change P_l_change (defScope s_l_change) := ⟨rfl, rfl, rfl, by decide +kernel, rfl, by decide +kernel, by decide +kernel⟩
abbrev s_least_steps : Stmt := topS 7
abbrev N_least_steps : List Str := ["record", "origin", "word"]
abbrev P_least_steps : List Str := ["record", "origin"]
theorem sc_least_steps : FnScope N_least_steps P_least_steps (defScope s_least_steps) := ⟨rfl, rfl, rfl, by decide +kernel, rfl, by decide +kernel, by decide +kernel⟩
abbrev s_greatest_ways : Stmt := topS 8
abbrev N_greatest_ways : List Str := ["n", "steps", "table", "_", "place", "one", "two", "more", "over", "first", "second"]
abbrev P_greatest_ways : List Str := ["n", "steps"]
theorem sc_greatest_ways : FnScope N_greatest_ways P_greatest_ways (defScope s_greatest_ways) := ⟨rfl, rfl, rfl, by decide +kernel, rfl, by decide +kernel, by decide +kernel⟩
abbrev s_ways : Stmt := topS 9
abbrev N_ways : List Str := ["n", "records", "steps", "record"]
abbrev P_ways : List Str := ["n", "records"]
theorem sc_ways : FnScope N_ways P_ways (defScope s_ways) := ⟨rfl, rfl, rfl, by decide +kernel, rfl, by decide +kernel, by decide +kernel⟩
abbrev s_is_round : Stmt := topS 10
abbrev N_is_round : List Str := ["table", "place"]
abbrev P_is_round : List Str := ["table"]
theorem sc_is_round : FnScope N_is_round P_is_round (defScope s_is_round) := ⟨rfl, rfl, rfl, by decide +kernel, rfl, by decide +kernel, by decide +kernel⟩
abbrev s_do_hold : Stmt := topS 11
abbrev N_do_hold : List Str := ["n", "records"]
abbrev P_do_hold : List Str := ["n", "records"]
theorem sc_do_hold : FnScope N_do_hold P_do_hold (defScope s_do_hold) := ⟨rfl, rfl, rfl, by decide +kernel, rfl, by decide +kernel, by decide +kernel⟩
abbrev s_sure_ways : Stmt := topS 12
abbrev N_sure_ways : List Str := ["n", "records", "table"]
abbrev P_sure_ways : List Str := ["n", "records"]
theorem sc_sure_ways : FnScope N_sure_ways P_sure_ways (defScope s_sure_ways) := ⟨rfl, rfl, rfl, by decide +kernel, rfl, by decide +kernel, by decide +kernel⟩
abbrev s_ends : Stmt := topS 13
abbrev N_ends : List Str := ["table", "one", "two", "back"]
abbrev P_ends : List Str := ["table", "one", "two"]
theorem sc_ends : FnScope N_ends P_ends (defScope s_ends) := ⟨rfl, rfl, rfl, by decide +kernel, rfl, by decide +kernel, by decide +kernel⟩
abbrev s_Dig_would_change : Stmt := inClass (topS 15) 5
abbrev N_Dig_would_change : List Str := ["self", "record", "now", "then", "unit"]
abbrev P_Dig_would_change : List Str := ["self", "record"]
theorem sc_Dig_would_change : FnScope N_Dig_would_change P_Dig_would_change (defScope s_Dig_would_change) := ⟨rfl, rfl, rfl, by decide +kernel, rfl, by decide +kernel, by decide +kernel⟩
abbrev s_l_told : Stmt := topS 31
abbrev N_l_told : List Str := ["dig", "record"]
abbrev P_l_told : List Str := ["dig", "record"]
theorem sc_l_told : FnScope N_l_told P_l_told (defScope s_l_told) := ⟨rfl, rfl, rfl, by decide +kernel, rfl, by decide +kernel, by decide +kernel⟩
abbrev s_Dig_strike : Stmt := inClass (topS 15) 2
abbrev N_Dig_strike : List Str := ["self", "number"]
abbrev P_Dig_strike : List Str := ["self", "number"]
theorem sc_Dig_strike : FnScope N_Dig_strike P_Dig_strike (defScope s_Dig_strike) := ⟨rfl, rfl, rfl, by decide +kernel, rfl, by decide +kernel, by decide +kernel⟩
abbrev s_Dig_undo : Stmt := inClass (topS 15) 3
abbrev N_Dig_undo : List Str := ["self"]
abbrev P_Dig_undo : List Str := ["self"]
theorem sc_Dig_undo : FnScope N_Dig_undo P_Dig_undo (defScope s_Dig_undo) := ⟨rfl, rfl, rfl, by decide +kernel, rfl, by decide +kernel, by decide +kernel⟩
abbrev s_l_done : Stmt := topS 32
abbrev N_l_done : List Str := ["dig", "word", "what"]
abbrev P_l_done : List Str := ["dig", "word", "what"]
theorem sc_l_done : FnScope N_l_done P_l_done (defScope s_l_done) := ⟨rfl, rfl, rfl, by decide +kernel, rfl, by decide +kernel, by decide +kernel⟩
abbrev s_l_due : Stmt := topS 33
abbrev N_l_due : List Str := ["rows", "past", "word", "what", "kept"]
abbrev P_l_due : List Str := ["rows", "past", "word", "what"]
theorem sc_l_due : FnScope N_l_due P_l_due (defScope s_l_due) := ⟨rfl, rfl, rfl, by decide +kernel, rfl, by decide +kernel, by decide +kernel⟩
abbrev s_law : Stmt := topS 34
abbrev N_law : List Str := ["script", "stream", "n", "words", "dig", "rows", "past", "twin", "k", "one", "word", "record", "what", "told", "other", "others", "before"]
abbrev P_law : List Str := ["script"]
theorem sc_law : FnScope N_law P_law (defScope s_law) := ⟨rfl, rfl, rfl, by decide +kernel, rfl, by decide +kernel, by decide +kernel⟩
section
variable {P : Program} {w : World} {K : PySem.W.Frag} {mg : Str → Option Value} {base : Heap} {CL : Cls0}
theorem ok_Dig_init {CDig : Addr} (T : Txi K CDig "Dig.__init__" s_Dig_init P_Dig_init) (T_Dig : ClT K mg "Dig" CDig ["n", "rows", "past"]) : Nal P w K mg base CL CDig P_Dig_init 1 (F_Dig_init CDig) :=
  nal_D T sc_Dig_init (b := (b_Dig_init CDig)) (fun f cdv A outer s H E O =>
  (rss_cons (rs_fld T_Dig (by decide +kernel) (re_var 0) (re_var 1))
  (rss_cons (rs_fld T_Dig (by decide +kernel) (re_var 0) (re_lst true ra_nil (Nat.le_of_ble_eq_true rfl)))
  (rss_one (rs_fld T_Dig (by decide +kernel) (re_var 0) (re_lst true ra_nil (Nat.le_of_ble_eq_true rfl))))))) fin_Dig_init
theorem ok_Dig_add {CDig : Addr} (T : Txm K CDig "add" "Dig.add" s_Dig_add P_Dig_add) (T_Dig : ClT K mg "Dig" CDig ["n", "rows", "past"]) (m_len : mg "len" = none) (m_list : mg "list" = none) {t_MOST_RECORDS : Tok} (m_MOST_RECORDS : mg "MOST_RECORDS" = some (.int 300 t_MOST_RECORDS)) (X_TooMany : Xcl K mg CL "TooMany") : Mal P w K mg base CL CDig "add" P_Dig_add 1 (F_Dig_add CDig) :=
  mal_D T sc_Dig_add (b := (b_Dig_add CDig)) (fun f cdv A outer s H E O =>
  (rss_cons (rs_if (rt_eq O.hu (re_len m_len (ra_cons (re_fld T_Dig (by decide +kernel) (re_var 0)) ra_nil)) (re_gInt rfl m_MOST_RECORDS)) (rss_one (rs_raiseX O X_TooMany)) rss_nil)
  (rss_cons (rs_expr (re_mAppend (re_fld T_Dig (by decide +kernel) (re_var 0)) (ra_cons (re_list O true m_list (ra_cons (re_fld T_Dig (by decide +kernel) (re_var 0)) ra_nil)) ra_nil)))
  (rss_one (rs_expr (re_mAppend (re_fld T_Dig (by decide +kernel) (re_var 0)) (ra_cons (re_var 1) ra_nil))))))) fin_Dig_add
theorem ok_Dig_records {CDig : Addr} (T : Txm K CDig "records" "Dig.records" s_Dig_records P_Dig_records) (T_Dig : ClT K mg "Dig" CDig ["n", "rows", "past"]) (m_list : mg "list" = none) : Mal P w K mg base CL CDig "records" P_Dig_records 1 (F_Dig_records CDig) :=
  mal_D T sc_Dig_records (b := (b_Dig_records CDig)) (fun f cdv A outer s H E O =>
  (rss_one (rs_ret (re_list O true m_list (ra_cons (re_fld T_Dig (by decide +kernel) (re_var 0)) ra_nil))))) fin_Dig_records
theorem ok_Dig_copy {CDig : Addr} (T : Txm K CDig "copy" "Dig.copy" s_Dig_copy P_Dig_copy) (T_Dig : ClT K mg "Dig" CDig ["n", "rows", "past"]) (Q_Dig : Nal P w K mg base CL CDig P_Dig_init 1 (F_Dig_init CDig)) (m_list : mg "list" = none) : Mal P w K mg base CL CDig "copy" P_Dig_copy 3 (F_Dig_copy CDig) :=
  mal_D T sc_Dig_copy (b := (b_Dig_copy CDig)) (fun f cdv A outer s H E O =>
  (rss_cons (rs_set (i := 1) O rfl (by first | exact .inl rfl | exact .inr rfl) (re_make O T_Dig Q_Dig (by decide) (ra_cons (re_fld T_Dig (by decide +kernel) (re_var 0)) ra_nil)))
  (rss_cons (rs_fld T_Dig (by decide +kernel) (re_var 1) (re_list O true m_list (ra_cons (re_fld T_Dig (by decide +kernel) (re_var 0)) ra_nil)))
  (rss_cons (rs_fld T_Dig (by decide +kernel) (re_var 1) (re_lc (own := [("rows", 2)]) O true (ri_seq (re_fld T_Dig (by decide +kernel) (re_var 0))) (blkOk_by (N := N_Dig_copy) (sc := defScope s_Dig_copy) (by decide +kernel)) (fun _ _ _ _ _ O' => (rg_name (i := 2) O' rfl (by first | exact .inl rfl | exact .inr rfl))) (fun _ _ _ _ _ O' => rts_nil) (fun _ _ _ _ _ O' => (re_list O' true m_list (ra_cons (re_var 2) ra_nil)))))
  (rss_one (rs_ret (re_var 1))))))) fin_Dig_copy
theorem ok_l_stream (T : Txt K mg "_law_stream" s_l_stream P_l_stream) (m_int : mg "int" = none) (m_list : mg "list" = none) : Cal P w K mg base CL "_law_stream" P_l_stream 1 F_l_stream :=
  cal_D T sc_l_stream (b := b_l_stream) (fun f cdv A outer s H E O =>
  (rss_cons (rs_set (i := 1) O rfl (by first | exact .inl rfl | exact .inr rfl) re_int)
  (rss_cons (rs_for O (ri_seq (re_var 0)) (rg_name (i := 2) O rfl (by first | exact .inl rfl | exact .inr rfl))
   (rss_one (rs_set (i := 1) O rfl (by first | exact .inl rfl | exact .inr rfl) (re_mod (re_intc m_int (ra_cons (re_add false (re_add false (re_mul false (re_var 1) re_int) (re_mod (re_intc m_int (ra_cons (re_var 2) ra_nil)) re_int)) re_int) ra_nil)) re_int))))
  (rss_one (rs_ret (re_lst true (ra_cons (re_list O false m_list (ra_cons (re_var 0) ra_nil)) (ra_cons re_int (ra_cons re_int (ra_cons (re_var 1) ra_nil)))))))))) fin_l_stream
theorem ok_l_draw (T : Txt K mg "_law_draw" s_l_draw P_l_draw) (m_abs : mg "abs" = none) (m_int : mg "int" = none) (m_len : mg "len" = none) : Cal P w K mg base CL "_law_draw" P_l_draw 1 F_l_draw :=
  cal_D T sc_l_draw (b := b_l_draw) (fun f cdv A outer s H E O =>
  (rss_cons (rs_if (PW.pt (rw_and (rt_eq O.hu (re_sub2 O.hu (re_var 0) re_int) re_int) (rw_and1 (rt_lt (re_sub2 O.hu (re_var 0) re_int) (re_len m_len (ra_cons (re_sub2 O.hu (re_var 0) re_int) ra_nil)))))) (rss_cons (rs_setIx O (re_var 0) re_int (re_abs m_abs (ra_cons (re_intc m_int (ra_cons (re_sub2 O.hu (re_sub2 O.hu (re_var 0) re_int) (re_sub2 O.hu (re_var 0) re_int)) ra_nil)) ra_nil)))
  (rss_one (rs_setIx O (re_var 0) re_int (re_add false (re_sub2 O.hu (re_var 0) re_int) re_int)))) rss_nil)
  (rss_cons (rs_if (rt_eq O.hu (re_sub2 O.hu (re_var 0) re_int) re_int) (rss_cons (rs_setIx O (re_var 0) re_int (re_mod (re_intc m_int (ra_cons (re_add false (re_mul false (re_sub2 O.hu (re_var 0) re_int) re_int) re_int) ra_nil)) re_int))
  (rss_one (rs_ret (re_mod (re_intc m_int (ra_cons (re_fdiv (re_sub2 O.hu (re_var 0) re_int) re_int) ra_nil)) (re_var 1))))) rss_nil)
  (rss_cons (rs_set (i := 2) O rfl (by first | exact .inl rfl | exact .inr rfl) (re_mod (re_intc m_int (ra_cons (re_sub2 O.hu (re_var 0) re_int) ra_nil)) (re_var 1)))
  (rss_cons (rs_setIx O (re_var 0) re_int (re_fdiv (re_sub2 O.hu (re_var 0) re_int) (re_var 1)))
  (rss_one (rs_ret (re_var 2)))))))) fin_l_draw
theorem ok1_l_same (T : Txt K mg "_law_same" s_l_same P_l_same) {d : Nat} (C_l_same : Cal P w K mg base CL "_law_same" P_l_same d (F_l_same d)) (m_all : mg "all" = none) (m_bool : mg "bool" = none) (m_int : mg "int" = none) (m_isinstance : mg "isinstance" = none) (m_len : mg "len" = none) (m_list : mg "list" = none) (m_range : mg "range" = none) (m_str : mg "str" = none) (m_tuple : mg "tuple" = none) : Cal P w K mg base CL "_law_same" P_l_same (d + 1) (F_l_same (d + 1)) :=
  cal_D T sc_l_same (b := b_l_same d) (fun f cdv A outer s H E O =>
  (rss_cons (rs_if (PW.pt (rw_or (rt_tr (re_isi m_isinstance m_tuple (by decide +kernel) (re_var 1))) (rw_or1 (rt_tr (re_isi m_isinstance m_list (by decide +kernel) (re_var 1)))))) (rss_cons (rs_if (PW.pt (rw_or (rt_ne O.hu (re_isi m_isinstance m_tuple (by decide +kernel) (re_var 0)) (re_isi m_isinstance m_tuple (by decide +kernel) (re_var 1))) (rw_or1 (rt_ne O.hu (re_isi m_isinstance m_list (by decide +kernel) (re_var 0)) (re_isi m_isinstance m_list (by decide +kernel) (re_var 1)))))) (rss_one (rs_ret re_bl)) rss_nil)
  (rss_one (rs_ret (re_and (re_eq O.hu (re_len m_len (ra_cons (re_var 0) ra_nil)) (re_len m_len (ra_cons (re_var 1) ra_nil))) (re_one (re_all O m_all (ra_cons (re_lc (own := [("k", 2)]) O false (ri_rg1 m_range (ra_cons (re_len m_len (ra_cons (re_var 1) ra_nil)) ra_nil)) (blkOk_by (N := N_l_same) (sc := defScope s_l_same) (by decide +kernel)) (fun _ _ _ _ _ O' => (rg_name (i := 2) O' rfl (by first | exact .inl rfl | exact .inr rfl))) (fun _ _ _ _ _ O' => rts_nil) (fun _ _ _ _ _ O' => (re_fn O' C_l_same (Nat.le_refl _) (ra_cons (re_sub2 O'.hu (re_var 0) (re_var 2)) (ra_cons (re_sub2 O'.hu (re_var 1) (re_var 2)) ra_nil))))) ra_nil))))))) rss_nil)
  (rss_cons (rs_if (rt_is (re_var 1) re_non) (rss_one (rs_ret (re_is (re_var 0) re_non))) rss_nil)
  (rss_cons (rs_if (rt_tr (re_isi m_isinstance m_str (by decide +kernel) (re_var 1))) (rss_one (rs_ret (re_and (re_isi m_isinstance m_str (by decide +kernel) (re_var 0)) (re_one (re_eq O.hu (re_var 0) (re_var 1)))))) rss_nil)
  (rss_one (rs_ret (re_and (re_isi m_isinstance m_int (by decide +kernel) (re_var 0)) (re_and (re_eq O.hu (re_isi m_isinstance m_bool (by decide +kernel) (re_var 0)) (re_isi m_isinstance m_bool (by decide +kernel) (re_var 1))) (re_one (re_eq O.hu (re_var 0) (re_var 1))))))))))) fin_l_same
theorem okr_l_same (T : Txt K mg "_law_same" s_l_same P_l_same) (m_all : mg "all" = none) (m_bool : mg "bool" = none) (m_int : mg "int" = none) (m_isinstance : mg "isinstance" = none) (m_len : mg "len" = none) (m_list : mg "list" = none) (m_range : mg "range" = none) (m_str : mg "str" = none) (m_tuple : mg "tuple" = none) : ∀ d, Cal P w K mg base CL "_law_same" P_l_same d (F_l_same d)
  | 0 => cal_bad T F_l_same0
  | d + 1 => ok1_l_same T (okr_l_same T m_all m_bool m_int m_isinstance m_len m_list m_range m_str m_tuple d) m_all m_bool m_int m_isinstance m_len m_list m_range m_str m_tuple
theorem ok_l_same (T : Txt K mg "_law_same" s_l_same P_l_same) (m_all : mg "all" = none) (m_bool : mg "bool" = none) (m_int : mg "int" = none) (m_isinstance : mg "isinstance" = none) (m_len : mg "len" = none) (m_list : mg "list" = none) (m_range : mg "range" = none) (m_str : mg "str" = none) (m_tuple : mg "tuple" = none) : Cal P w K mg base CL "_law_same" P_l_same 6 F_l_sameR := by
  have C_l_same := okr_l_same (P := P) (w := w) (base := base) (CL := CL) T m_all m_bool m_int m_isinstance m_len m_list m_range m_str m_tuple 5
  exact cal_D T sc_l_same (b := b_l_same 5) (fun f cdv A outer s H E O =>
  (rss_cons (rs_if (PW.pt (rw_or (rt_tr (re_isi m_isinstance m_tuple (by decide +kernel) (re_var 1))) (rw_or1 (rt_tr (re_isi m_isinstance m_list (by decide +kernel) (re_var 1)))))) (rss_cons (rs_if (PW.pt (rw_or (rt_ne O.hu (re_isi m_isinstance m_tuple (by decide +kernel) (re_var 0)) (re_isi m_isinstance m_tuple (by decide +kernel) (re_var 1))) (rw_or1 (rt_ne O.hu (re_isi m_isinstance m_list (by decide +kernel) (re_var 0)) (re_isi m_isinstance m_list (by decide +kernel) (re_var 1)))))) (rss_one (rs_ret re_bl)) rss_nil)
  (rss_one (rs_ret (re_and (re_eq O.hu (re_len m_len (ra_cons (re_var 0) ra_nil)) (re_len m_len (ra_cons (re_var 1) ra_nil))) (re_one (re_all O m_all (ra_cons (re_lc (own := [("k", 2)]) O false (ri_rg1 m_range (ra_cons (re_len m_len (ra_cons (re_var 1) ra_nil)) ra_nil)) (blkOk_by (N := N_l_same) (sc := defScope s_l_same) (by decide +kernel)) (fun _ _ _ _ _ O' => (rg_name (i := 2) O' rfl (by first | exact .inl rfl | exact .inr rfl))) (fun _ _ _ _ _ O' => rts_nil) (fun _ _ _ _ _ O' => (re_fn O' C_l_same (Nat.le_refl _) (ra_cons (re_sub2 O'.hu (re_var 0) (re_var 2)) (ra_cons (re_sub2 O'.hu (re_var 1) (re_var 2)) ra_nil))))) ra_nil))))))) rss_nil)
  (rss_cons (rs_if (rt_is (re_var 1) re_non) (rss_one (rs_ret (re_is (re_var 0) re_non))) rss_nil)
  (rss_cons (rs_if (rt_tr (re_isi m_isinstance m_str (by decide +kernel) (re_var 1))) (rss_one (rs_ret (re_and (re_isi m_isinstance m_str (by decide +kernel) (re_var 0)) (re_one (re_eq O.hu (re_var 0) (re_var 1)))))) rss_nil)
  (rss_one (rs_ret (re_and (re_isi m_isinstance m_int (by decide +kernel) (re_var 0)) (re_and (re_eq O.hu (re_isi m_isinstance m_bool (by decide +kernel) (re_var 0)) (re_isi m_isinstance m_bool (by decide +kernel) (re_var 1))) (re_one (re_eq O.hu (re_var 0) (re_var 1))))))))))) fin_l_sameR
theorem ok_l_units (T : Txt K mg "_law_units" s_l_units P_l_units) (C_l_draw : Cal P w K mg base CL "_law_draw" P_l_draw 1 F_l_draw) : Cal P w K mg base CL "_law_units" P_l_units 2 F_l_units :=
  cal_D T sc_l_units (b := b_l_units) (fun f cdv A outer s H E O =>
  (rss_one (rs_ret (re_add false re_int (re_fn O C_l_draw (by decide) (ra_cons (re_var 0) (ra_cons (re_sub2 O.hu (re_lst false (ra_cons re_int (ra_cons re_int (ra_cons re_int ra_nil)))) (re_fn O C_l_draw (by decide) (ra_cons (re_var 0) (ra_cons re_int ra_nil)))) ra_nil))))))) fin_l_units
theorem ok_l_pick (T : Txt K mg "_law_pick" s_l_pick P_l_pick) (C_l_draw : Cal P w K mg base CL "_law_draw" P_l_draw 1 F_l_draw) (m_len : mg "len" = none) : Cal P w K mg base CL "_law_pick" P_l_pick 2 F_l_pick :=
  cal_D T sc_l_pick (b := b_l_pick) (fun f cdv A outer s H E O =>
  (rss_one (rs_ret (re_sub2 O.hu (re_var 1) (re_fn O C_l_draw (by decide) (ra_cons (re_var 0) (ra_cons (re_len m_len (ra_cons (re_var 1) ra_nil)) ra_nil))))))) fin_l_pick
theorem ok_l_other (T : Txt K mg "_law_other" s_l_other P_l_other) (C_l_draw : Cal P w K mg base CL "_law_draw" P_l_draw 1 F_l_draw) (m_int : mg "int" = none) : Cal P w K mg base CL "_law_other" P_l_other 2 F_l_other :=
  cal_D T sc_l_other (b := b_l_other) (fun f cdv A outer s H E O =>
  (rss_one (rs_ret (re_mod (re_intc m_int (ra_cons (re_add false (re_add false (re_var 2) re_int) (re_fn O C_l_draw (by decide) (ra_cons (re_var 0) (ra_cons (re_sub (re_var 1) re_int) ra_nil)))) ra_nil)) (re_var 1))))) fin_l_other
theorem ok_l_record (T : Txt K mg "_law_record" s_l_record P_l_record) (C_l_draw : Cal P w K mg base CL "_law_draw" P_l_draw 1 F_l_draw) (C_l_pick : Cal P w K mg base CL "_law_pick" P_l_pick 2 F_l_pick) (C_l_other : Cal P w K mg base CL "_law_other" P_l_other 2 F_l_other) : Cal P w K mg base CL "_law_record" P_l_record 3 F_l_record :=
  cal_D T sc_l_record (b := b_l_record) (fun f cdv A outer s H E O =>
  (rss_cons (rs_set (i := 3) O rfl (by first | exact .inl rfl | exact .inr rfl) (re_fn O C_l_pick (by decide) (ra_cons (re_var 0) (ra_cons (re_var 2) ra_nil))))
  (rss_cons (rs_set (i := 4) O rfl (by first | exact .inl rfl | exact .inr rfl) (re_fn O C_l_draw (by decide) (ra_cons (re_var 0) (ra_cons (re_var 1) ra_nil))))
  (rss_cons (rs_if (PW.pt (rw_or (rt_eq O.hu (re_var 3) re_str) (rw_or1 (PW.pt (rw_and (rt_eq O.hu (re_var 1) re_int) (rw_and1 (rt_in O.hu (re_var 3) (re_tup (ra_cons re_str (ra_cons re_str (ra_cons re_str ra_nil))))))))))) (rss_one (rs_ret (re_tup (ra_cons re_str (ra_cons (re_var 4) (ra_cons (re_sub2 O.hu (re_lst false (ra_cons re_str (ra_cons re_str (ra_cons re_str (ra_cons re_str (ra_cons re_str ra_nil)))))) (re_fn O C_l_draw (by decide) (ra_cons (re_var 0) (ra_cons re_int ra_nil)))) ra_nil)))))) rss_nil)
  (rss_cons (rs_if (rt_in O.hu (re_var 3) (re_tup (ra_cons re_str (ra_cons re_str ra_nil)))) (rss_cons (rs_set (i := 5) O rfl (by first | exact .inl rfl | exact .inr rfl) (re_fn O C_l_pick (by decide) (ra_cons (re_var 0) (ra_cons (re_lst false (ra_cons (re_sub (re_fn O C_l_draw (by decide) (ra_cons (re_var 0) (ra_cons re_int ra_nil))) re_int) (ra_cons (re_sub (re_fn O C_l_draw (by decide) (ra_cons (re_var 0) (ra_cons re_int ra_nil))) re_int) ra_nil))) ra_nil))))
  (rss_one (rs_ret (re_tup (ra_cons (re_var 3) (ra_cons (re_var 4) (ra_cons (re_var 5) (ra_cons (re_fn O C_l_pick (by decide) (ra_cons (re_var 0) (ra_cons (re_lst false (ra_cons re_int (ra_cons (re_add false re_int (re_fn O C_l_draw (by decide) (ra_cons (re_var 0) (ra_cons re_int ra_nil)))) (ra_cons (re_add false re_int (re_fn O C_l_draw (by decide) (ra_cons (re_var 0) (ra_cons re_int ra_nil)))) ra_nil)))) ra_nil))) ra_nil)))))))) rss_nil)
  (rss_cons (rs_set (i := 6) O rfl (by first | exact .inl rfl | exact .inr rfl) (re_fn O C_l_other (by decide) (ra_cons (re_var 0) (ra_cons (re_var 1) (ra_cons (re_var 4) ra_nil)))))
  (rss_cons (rs_if (rt_eq O.hu (re_var 3) re_str) (rss_one (rs_ret (re_tup (ra_cons (re_var 3) (ra_cons (re_var 4) (ra_cons (re_var 6) ra_nil)))))) rss_nil)
  (rss_one (rs_ret (re_tup (ra_cons (re_var 3) (ra_cons (re_var 4) (ra_cons (re_var 6) (ra_cons (re_fn O C_l_pick (by decide) (ra_cons (re_var 0) (ra_cons (re_lst false (ra_cons re_int (ra_cons (re_fn O C_l_draw (by decide) (ra_cons (re_var 0) (ra_cons re_int ra_nil))) (ra_cons (re_fn O C_l_draw (by decide) (ra_cons (re_var 0) (ra_cons re_int ra_nil))) ra_nil)))) ra_nil))) ra_nil)))))))))))))) fin_l_record
theorem ok_l_steps (T : Txt K mg "_law_steps" s_l_steps P_l_steps)  : Cal P w K mg base CL "_law_steps" P_l_steps 1 F_l_steps :=
  cal_D T sc_l_steps (b := b_l_steps) (fun f cdv A outer s H E O =>
  (rss_cons (rs_set (i := 2) O rfl (by first | exact .inl rfl | exact .inr rfl) (re_lst true ra_nil))
  (rss_cons (rs_for O (ri_seq (re_var 1)) (rg_name (i := 3) O rfl (by first | exact .inl rfl | exact .inr rfl))
   (rss_cons (rs_set (i := 4) O rfl (by first | exact .inl rfl | exact .inr rfl) (re_sub2 O.hu (re_var 3) re_int))
  (rss_one (rs_if (rt_eq O.hu (re_var 4) re_str) (rss_one (rs_expr (re_mAppend (re_var 2) (ra_cons (re_tup (ra_cons (re_sub2 O.hu (re_var 3) re_int) (ra_cons (re_sub2 O.hu (re_var 3) re_int) (ra_cons (re_sub2 O.hu (re_var 3) re_int) ra_nil)))) ra_nil)))) (rss_one (rs_if (rt_eq O.hu (re_var 4) re_str) (rss_one (rs_expr (re_mExtend (re_var 2) (ra_cons (re_lst false (ra_cons (re_tup (ra_cons (re_sub2 O.hu (re_var 3) re_int) (ra_cons (re_sub2 O.hu (re_var 3) re_int) (ra_cons re_int ra_nil)))) (ra_cons (re_tup (ra_cons (re_sub2 O.hu (re_var 3) re_int) (ra_cons (re_sub2 O.hu (re_var 3) re_int) (ra_cons re_int ra_nil)))) ra_nil))) ra_nil)))) (rss_one (rs_if (rt_eq O.hu (re_var 4) re_str) (rss_one (rs_expr (re_mAppend (re_var 2) (ra_cons (re_tup (ra_cons (re_sub2 O.hu (re_var 3) re_int) (ra_cons (re_sub2 O.hu (re_var 3) re_int) (ra_cons (re_neg (re_sub2 O.hu (re_var 3) re_int)) ra_nil)))) ra_nil)))) (rss_one (rs_if (rt_eq O.hu (re_var 4) re_str) (rss_one (rs_expr (re_mAppend (re_var 2) (ra_cons (re_tup (ra_cons (re_var 0) (ra_cons (re_sub2 O.hu (re_var 3) re_int) (ra_cons (re_sub2 O.hu (re_var 3) re_int) ra_nil)))) ra_nil)))) (rss_one (rs_if (rt_eq O.hu (re_var 4) re_str) (rss_one (rs_expr (re_mAppend (re_var 2) (ra_cons (re_tup (ra_cons (re_sub2 O.hu (re_var 3) re_int) (ra_cons (re_var 0) (ra_cons (re_neg (re_sub2 O.hu (re_var 3) re_int)) ra_nil)))) ra_nil)))) rss_nil))))))))))))
  (rss_one (rs_ret (re_var 2)))))) fin_l_steps
theorem ok_l_far (T : Txt K mg "_law_far" s_l_far P_l_far) (m_int : mg "int" = none) (m_range : mg "range" = none) : Cal P w K mg base CL "_law_far" P_l_far 1 F_l_far :=
  cal_D T sc_l_far (b := b_l_far) (fun f cdv A outer s H E O =>
  (rss_cons (rs_setLc (i := 3) (own := [("place", 4)]) O rfl rfl (sw_true rfl rfl rfl (by decide +kernel)) true (ri_rg1 m_range (ra_cons (re_add false (re_var 0) re_int) ra_nil)) (blkOk_by (N := N_l_far) (sc := defScope s_l_far) (by decide +kernel)) (fun _ _ _ _ _ O' => (rg_name (i := 4) O' rfl (by first | exact .inl rfl | exact .inr rfl))) (fun _ _ _ _ _ O' => rts_nil) (fun _ _ _ _ _ O' => (re_sub2 O'.hu (re_lst false (ra_cons re_non (ra_cons re_int ra_nil))) (re_intc m_int (ra_cons (re_in O'.hu (re_var 4) (re_var 2)) ra_nil)))))
  (rss_cons (rs_for O (ri_rg1 m_range (ra_cons (re_add false (re_var 0) re_int) ra_nil)) (rg_name (i := 5) O rfl (by first | exact .inl rfl | exact .inr rfl))
   (rss_cons (rs_set (i := 6) O rfl (by first | exact .inl rfl | exact .inr rfl) re_bl)
  (rss_cons (rs_for O (ri_seq (re_var 1)) (rg_tup (n := 3) O (rgs_cons (i := 7) O rfl (by first | exact .inl rfl | exact .inr rfl) (rgs_cons (i := 8) O rfl (by first | exact .inl rfl | exact .inr rfl) (rgs_cons (i := 9) O rfl (by first | exact .inl rfl | exact .inr rfl) rgs_nil))))
   (rss_one (rs_if (PW.pt (rw_and (rt_isnot (re_sub2 O.hu (re_var 3) (re_var 7)) re_non) (rw_and1 (PW.pt (rw_or (rt_is (re_sub2 O.hu (re_var 3) (re_var 8)) re_non) (rw_or1 (rt_lt (re_sub2 O.hu (re_var 3) (re_var 8)) (re_add false (re_sub2 O.hu (re_var 3) (re_var 7)) (re_var 9))))))))) (rss_cons (rs_setIx O (re_var 3) (re_var 8) (re_add false (re_sub2 O.hu (re_var 3) (re_var 7)) (re_var 9)))
  (rss_one (rs_set (i := 6) O rfl (by first | exact .inl rfl | exact .inr rfl) re_bl))) rss_nil)))
  (rss_one (rs_if (rt_not (rt_tr (re_var 6))) (rss_one (rs_ret (re_var 3))) rss_nil)))))
  (rss_one (rs_ret re_non))))) fin_l_far
theorem ok_l_holds (T : Txt K mg "_law_holds" s_l_holds P_l_holds) (C_l_steps : Cal P w K mg base CL "_law_steps" P_l_steps 1 F_l_steps) (C_l_far : Cal P w K mg base CL "_law_far" P_l_far 1 F_l_far) (m_list : mg "list" = none) (m_range : mg "range" = none) : Cal P w K mg base CL "_law_holds" P_l_holds 2 F_l_holds :=
  cal_D T sc_l_holds (b := b_l_holds) (fun f cdv A outer s H E O =>
  (rss_one (rs_ret (re_isnot (re_fn O C_l_far (by decide) (ra_cons (re_var 0) (ra_cons (re_fn O C_l_steps (by decide) (ra_cons (re_var 0) (ra_cons (re_var 1) ra_nil))) (ra_cons (re_lstRg1 O false m_list m_range (re_add false (re_var 0) re_int)) ra_nil)))) re_non)))) fin_l_holds
theorem ok_l_reaches (T : Txt K mg "_law_reaches" s_l_reaches P_l_reaches) (C_l_steps : Cal P w K mg base CL "_law_steps" P_l_steps 1 F_l_steps) (C_l_far : Cal P w K mg base CL "_law_far" P_l_far 1 F_l_far) (m_range : mg "range" = none) : Cal P w K mg base CL "_law_reaches" P_l_reaches 2 F_l_reaches :=
  cal_D T sc_l_reaches (b := b_l_reaches) (fun f cdv A outer s H E O =>
  (rss_cons (rs_set (i := 2) O rfl (by first | exact .inl rfl | exact .inr rfl) (re_fn O C_l_steps (by decide) (ra_cons (re_var 0) (ra_cons (re_var 1) ra_nil))))
  (rss_cons (rs_set (i := 3) O rfl (by first | exact .inl rfl | exact .inr rfl) (re_fn O C_l_far (by decide) (ra_cons (re_var 0) (ra_cons (re_var 2) (ra_cons (re_lst false (ra_cons (re_var 0) ra_nil)) ra_nil)))))
  (rss_cons (rs_set (i := 4) O rfl (by first | exact .inl rfl | exact .inr rfl) (re_fn O C_l_far (by decide) (ra_cons (re_var 0) (ra_cons (re_lc (own := [("one", 5), ("two", 6), ("more", 7)]) O false (ri_seq (re_var 2)) (blkOk_by (N := N_l_reaches) (sc := defScope s_l_reaches) (by decide +kernel)) (fun _ _ _ _ _ O' => (rg_tupK (K' := K) (n := 3) rfl O' (rgs_cons (i := 5) O' rfl (by first | exact .inl rfl | exact .inr rfl) (rgs_cons (i := 6) O' rfl (by first | exact .inl rfl | exact .inr rfl) (rgs_cons (i := 7) O' rfl (by first | exact .inl rfl | exact .inr rfl) rgs_nil))))) (fun _ _ _ _ _ O' => rts_nil) (fun _ _ _ _ _ O' => (re_tup (ra_cons (re_var 6) (ra_cons (re_var 5) (ra_cons (re_var 7) ra_nil)))))) (ra_cons (re_lst false (ra_cons (re_var 0) ra_nil)) ra_nil)))))
  (rss_one (rs_ret (re_lc (own := [("unit", 8)]) O false (ri_rg1 m_range (ra_cons (re_var 0) ra_nil)) (blkOk_by (N := N_l_reaches) (sc := defScope s_l_reaches) (by decide +kernel)) (fun _ _ _ _ _ O' => (rg_name (i := 8) O' rfl (by first | exact .inl rfl | exact .inr rfl))) (fun _ _ _ _ _ O' => rts_nil) (fun _ _ _ _ _ O' => (re_tup (ra_cons (re_sub2 O'.hu (re_var 3) (re_var 8)) (ra_cons (re_sub2 O'.hu (re_var 4) (re_var 8)) ra_nil))))))))))) fin_l_reaches
theorem ok_l_change (T : Txt K mg "_law_change" s_l_change P_l_change) (C_l_holds : Cal P w K mg base CL "_law_holds" P_l_holds 2 F_l_holds) (C_l_reaches : Cal P w K mg base CL "_law_reaches" P_l_reaches 2 F_l_reaches) (m_range : mg "range" = none) : Cal P w K mg base CL "_law_change" P_l_change 3 F_l_change :=
  cal_D T sc_l_change (b := b_l_change) (fun f cdv A outer s H E O =>
  (rss_cons (rs_if (PW.pt (rw_or (rt_not (rt_tr (re_fn O C_l_holds (by decide) (ra_cons (re_var 0) (ra_cons (re_var 1) ra_nil))))) (rw_or1 (rt_not (rt_tr (re_fn O C_l_holds (by decide) (ra_cons (re_var 0) (ra_cons (re_add false (re_var 1) (re_lst false (ra_cons (re_var 2) ra_nil))) ra_nil)))))))) (rss_one (rs_ret (re_lst false ra_nil))) rss_nil)
  (rss_cons (rs_set (i := 3) O rfl (by first | exact .inl rfl | exact .inr rfl) (re_fn O C_l_reaches (by decide) (ra_cons (re_var 0) (ra_cons (re_var 1) ra_nil))))
  (rss_cons (rs_set (i := 4) O rfl (by first | exact .inl rfl | exact .inr rfl) (re_fn O C_l_reaches (by decide) (ra_cons (re_var 0) (ra_cons (re_add false (re_var 1) (re_lst false (ra_cons (re_var 2) ra_nil))) ra_nil))))
  (rss_one (rs_ret (re_lst false (ra_cons (re_lc (own := [("unit", 5)]) O false (ri_rg1 m_range (ra_cons (re_var 0) ra_nil)) (blkOk_by (N := N_l_change) (sc := defScope s_l_change) (by decide +kernel)) (fun _ _ _ _ _ O' => (rg_name (i := 5) O' rfl (by first | exact .inl rfl | exact .inr rfl))) (fun _ _ _ _ _ O' => (rts_one (rt_ne O'.hu (re_sub2 O'.hu (re_var 3) (re_var 5)) (re_sub2 O'.hu (re_var 4) (re_var 5))))) (fun _ _ _ _ _ O' => (re_var 5))) ra_nil)))))))) fin_l_change
theorem ok_least_steps (T : Txt K mg "least_steps" s_least_steps P_least_steps)  : Cal P w K mg base CL "least_steps" P_least_steps 1 F_least_steps :=
  cal_D T sc_least_steps (b := b_least_steps) (fun f cdv A outer s H E O =>
  (rss_cons (rs_set (i := 2) O rfl (by first | exact .inl rfl | exact .inr rfl) (re_sub2 O.hu (re_var 0) re_int))
  (rss_cons (rs_if (rt_eq O.hu (re_var 2) re_str) (rss_one (rs_ret (re_lst false (ra_cons (re_tup (ra_cons (re_sub2 O.hu (re_var 0) re_int) (ra_cons (re_sub2 O.hu (re_var 0) re_int) (ra_cons (re_sub2 O.hu (re_var 0) re_int) ra_nil)))) ra_nil)))) rss_nil)
  (rss_cons (rs_if (rt_eq O.hu (re_var 2) re_str) (rss_one (rs_ret (re_lst false (ra_cons (re_tup (ra_cons (re_sub2 O.hu (re_var 0) re_int) (ra_cons (re_sub2 O.hu (re_var 0) re_int) (ra_cons re_int ra_nil)))) (ra_cons (re_tup (ra_cons (re_sub2 O.hu (re_var 0) re_int) (ra_cons (re_sub2 O.hu (re_var 0) re_int) (ra_cons re_int ra_nil)))) ra_nil))))) rss_nil)
  (rss_cons (rs_if (rt_eq O.hu (re_var 2) re_str) (rss_one (rs_ret (re_lst false (ra_cons (re_tup (ra_cons (re_sub2 O.hu (re_var 0) re_int) (ra_cons (re_sub2 O.hu (re_var 0) re_int) (ra_cons (re_neg (re_sub2 O.hu (re_var 0) re_int)) ra_nil)))) ra_nil)))) rss_nil)
  (rss_cons (rs_if (rt_eq O.hu (re_var 2) re_str) (rss_one (rs_ret (re_lst false (ra_cons (re_tup (ra_cons (re_var 1) (ra_cons (re_sub2 O.hu (re_var 0) re_int) (ra_cons (re_sub2 O.hu (re_var 0) re_int) ra_nil)))) ra_nil)))) rss_nil)
  (rss_one (rs_ret (re_if (rt_eq O.hu (re_var 2) re_str) (re_lst false (ra_cons (re_tup (ra_cons (re_sub2 O.hu (re_var 0) re_int) (ra_cons (re_var 1) (ra_cons (re_neg (re_sub2 O.hu (re_var 0) re_int)) ra_nil)))) ra_nil)) (re_lst false ra_nil)))))))))) fin_least_steps
theorem ok_greatest_ways (T : Txt K mg "greatest_ways" s_greatest_ways P_greatest_ways) (m_range : mg "range" = none) : Cal P w K mg base CL "greatest_ways" P_greatest_ways 1 F_greatest_ways :=
  cal_D T sc_greatest_ways (b := b_greatest_ways) (fun f cdv A outer s H E O =>
  (rss_cons (rs_setLc (i := 2) (own := [("_", 3)]) O rfl rfl (sw_true rfl rfl rfl (by decide +kernel)) true (ri_rg1 m_range (ra_cons (re_add false (re_var 0) re_int) ra_nil)) (blkOk_by (N := N_greatest_ways) (sc := defScope s_greatest_ways) (by decide +kernel)) (fun _ _ _ _ _ O' => (rg_name (i := 3) O' rfl (by first | exact .inl rfl | exact .inr rfl))) (fun _ _ _ _ _ O' => rts_nil) (fun _ _ _ _ _ O' => (re_mul true (re_lst false (ra_cons re_non ra_nil)) (re_add false (re_var 0) re_int))))
  (rss_cons (rs_for O (ri_rg1 m_range (ra_cons (re_add false (re_var 0) re_int) ra_nil)) (rg_name (i := 4) O rfl (by first | exact .inl rfl | exact .inr rfl))
   (rss_one (rs_setIx O (re_sub2 O.hu (re_var 2) (re_var 4)) (re_var 4) re_int)))
  (rss_cons (rs_for O (ri_seq (re_var 1)) (rg_tup (n := 3) O (rgs_cons (i := 5) O rfl (by first | exact .inl rfl | exact .inr rfl) (rgs_cons (i := 6) O rfl (by first | exact .inl rfl | exact .inr rfl) (rgs_cons (i := 7) O rfl (by first | exact .inl rfl | exact .inr rfl) rgs_nil))))
   (rss_one (rs_if (PW.pt (rw_or (rt_is (re_sub2 O.hu (re_sub2 O.hu (re_var 2) (re_var 5)) (re_var 6)) re_non) (rw_or1 (rt_lt (re_sub2 O.hu (re_sub2 O.hu (re_var 2) (re_var 5)) (re_var 6)) (re_var 7))))) (rss_one (rs_setIx O (re_sub2 O.hu (re_var 2) (re_var 5)) (re_var 6) (re_var 7))) rss_nil)))
  (rss_cons (rs_for O (ri_rg1 m_range (ra_cons (re_add false (re_var 0) re_int) ra_nil)) (rg_name (i := 8) O rfl (by first | exact .inl rfl | exact .inr rfl))
   (rss_one (rs_for O (ri_rg1 m_range (ra_cons (re_add false (re_var 0) re_int) ra_nil)) (rg_name (i := 5) O rfl (by first | exact .inl rfl | exact .inr rfl))
   (rss_cons (rs_set (i := 9) O rfl (by first | exact .inl rfl | exact .inr rfl) (re_sub2 O.hu (re_sub2 O.hu (re_var 2) (re_var 5)) (re_var 8)))
  (rss_cons (rs_if (rt_is (re_var 9) re_non) (rss_one rs_continue) rss_nil)
  (rss_one (rs_for O (ri_rg1 m_range (ra_cons (re_add false (re_var 0) re_int) ra_nil)) (rg_name (i := 6) O rfl (by first | exact .inl rfl | exact .inr rfl))
   (rss_cons (rs_set (i := 10) O rfl (by first | exact .inl rfl | exact .inr rfl) (re_sub2 O.hu (re_sub2 O.hu (re_var 2) (re_var 8)) (re_var 6)))
  (rss_one (rs_if (PW.pt (rw_and (rt_isnot (re_var 10) re_non) (rw_and1 (PW.pt (rw_or (rt_is (re_sub2 O.hu (re_sub2 O.hu (re_var 2) (re_var 5)) (re_var 6)) re_non) (rw_or1 (rt_lt (re_sub2 O.hu (re_sub2 O.hu (re_var 2) (re_var 5)) (re_var 6)) (re_add false (re_var 9) (re_var 10))))))))) (rss_one (rs_setIx O (re_sub2 O.hu (re_var 2) (re_var 5)) (re_var 6) (re_add false (re_var 9) (re_var 10)))) rss_nil))))))))))
  (rss_one (rs_ret (re_var 2)))))))) fin_greatest_ways
theorem ok_ways (T : Txt K mg "ways" s_ways P_ways) (C_least_steps : Cal P w K mg base CL "least_steps" P_least_steps 1 F_least_steps) (C_greatest_ways : Cal P w K mg base CL "greatest_ways" P_greatest_ways 1 F_greatest_ways) : Cal P w K mg base CL "ways" P_ways 2 F_ways :=
  cal_D T sc_ways (b := b_ways) (fun f cdv A outer s H E O =>
  (rss_cons (rs_set (i := 2) O rfl (by first | exact .inl rfl | exact .inr rfl) (re_lst true ra_nil))
  (rss_cons (rs_for O (ri_seq (re_var 1)) (rg_name (i := 3) O rfl (by first | exact .inl rfl | exact .inr rfl))
   (rss_one (rs_expr (re_mExtend (re_var 2) (ra_cons (re_fn O C_least_steps (by decide) (ra_cons (re_var 3) (ra_cons (re_var 0) ra_nil))) ra_nil)))))
  (rss_one (rs_ret (re_fn O C_greatest_ways (by decide) (ra_cons (re_var 0) (ra_cons (re_var 2) ra_nil)))))))) fin_ways
theorem ok_is_round (T : Txt K mg "is_round" s_is_round P_is_round) (m_any : mg "any" = none) (m_len : mg "len" = none) (m_range : mg "range" = none) : Cal P w K mg base CL "is_round" P_is_round 1 F_is_round :=
  cal_D T sc_is_round (b := b_is_round) (fun f cdv A outer s H E O =>
  (rss_one (rs_ret (re_any O m_any (ra_cons (re_lc (own := [("place", 1)]) O false (ri_rg1 m_range (ra_cons (re_len m_len (ra_cons (re_var 0) ra_nil)) ra_nil)) (blkOk_by (N := N_is_round) (sc := defScope s_is_round) (by decide +kernel)) (fun _ _ _ _ _ O' => (rg_name (i := 1) O' rfl (by first | exact .inl rfl | exact .inr rfl))) (fun _ _ _ _ _ O' => rts_nil) (fun _ _ _ _ _ O' => (re_gt (re_sub2 O'.hu (re_sub2 O'.hu (re_var 0) (re_var 1)) (re_var 1)) re_int))) ra_nil))))) fin_is_round
theorem ok_do_hold (T : Txt K mg "do_hold" s_do_hold P_do_hold) (C_ways : Cal P w K mg base CL "ways" P_ways 2 F_ways) (C_is_round : Cal P w K mg base CL "is_round" P_is_round 1 F_is_round) : Cal P w K mg base CL "do_hold" P_do_hold 3 F_do_hold :=
  cal_D T sc_do_hold (b := b_do_hold) (fun f cdv A outer s H E O =>
  (rss_one (rs_ret (re_not (re_fn O C_is_round (by decide) (ra_cons (re_fn O C_ways (by decide) (ra_cons (re_var 0) (ra_cons (re_var 1) ra_nil))) ra_nil)))))) fin_do_hold
theorem ok_sure_ways (T : Txt K mg "sure_ways" s_sure_ways P_sure_ways) (C_ways : Cal P w K mg base CL "ways" P_ways 2 F_ways) (C_is_round : Cal P w K mg base CL "is_round" P_is_round 1 F_is_round) (X_Unsure : Xcl K mg CL "Unsure") : Cal P w K mg base CL "sure_ways" P_sure_ways 3 F_sure_ways :=
  cal_D T sc_sure_ways (b := b_sure_ways) (fun f cdv A outer s H E O =>
  (rss_cons (rs_set (i := 2) O rfl (by first | exact .inl rfl | exact .inr rfl) (re_fn O C_ways (by decide) (ra_cons (re_var 0) (ra_cons (re_var 1) ra_nil))))
  (rss_cons (rs_if (rt_tr (re_fn O C_is_round (by decide) (ra_cons (re_var 2) ra_nil))) (rss_one (rs_raiseX O X_Unsure)) rss_nil)
  (rss_one (rs_ret (re_var 2)))))) fin_sure_ways
theorem ok_ends (T : Txt K mg "ends" s_ends P_ends)  : Cal P w K mg base CL "ends" P_ends 1 F_ends :=
  cal_D T sc_ends (b := b_ends) (fun f cdv A outer s H E O =>
  (rss_cons (rs_set (i := 3) O rfl (by first | exact .inl rfl | exact .inr rfl) (re_sub2 O.hu (re_sub2 O.hu (re_var 0) (re_var 2)) (re_var 1)))
  (rss_one (rs_ret (re_tup (ra_cons (re_sub2 O.hu (re_sub2 O.hu (re_var 0) (re_var 1)) (re_var 2)) (ra_cons (re_if (rt_is (re_var 3) re_non) re_non (re_neg (re_var 3))) ra_nil))))))) fin_ends
theorem ok_Dig_would_change {CDig : Addr} (T : Txm K CDig "would_change" "Dig.would_change" s_Dig_would_change P_Dig_would_change) (T_Dig : ClT K mg "Dig" CDig ["n", "rows", "past"]) (C_ways : Cal P w K mg base CL "ways" P_ways 2 F_ways) (C_do_hold : Cal P w K mg base CL "do_hold" P_do_hold 3 F_do_hold) (C_sure_ways : Cal P w K mg base CL "sure_ways" P_sure_ways 3 F_sure_ways) (C_ends : Cal P w K mg base CL "ends" P_ends 1 F_ends) (m_range : mg "range" = none) (X_Unsure : Xcl K mg CL "Unsure") : Mal P w K mg base CL CDig "would_change" P_Dig_would_change 4 (F_Dig_would_change CDig) :=
  mal_D T sc_Dig_would_change (b := (b_Dig_would_change CDig)) (fun f cdv A outer s H E O =>
  (rss_cons (rs_set (i := 2) O rfl (by first | exact .inl rfl | exact .inr rfl) (re_fn O C_sure_ways (by decide) (ra_cons (re_fld T_Dig (by decide +kernel) (re_var 0)) (ra_cons (re_fld T_Dig (by decide +kernel) (re_var 0)) ra_nil))))
  (rss_cons (rs_if (rt_not (rt_tr (re_fn O C_do_hold (by decide) (ra_cons (re_fld T_Dig (by decide +kernel) (re_var 0)) (ra_cons (re_add false (re_fld T_Dig (by decide +kernel) (re_var 0)) (re_lst false (ra_cons (re_var 1) ra_nil) (Nat.le_of_ble_eq_true rfl))) ra_nil))))) (rss_one (rs_raiseX O X_Unsure)) rss_nil)
  (rss_cons (rs_set (i := 3) O rfl (by first | exact .inl rfl | exact .inr rfl) (re_fn O C_ways (by decide) (ra_cons (re_fld T_Dig (by decide +kernel) (re_var 0)) (ra_cons (re_add false (re_fld T_Dig (by decide +kernel) (re_var 0)) (re_lst false (ra_cons (re_var 1) ra_nil) (Nat.le_of_ble_eq_true rfl))) ra_nil))))
  (rss_one (rs_ret (re_lc (own := [("unit", 4)]) O false (ri_rg1 m_range (ra_cons (re_fld T_Dig (by decide +kernel) (re_var 0)) ra_nil)) (blkOk_by (N := N_Dig_would_change) (sc := defScope s_Dig_would_change) (by decide +kernel)) (fun _ _ _ _ _ O' => (rg_name (i := 4) O' rfl (by first | exact .inl rfl | exact .inr rfl))) (fun _ _ _ _ _ O' => (rts_one (rt_ne O'.hu (re_fn O' C_ends (by decide) (ra_cons (re_var 2) (ra_cons (re_fld T_Dig (by decide +kernel) (re_var 0)) (ra_cons (re_var 4) ra_nil)))) (re_fn O' C_ends (by decide) (ra_cons (re_var 3) (ra_cons (re_fld T_Dig (by decide +kernel) (re_var 0)) (ra_cons (re_var 4) ra_nil))))))) (fun _ _ _ _ _ O' => (re_var 4))))))))) fin_Dig_would_change
theorem ok_l_told {CDig : Addr} (T : Txt K mg "_law_told" s_l_told P_l_told) (T_Dig : ClT K mg "Dig" CDig ["n", "rows", "past"]) (M_Dig_would_change : Mal P w K mg base CL CDig "would_change" P_Dig_would_change 4 (F_Dig_would_change CDig)) (Y_Unsure : Xtb K mg CL "Unsure" [("Unsure", true)]) : Cal P w K mg base CL "_law_told" P_l_told 5 (F_l_told CDig) :=
  cal_D T sc_l_told (b := (b_l_told CDig)) (fun f cdv A outer s H E O =>
  (rss_one (rs_try O Y_Unsure (fun _ _ _ Ot => (rss_one (rs_ret (re_lst false (ra_cons (re_meth Ot T_Dig M_Dig_would_change (by decide) (re_var 0) (ra_cons (re_var 1) ra_nil)) ra_nil) (Nat.le_of_ble_eq_true rfl))))) (fun _ _ _ Oh => (rss_one (rs_ret (re_lst false ra_nil (Nat.le_of_ble_eq_true rfl)))))))) fin_l_told
theorem ok_Dig_strike {CDig : Addr} (T : Txm K CDig "strike" "Dig.strike" s_Dig_strike P_Dig_strike) (T_Dig : ClT K mg "Dig" CDig ["n", "rows", "past"]) (m_len : mg "len" = none) (m_list : mg "list" = none) (X_NoDeed : Xcl K mg CL "NoDeed") : Mal P w K mg base CL CDig "strike" P_Dig_strike 1 (F_Dig_strike CDig) :=
  mal_D T sc_Dig_strike (b := (b_Dig_strike CDig)) (fun f cdv A outer s H E O =>
  (rss_cons (rs_if (rt_not (rt_ch op_le op_lt op2_B0 op2_B0 re_int (re_var 1) (re_len m_len (ra_cons (re_fld T_Dig (by decide +kernel) (re_var 0)) ra_nil)))) (rss_one (rs_raiseX O X_NoDeed)) rss_nil)
  (rss_cons (rs_expr (re_mAppend (re_fld T_Dig (by decide +kernel) (re_var 0)) (ra_cons (re_list O true m_list (ra_cons (re_fld T_Dig (by decide +kernel) (re_var 0)) ra_nil)) ra_nil)))
  (rss_one (rs_delIx (re_fld T_Dig (by decide +kernel) (re_var 0)) (re_var 1)))))) fin_Dig_strike
theorem ok_Dig_undo {CDig : Addr} (T : Txm K CDig "undo" "Dig.undo" s_Dig_undo P_Dig_undo) (T_Dig : ClT K mg "Dig" CDig ["n", "rows", "past"]) (X_NoDeed : Xcl K mg CL "NoDeed") : Mal P w K mg base CL CDig "undo" P_Dig_undo 1 (F_Dig_undo CDig) :=
  mal_D T sc_Dig_undo (b := (b_Dig_undo CDig)) (fun f cdv A outer s H E O =>
  (rss_cons (rs_if (rt_not (rt_tr (re_fld T_Dig (by decide +kernel) (re_var 0)))) (rss_one (rs_raiseX O X_NoDeed)) rss_nil)
  (rss_one (rs_fld T_Dig (by decide +kernel) (re_var 0) (re_mPop (re_fld T_Dig (by decide +kernel) (re_var 0))))))) fin_Dig_undo
theorem ok_l_done {CDig : Addr} (T : Txt K mg "_law_done" s_l_done P_l_done) (T_Dig : ClT K mg "Dig" CDig ["n", "rows", "past"]) (M_Dig_add : Mal P w K mg base CL CDig "add" P_Dig_add 1 (F_Dig_add CDig)) (M_Dig_strike : Mal P w K mg base CL CDig "strike" P_Dig_strike 1 (F_Dig_strike CDig)) (M_Dig_undo : Mal P w K mg base CL CDig "undo" P_Dig_undo 1 (F_Dig_undo CDig)) (Y_NoDeed : Xtb K mg CL "NoDeed" [("NoDeed", true), ("TooMany", false)]) (Y_TooMany : Xtb K mg CL "TooMany" [("TooMany", true)]) : Cal P w K mg base CL "_law_done" P_l_done 2 (F_l_done CDig) :=
  cal_D T sc_l_done (b := (b_l_done CDig)) (fun f cdv A outer s H E O =>
  (rss_one (rs_try2 O Y_NoDeed Y_TooMany (fun _ _ _ Ot => (rss_cons (rs_if (rt_eq Ot.hu (re_var 1) re_str) (rss_one (rs_expr (re_meth Ot T_Dig M_Dig_add (by decide) (re_var 0) (ra_cons (re_var 2) ra_nil)))) (rss_one (rs_if (rt_eq Ot.hu (re_var 1) re_str) (rss_one (rs_expr (re_meth Ot T_Dig M_Dig_strike (by decide) (re_var 0) (ra_cons (re_var 2) ra_nil)))) (rss_one (rs_expr (re_meth0 Ot T_Dig M_Dig_undo (by decide) (re_var 0)))))))
  (rss_one (rs_ret re_str)))) (fun _ _ _ Oh => (rss_one (rs_ret re_str))) (fun _ _ _ Oh => (rss_one (rs_ret re_str)))))) fin_l_done
theorem ok_l_due (T : Txt K mg "_law_due" s_l_due P_l_due) (m_len : mg "len" = none) (m_list : mg "list" = none) : Cal P w K mg base CL "_law_due" P_l_due 1 F_l_due :=
  cal_D T sc_l_due (b := b_l_due) (fun f cdv A outer s H E O =>
  (rss_cons (rs_if (rt_eq O.hu (re_var 2) re_str) (rss_cons (rs_if (rt_eq O.hu (re_len m_len (ra_cons (re_var 0) ra_nil)) re_int) (rss_one (rs_ret re_str)) rss_nil)
  (rss_cons (rs_expr (re_mAppend (re_var 1) (ra_cons (re_list O false m_list (ra_cons (re_var 0) ra_nil)) ra_nil)))
  (rss_cons (rs_expr (re_mAppend (re_var 0) (ra_cons (re_var 3) ra_nil)))
  (rss_one (rs_ret re_str))))) rss_nil)
  (rss_cons (rs_if (rt_eq O.hu (re_var 2) re_str) (rss_cons (rs_if (rt_not (rt_ch op_le op_lt op2_B0 op2_B0 re_int (re_var 3) (re_len m_len (ra_cons (re_var 0) ra_nil)))) (rss_one (rs_ret re_str)) rss_nil)
  (rss_cons (rs_expr (re_mAppend (re_var 1) (ra_cons (re_list O false m_list (ra_cons (re_var 0) ra_nil)) ra_nil)))
  (rss_cons (rs_expr (re_mPopAt (re_var 0) (ra_cons (re_var 3) ra_nil)))
  (rss_one (rs_ret re_str))))) rss_nil)
  (rss_cons (rs_if (rt_not (rt_tr (re_var 1))) (rss_one (rs_ret re_str)) rss_nil)
  (rss_cons (rs_set (i := 4) O rfl (by first | exact .inl rfl | exact .inr rfl) (re_mPop (re_var 1)))
  (rss_cons (rs_while O (rt_tr (re_var 0))
   (rss_one (rs_expr (re_mPop (re_var 0)))))
  (rss_cons (rs_expr (re_mExtend (re_var 0) (ra_cons (re_var 4) ra_nil)))
  (rss_one (rs_ret re_str))))))))) fin_l_due
theorem all_mk {l : PySem.W.OpenLaw} {w : World} {K : PySem.W.Frag} {h : Heap} {mg : Str → Option Value} {fa : Addr} (X : K.In h) (G : h.Ns mainGlobals mg) (hfa : mg "law" = some (.ref fa))
    {CDig : Addr} (z_Dig : PySem.W.nsIn K mainGlobals "Dig" = some (some (.ref CDig))) (k_Dig_pg : PySem.W.plainGet K CDig Str.empty = true) (k_Dig_hd : PySem.W.hasDictIn K CDig = true) (k_Dig_po : PySem.W.plainOver K CDig = true) (k_Dig_sa : PySem.W.findIn K (.ref CDig) "__setattr__" = some (some (.builtin "object.__setattr__"))) (k_Dig_mk : PySem.W.makesIn K CDig = true) (k_Dig_kc : PySem.W.keepIn K (.ref CDig) = true)
    (k_Dig_f_n : PySem.W.findIn K (.ref CDig) "n" = some none)
    (k_Dig_f_rows : PySem.W.findIn K (.ref CDig) "rows" = some none)
    (k_Dig_f_past : PySem.W.findIn K (.ref CDig) "past" = some none)
    {f0 : Addr} {od0 an0 : Option Addr} {sl0 : Array (Option Value)} {oc0 kV0 dc0 pm0 cd0 ct0 : Value}
    (a0 : PySem.W.findIn K (.ref CDig) "__init__" = some (some (.ref f0))) (x0 : PySem.W.isFn K (.ref f0) = true) (l0 : K.lookup f0 = some ⟨oc0, od0, .func (PySem.W.fnOf "__init__" "Dig.__init__" (defArgs s_Dig_init) (defBody s_Dig_init) (defScope s_Dig_init) .none kV0 dc0 pm0 an0 cd0 ct0), sl0⟩)
    (c0 : PySem.W.codeIn K cd0 "Dig.__init__" = true) (k0 : PySem.W.keepIn K (.ref f0) = true)
    {f1 : Addr} {od1 an1 : Option Addr} {sl1 : Array (Option Value)} {oc1 kV1 dc1 pm1 cd1 ct1 : Value}
    (a1 : PySem.W.findIn K (.ref CDig) "add" = some (some (.ref f1))) (x1 : PySem.W.isFn K (.ref f1) = true) (l1 : K.lookup f1 = some ⟨oc1, od1, .func (PySem.W.fnOf "add" "Dig.add" (defArgs s_Dig_add) (defBody s_Dig_add) (defScope s_Dig_add) .none kV1 dc1 pm1 an1 cd1 ct1), sl1⟩)
    (c1 : PySem.W.codeIn K cd1 "Dig.add" = true) (k1 : PySem.W.keepIn K (.ref f1) = true)
    {f2 : Addr} {od2 an2 : Option Addr} {sl2 : Array (Option Value)} {oc2 kV2 dc2 pm2 cd2 ct2 : Value}
    (a2 : PySem.W.findIn K (.ref CDig) "records" = some (some (.ref f2))) (x2 : PySem.W.isFn K (.ref f2) = true) (l2 : K.lookup f2 = some ⟨oc2, od2, .func (PySem.W.fnOf "records" "Dig.records" (defArgs s_Dig_records) (defBody s_Dig_records) (defScope s_Dig_records) .none kV2 dc2 pm2 an2 cd2 ct2), sl2⟩)
    (c2 : PySem.W.codeIn K cd2 "Dig.records" = true) (k2 : PySem.W.keepIn K (.ref f2) = true)
    {f3 : Addr} {od3 an3 : Option Addr} {sl3 : Array (Option Value)} {oc3 kV3 dc3 pm3 cd3 ct3 : Value}
    (a3 : PySem.W.findIn K (.ref CDig) "copy" = some (some (.ref f3))) (x3 : PySem.W.isFn K (.ref f3) = true) (l3 : K.lookup f3 = some ⟨oc3, od3, .func (PySem.W.fnOf "copy" "Dig.copy" (defArgs s_Dig_copy) (defBody s_Dig_copy) (defScope s_Dig_copy) .none kV3 dc3 pm3 an3 cd3 ct3), sl3⟩)
    (c3 : PySem.W.codeIn K cd3 "Dig.copy" = true) (k3 : PySem.W.keepIn K (.ref f3) = true)
    {f4 : Addr} {od4 an4 : Option Addr} {sl4 : Array (Option Value)} {oc4 kV4 dc4 pm4 cd4 ct4 : Value}
    (a4 : PySem.W.nsIn K mainGlobals "_law_stream" = some (some (.ref f4))) (l4 : K.lookup f4 = some ⟨oc4, od4, .func (PySem.W.fnOf "_law_stream" "_law_stream" (defArgs s_l_stream) (defBody s_l_stream) (defScope s_l_stream) .none kV4 dc4 pm4 an4 cd4 ct4), sl4⟩)
    (c4 : PySem.W.codeIn K cd4 "_law_stream" = true) (k4 : PySem.W.keepIn K (.ref f4) = true)
    {f5 : Addr} {od5 an5 : Option Addr} {sl5 : Array (Option Value)} {oc5 kV5 dc5 pm5 cd5 ct5 : Value}
    (a5 : PySem.W.nsIn K mainGlobals "_law_draw" = some (some (.ref f5))) (l5 : K.lookup f5 = some ⟨oc5, od5, .func (PySem.W.fnOf "_law_draw" "_law_draw" (defArgs s_l_draw) (defBody s_l_draw) (defScope s_l_draw) .none kV5 dc5 pm5 an5 cd5 ct5), sl5⟩)
    (c5 : PySem.W.codeIn K cd5 "_law_draw" = true) (k5 : PySem.W.keepIn K (.ref f5) = true)
    {f6 : Addr} {od6 an6 : Option Addr} {sl6 : Array (Option Value)} {oc6 kV6 dc6 pm6 cd6 ct6 : Value}
    (a6 : PySem.W.nsIn K mainGlobals "_law_same" = some (some (.ref f6))) (l6 : K.lookup f6 = some ⟨oc6, od6, .func (PySem.W.fnOf "_law_same" "_law_same" (defArgs s_l_same) (defBody s_l_same) (defScope s_l_same) .none kV6 dc6 pm6 an6 cd6 ct6), sl6⟩)
    (c6 : PySem.W.codeIn K cd6 "_law_same" = true) (k6 : PySem.W.keepIn K (.ref f6) = true)
    {f7 : Addr} {od7 an7 : Option Addr} {sl7 : Array (Option Value)} {oc7 kV7 dc7 pm7 cd7 ct7 : Value}
    (a7 : PySem.W.nsIn K mainGlobals "_law_units" = some (some (.ref f7))) (l7 : K.lookup f7 = some ⟨oc7, od7, .func (PySem.W.fnOf "_law_units" "_law_units" (defArgs s_l_units) (defBody s_l_units) (defScope s_l_units) .none kV7 dc7 pm7 an7 cd7 ct7), sl7⟩)
    (c7 : PySem.W.codeIn K cd7 "_law_units" = true) (k7 : PySem.W.keepIn K (.ref f7) = true)
    {f8 : Addr} {od8 an8 : Option Addr} {sl8 : Array (Option Value)} {oc8 kV8 dc8 pm8 cd8 ct8 : Value}
    (a8 : PySem.W.nsIn K mainGlobals "_law_pick" = some (some (.ref f8))) (l8 : K.lookup f8 = some ⟨oc8, od8, .func (PySem.W.fnOf "_law_pick" "_law_pick" (defArgs s_l_pick) (defBody s_l_pick) (defScope s_l_pick) .none kV8 dc8 pm8 an8 cd8 ct8), sl8⟩)
    (c8 : PySem.W.codeIn K cd8 "_law_pick" = true) (k8 : PySem.W.keepIn K (.ref f8) = true)
    {f9 : Addr} {od9 an9 : Option Addr} {sl9 : Array (Option Value)} {oc9 kV9 dc9 pm9 cd9 ct9 : Value}
    (a9 : PySem.W.nsIn K mainGlobals "_law_other" = some (some (.ref f9))) (l9 : K.lookup f9 = some ⟨oc9, od9, .func (PySem.W.fnOf "_law_other" "_law_other" (defArgs s_l_other) (defBody s_l_other) (defScope s_l_other) .none kV9 dc9 pm9 an9 cd9 ct9), sl9⟩)
    (c9 : PySem.W.codeIn K cd9 "_law_other" = true) (k9 : PySem.W.keepIn K (.ref f9) = true)
    {f10 : Addr} {od10 an10 : Option Addr} {sl10 : Array (Option Value)} {oc10 kV10 dc10 pm10 cd10 ct10 : Value}
    (a10 : PySem.W.nsIn K mainGlobals "_law_record" = some (some (.ref f10))) (l10 : K.lookup f10 = some ⟨oc10, od10, .func (PySem.W.fnOf "_law_record" "_law_record" (defArgs s_l_record) (defBody s_l_record) (defScope s_l_record) .none kV10 dc10 pm10 an10 cd10 ct10), sl10⟩)
    (c10 : PySem.W.codeIn K cd10 "_law_record" = true) (k10 : PySem.W.keepIn K (.ref f10) = true)
    {f11 : Addr} {od11 an11 : Option Addr} {sl11 : Array (Option Value)} {oc11 kV11 dc11 pm11 cd11 ct11 : Value}
    (a11 : PySem.W.nsIn K mainGlobals "_law_steps" = some (some (.ref f11))) (l11 : K.lookup f11 = some ⟨oc11, od11, .func (PySem.W.fnOf "_law_steps" "_law_steps" (defArgs s_l_steps) (defBody s_l_steps) (defScope s_l_steps) .none kV11 dc11 pm11 an11 cd11 ct11), sl11⟩)
    (c11 : PySem.W.codeIn K cd11 "_law_steps" = true) (k11 : PySem.W.keepIn K (.ref f11) = true)
    {f12 : Addr} {od12 an12 : Option Addr} {sl12 : Array (Option Value)} {oc12 kV12 dc12 pm12 cd12 ct12 : Value}
    (a12 : PySem.W.nsIn K mainGlobals "_law_far" = some (some (.ref f12))) (l12 : K.lookup f12 = some ⟨oc12, od12, .func (PySem.W.fnOf "_law_far" "_law_far" (defArgs s_l_far) (defBody s_l_far) (defScope s_l_far) .none kV12 dc12 pm12 an12 cd12 ct12), sl12⟩)
    (c12 : PySem.W.codeIn K cd12 "_law_far" = true) (k12 : PySem.W.keepIn K (.ref f12) = true)
    {f13 : Addr} {od13 an13 : Option Addr} {sl13 : Array (Option Value)} {oc13 kV13 dc13 pm13 cd13 ct13 : Value}
    (a13 : PySem.W.nsIn K mainGlobals "_law_holds" = some (some (.ref f13))) (l13 : K.lookup f13 = some ⟨oc13, od13, .func (PySem.W.fnOf "_law_holds" "_law_holds" (defArgs s_l_holds) (defBody s_l_holds) (defScope s_l_holds) .none kV13 dc13 pm13 an13 cd13 ct13), sl13⟩)
    (c13 : PySem.W.codeIn K cd13 "_law_holds" = true) (k13 : PySem.W.keepIn K (.ref f13) = true)
    {f14 : Addr} {od14 an14 : Option Addr} {sl14 : Array (Option Value)} {oc14 kV14 dc14 pm14 cd14 ct14 : Value}
    (a14 : PySem.W.nsIn K mainGlobals "_law_reaches" = some (some (.ref f14))) (l14 : K.lookup f14 = some ⟨oc14, od14, .func (PySem.W.fnOf "_law_reaches" "_law_reaches" (defArgs s_l_reaches) (defBody s_l_reaches) (defScope s_l_reaches) .none kV14 dc14 pm14 an14 cd14 ct14), sl14⟩)
    (c14 : PySem.W.codeIn K cd14 "_law_reaches" = true) (k14 : PySem.W.keepIn K (.ref f14) = true)
    {f15 : Addr} {od15 an15 : Option Addr} {sl15 : Array (Option Value)} {oc15 kV15 dc15 pm15 cd15 ct15 : Value}
    (a15 : PySem.W.nsIn K mainGlobals "_law_change" = some (some (.ref f15))) (l15 : K.lookup f15 = some ⟨oc15, od15, .func (PySem.W.fnOf "_law_change" "_law_change" (defArgs s_l_change) (defBody s_l_change) (defScope s_l_change) .none kV15 dc15 pm15 an15 cd15 ct15), sl15⟩)
    (c15 : PySem.W.codeIn K cd15 "_law_change" = true) (k15 : PySem.W.keepIn K (.ref f15) = true)
    {f16 : Addr} {od16 an16 : Option Addr} {sl16 : Array (Option Value)} {oc16 kV16 dc16 pm16 cd16 ct16 : Value}
    (a16 : PySem.W.nsIn K mainGlobals "least_steps" = some (some (.ref f16))) (l16 : K.lookup f16 = some ⟨oc16, od16, .func (PySem.W.fnOf "least_steps" "least_steps" (defArgs s_least_steps) (defBody s_least_steps) (defScope s_least_steps) .none kV16 dc16 pm16 an16 cd16 ct16), sl16⟩)
    (c16 : PySem.W.codeIn K cd16 "least_steps" = true) (k16 : PySem.W.keepIn K (.ref f16) = true)
    {f17 : Addr} {od17 an17 : Option Addr} {sl17 : Array (Option Value)} {oc17 kV17 dc17 pm17 cd17 ct17 : Value}
    (a17 : PySem.W.nsIn K mainGlobals "greatest_ways" = some (some (.ref f17))) (l17 : K.lookup f17 = some ⟨oc17, od17, .func (PySem.W.fnOf "greatest_ways" "greatest_ways" (defArgs s_greatest_ways) (defBody s_greatest_ways) (defScope s_greatest_ways) .none kV17 dc17 pm17 an17 cd17 ct17), sl17⟩)
    (c17 : PySem.W.codeIn K cd17 "greatest_ways" = true) (k17 : PySem.W.keepIn K (.ref f17) = true)
    {f18 : Addr} {od18 an18 : Option Addr} {sl18 : Array (Option Value)} {oc18 kV18 dc18 pm18 cd18 ct18 : Value}
    (a18 : PySem.W.nsIn K mainGlobals "ways" = some (some (.ref f18))) (l18 : K.lookup f18 = some ⟨oc18, od18, .func (PySem.W.fnOf "ways" "ways" (defArgs s_ways) (defBody s_ways) (defScope s_ways) .none kV18 dc18 pm18 an18 cd18 ct18), sl18⟩)
    (c18 : PySem.W.codeIn K cd18 "ways" = true) (k18 : PySem.W.keepIn K (.ref f18) = true)
    {f19 : Addr} {od19 an19 : Option Addr} {sl19 : Array (Option Value)} {oc19 kV19 dc19 pm19 cd19 ct19 : Value}
    (a19 : PySem.W.nsIn K mainGlobals "is_round" = some (some (.ref f19))) (l19 : K.lookup f19 = some ⟨oc19, od19, .func (PySem.W.fnOf "is_round" "is_round" (defArgs s_is_round) (defBody s_is_round) (defScope s_is_round) .none kV19 dc19 pm19 an19 cd19 ct19), sl19⟩)
    (c19 : PySem.W.codeIn K cd19 "is_round" = true) (k19 : PySem.W.keepIn K (.ref f19) = true)
    {f20 : Addr} {od20 an20 : Option Addr} {sl20 : Array (Option Value)} {oc20 kV20 dc20 pm20 cd20 ct20 : Value}
    (a20 : PySem.W.nsIn K mainGlobals "do_hold" = some (some (.ref f20))) (l20 : K.lookup f20 = some ⟨oc20, od20, .func (PySem.W.fnOf "do_hold" "do_hold" (defArgs s_do_hold) (defBody s_do_hold) (defScope s_do_hold) .none kV20 dc20 pm20 an20 cd20 ct20), sl20⟩)
    (c20 : PySem.W.codeIn K cd20 "do_hold" = true) (k20 : PySem.W.keepIn K (.ref f20) = true)
    {f21 : Addr} {od21 an21 : Option Addr} {sl21 : Array (Option Value)} {oc21 kV21 dc21 pm21 cd21 ct21 : Value}
    (a21 : PySem.W.nsIn K mainGlobals "sure_ways" = some (some (.ref f21))) (l21 : K.lookup f21 = some ⟨oc21, od21, .func (PySem.W.fnOf "sure_ways" "sure_ways" (defArgs s_sure_ways) (defBody s_sure_ways) (defScope s_sure_ways) .none kV21 dc21 pm21 an21 cd21 ct21), sl21⟩)
    (c21 : PySem.W.codeIn K cd21 "sure_ways" = true) (k21 : PySem.W.keepIn K (.ref f21) = true)
    {f22 : Addr} {od22 an22 : Option Addr} {sl22 : Array (Option Value)} {oc22 kV22 dc22 pm22 cd22 ct22 : Value}
    (a22 : PySem.W.nsIn K mainGlobals "ends" = some (some (.ref f22))) (l22 : K.lookup f22 = some ⟨oc22, od22, .func (PySem.W.fnOf "ends" "ends" (defArgs s_ends) (defBody s_ends) (defScope s_ends) .none kV22 dc22 pm22 an22 cd22 ct22), sl22⟩)
    (c22 : PySem.W.codeIn K cd22 "ends" = true) (k22 : PySem.W.keepIn K (.ref f22) = true)
    {f23 : Addr} {od23 an23 : Option Addr} {sl23 : Array (Option Value)} {oc23 kV23 dc23 pm23 cd23 ct23 : Value}
    (a23 : PySem.W.findIn K (.ref CDig) "would_change" = some (some (.ref f23))) (x23 : PySem.W.isFn K (.ref f23) = true) (l23 : K.lookup f23 = some ⟨oc23, od23, .func (PySem.W.fnOf "would_change" "Dig.would_change" (defArgs s_Dig_would_change) (defBody s_Dig_would_change) (defScope s_Dig_would_change) .none kV23 dc23 pm23 an23 cd23 ct23), sl23⟩)
    (c23 : PySem.W.codeIn K cd23 "Dig.would_change" = true) (k23 : PySem.W.keepIn K (.ref f23) = true)
    {f24 : Addr} {od24 an24 : Option Addr} {sl24 : Array (Option Value)} {oc24 kV24 dc24 pm24 cd24 ct24 : Value}
    (a24 : PySem.W.nsIn K mainGlobals "_law_told" = some (some (.ref f24))) (l24 : K.lookup f24 = some ⟨oc24, od24, .func (PySem.W.fnOf "_law_told" "_law_told" (defArgs s_l_told) (defBody s_l_told) (defScope s_l_told) .none kV24 dc24 pm24 an24 cd24 ct24), sl24⟩)
    (c24 : PySem.W.codeIn K cd24 "_law_told" = true) (k24 : PySem.W.keepIn K (.ref f24) = true)
    {f25 : Addr} {od25 an25 : Option Addr} {sl25 : Array (Option Value)} {oc25 kV25 dc25 pm25 cd25 ct25 : Value}
    (a25 : PySem.W.findIn K (.ref CDig) "strike" = some (some (.ref f25))) (x25 : PySem.W.isFn K (.ref f25) = true) (l25 : K.lookup f25 = some ⟨oc25, od25, .func (PySem.W.fnOf "strike" "Dig.strike" (defArgs s_Dig_strike) (defBody s_Dig_strike) (defScope s_Dig_strike) .none kV25 dc25 pm25 an25 cd25 ct25), sl25⟩)
    (c25 : PySem.W.codeIn K cd25 "Dig.strike" = true) (k25 : PySem.W.keepIn K (.ref f25) = true)
    {f26 : Addr} {od26 an26 : Option Addr} {sl26 : Array (Option Value)} {oc26 kV26 dc26 pm26 cd26 ct26 : Value}
    (a26 : PySem.W.findIn K (.ref CDig) "undo" = some (some (.ref f26))) (x26 : PySem.W.isFn K (.ref f26) = true) (l26 : K.lookup f26 = some ⟨oc26, od26, .func (PySem.W.fnOf "undo" "Dig.undo" (defArgs s_Dig_undo) (defBody s_Dig_undo) (defScope s_Dig_undo) .none kV26 dc26 pm26 an26 cd26 ct26), sl26⟩)
    (c26 : PySem.W.codeIn K cd26 "Dig.undo" = true) (k26 : PySem.W.keepIn K (.ref f26) = true)
    {f27 : Addr} {od27 an27 : Option Addr} {sl27 : Array (Option Value)} {oc27 kV27 dc27 pm27 cd27 ct27 : Value}
    (a27 : PySem.W.nsIn K mainGlobals "_law_done" = some (some (.ref f27))) (l27 : K.lookup f27 = some ⟨oc27, od27, .func (PySem.W.fnOf "_law_done" "_law_done" (defArgs s_l_done) (defBody s_l_done) (defScope s_l_done) .none kV27 dc27 pm27 an27 cd27 ct27), sl27⟩)
    (c27 : PySem.W.codeIn K cd27 "_law_done" = true) (k27 : PySem.W.keepIn K (.ref f27) = true)
    {f28 : Addr} {od28 an28 : Option Addr} {sl28 : Array (Option Value)} {oc28 kV28 dc28 pm28 cd28 ct28 : Value}
    (a28 : PySem.W.nsIn K mainGlobals "_law_due" = some (some (.ref f28))) (l28 : K.lookup f28 = some ⟨oc28, od28, .func (PySem.W.fnOf "_law_due" "_law_due" (defArgs s_l_due) (defBody s_l_due) (defScope s_l_due) .none kV28 dc28 pm28 an28 cd28 ct28), sl28⟩)
    (c28 : PySem.W.codeIn K cd28 "_law_due" = true) (k28 : PySem.W.keepIn K (.ref f28) = true)
    {f29 : Addr} {od29 an29 : Option Addr} {sl29 : Array (Option Value)} {oc29 kV29 dc29 pm29 cd29 ct29 : Value}
    (a29 : PySem.W.nsIn K mainGlobals "law" = some (some (.ref f29))) (l29 : K.lookup f29 = some ⟨oc29, od29, .func (PySem.W.fnOf "law" "law" (defArgs s_law) (defBody s_law) (defScope s_law) .none kV29 dc29 pm29 an29 cd29 ct29), sl29⟩)
    (c29 : PySem.W.codeIn K cd29 "law" = true) (k29 : PySem.W.keepIn K (.ref f29) = true)
    (z_len : PySem.W.nsIn K mainGlobals "len" = some none)
    (z_list : PySem.W.nsIn K mainGlobals "list" = some none)
    (z_int : PySem.W.nsIn K mainGlobals "int" = some none)
    (z_abs : PySem.W.nsIn K mainGlobals "abs" = some none)
    (z_all : PySem.W.nsIn K mainGlobals "all" = some none)
    (z_bool : PySem.W.nsIn K mainGlobals "bool" = some none)
    (z_isinstance : PySem.W.nsIn K mainGlobals "isinstance" = some none)
    (z_range : PySem.W.nsIn K mainGlobals "range" = some none)
    (z_str : PySem.W.nsIn K mainGlobals "str" = some none)
    (z_tuple : PySem.W.nsIn K mainGlobals "tuple" = some none)
    (z_any : PySem.W.nsIn K mainGlobals "any" = some none)
    {t_MOST_RECORDS : Tok} (z_MOST_RECORDS : PySem.W.nsIn K mainGlobals "MOST_RECORDS" = some (some (.int 300 t_MOST_RECORDS)))
    {C_TooMany : Addr} (z_TooMany : PySem.W.nsIn K mainGlobals "TooMany" = some (some (.ref C_TooMany))) (x_TooMany : PySem.W.excIn K C_TooMany veTail "ValueError.__new__" = true) (k_TooMany : PySem.W.keepIn K (.ref C_TooMany) = true) (l_TooMany : PySem.W.subIn K (.ref C_TooMany) (.type "BaseException") = some true) (c_TooMany : PySem.W.typeIn K (.ref C_TooMany) = some (.type "type")) (v_TooMany : PySem.W.isClsIn K C_TooMany = true)
    {C_Unsure : Addr} (z_Unsure : PySem.W.nsIn K mainGlobals "Unsure" = some (some (.ref C_Unsure))) (x_Unsure : PySem.W.excIn K C_Unsure veTail "ValueError.__new__" = true) (k_Unsure : PySem.W.keepIn K (.ref C_Unsure) = true) (l_Unsure : PySem.W.subIn K (.ref C_Unsure) (.type "BaseException") = some true) (c_Unsure : PySem.W.typeIn K (.ref C_Unsure) = some (.type "type")) (v_Unsure : PySem.W.isClsIn K C_Unsure = true)
    {C_NoDeed : Addr} (z_NoDeed : PySem.W.nsIn K mainGlobals "NoDeed" = some (some (.ref C_NoDeed))) (x_NoDeed : PySem.W.excIn K C_NoDeed veTail "ValueError.__new__" = true) (k_NoDeed : PySem.W.keepIn K (.ref C_NoDeed) = true) (l_NoDeed : PySem.W.subIn K (.ref C_NoDeed) (.type "BaseException") = some true) (c_NoDeed : PySem.W.typeIn K (.ref C_NoDeed) = some (.type "type")) (v_NoDeed : PySem.W.isClsIn K C_NoDeed = true)
    (w_Unsure_Unsure : PySem.W.subIn K (.ref C_Unsure) (.ref C_Unsure) = some true)
    (w_NoDeed_NoDeed : PySem.W.subIn K (.ref C_NoDeed) (.ref C_NoDeed) = some true)
    (w_TooMany_NoDeed : PySem.W.subIn K (.ref C_TooMany) (.ref C_NoDeed) = some false)
    (w_TooMany_TooMany : PySem.W.subIn K (.ref C_TooMany) (.ref C_TooMany) = some true) :
    ∃ fd : FuncData, (∀ (s : Shared) (v : Value), BindsTo s fd ⟨[v], []⟩ [("script", v)]) ∧ ∀ base : Heap, K.In base → base.Ns mainGlobals mg → FnOk l.prog w K mg base (L2.CX l.prog w) 7 fa fd ["script"] (spF K noCls 1 F_yes) := by
  have e := hfa.symm.trans (PySem.W.mg_of X G a29)
  cases e
  have m_len := PySem.W.mg_none_of X G z_len
  have m_list := PySem.W.mg_none_of X G z_list
  have m_int := PySem.W.mg_none_of X G z_int
  have m_abs := PySem.W.mg_none_of X G z_abs
  have m_all := PySem.W.mg_none_of X G z_all
  have m_bool := PySem.W.mg_none_of X G z_bool
  have m_isinstance := PySem.W.mg_none_of X G z_isinstance
  have m_range := PySem.W.mg_none_of X G z_range
  have m_str := PySem.W.mg_none_of X G z_str
  have m_tuple := PySem.W.mg_none_of X G z_tuple
  have m_any := PySem.W.mg_none_of X G z_any
  have m_MOST_RECORDS := PySem.W.mg_of X G z_MOST_RECORDS
  have T_Dig : ClT K mg "Dig" CDig ["n", "rows", "past"] := ⟨PySem.W.mg_of X G z_Dig, ⟨k_Dig_pg, k_Dig_hd, k_Dig_po, k_Dig_sa⟩, List.forall_mem_cons.mpr ⟨k_Dig_f_n, List.forall_mem_cons.mpr ⟨k_Dig_f_rows, List.forall_mem_cons.mpr ⟨k_Dig_f_past, fun _ h => nomatch h⟩⟩⟩⟩
  have T_Dig_init : Txi K CDig "Dig.__init__" s_Dig_init P_Dig_init := txi_mk a0 x0 l0 c0 k0 k_Dig_mk k_Dig_kc fun _ _ _ _ _ _ us hl => match us, hl with | [_, _], _ => rfl
  have T_Dig_add : Txm K CDig "add" "Dig.add" s_Dig_add P_Dig_add := txm_mk a1 x1 l1 c1 k1 fun _ _ _ _ _ _ us hl => match us, hl with | [_, _], _ => rfl
  have T_Dig_records : Txm K CDig "records" "Dig.records" s_Dig_records P_Dig_records := txm_mk a2 x2 l2 c2 k2 fun _ _ _ _ _ _ us hl => match us, hl with | [_], _ => rfl
  have T_Dig_copy : Txm K CDig "copy" "Dig.copy" s_Dig_copy P_Dig_copy := txm_mk a3 x3 l3 c3 k3 fun _ _ _ _ _ _ us hl => match us, hl with | [_], _ => rfl
  have T_l_stream : Txt K mg "_law_stream" s_l_stream P_l_stream := txt_mk (PySem.W.mg_of X G a4) l4 c4 k4 fun _ _ _ _ _ _ us hl => match us, hl with | [_], _ => rfl
  have T_l_draw : Txt K mg "_law_draw" s_l_draw P_l_draw := txt_mk (PySem.W.mg_of X G a5) l5 c5 k5 fun _ _ _ _ _ _ us hl => match us, hl with | [_, _], _ => rfl
  have T_l_same : Txt K mg "_law_same" s_l_same P_l_same := txt_mk (PySem.W.mg_of X G a6) l6 c6 k6 fun _ _ _ _ _ _ us hl => match us, hl with | [_, _], _ => rfl
  have T_l_units : Txt K mg "_law_units" s_l_units P_l_units := txt_mk (PySem.W.mg_of X G a7) l7 c7 k7 fun _ _ _ _ _ _ us hl => match us, hl with | [_], _ => rfl
  have T_l_pick : Txt K mg "_law_pick" s_l_pick P_l_pick := txt_mk (PySem.W.mg_of X G a8) l8 c8 k8 fun _ _ _ _ _ _ us hl => match us, hl with | [_, _], _ => rfl
  have T_l_other : Txt K mg "_law_other" s_l_other P_l_other := txt_mk (PySem.W.mg_of X G a9) l9 c9 k9 fun _ _ _ _ _ _ us hl => match us, hl with | [_, _, _], _ => rfl
  have T_l_record : Txt K mg "_law_record" s_l_record P_l_record := txt_mk (PySem.W.mg_of X G a10) l10 c10 k10 fun _ _ _ _ _ _ us hl => match us, hl with | [_, _, _], _ => rfl
  have T_l_steps : Txt K mg "_law_steps" s_l_steps P_l_steps := txt_mk (PySem.W.mg_of X G a11) l11 c11 k11 fun _ _ _ _ _ _ us hl => match us, hl with | [_, _], _ => rfl
  have T_l_far : Txt K mg "_law_far" s_l_far P_l_far := txt_mk (PySem.W.mg_of X G a12) l12 c12 k12 fun _ _ _ _ _ _ us hl => match us, hl with | [_, _, _], _ => rfl
  have T_l_holds : Txt K mg "_law_holds" s_l_holds P_l_holds := txt_mk (PySem.W.mg_of X G a13) l13 c13 k13 fun _ _ _ _ _ _ us hl => match us, hl with | [_, _], _ => rfl
  have T_l_reaches : Txt K mg "_law_reaches" s_l_reaches P_l_reaches := txt_mk (PySem.W.mg_of X G a14) l14 c14 k14 fun _ _ _ _ _ _ us hl => match us, hl with | [_, _], _ => rfl
  have T_l_change : Txt K mg "_law_change" s_l_change P_l_change := txt_mk (PySem.W.mg_of X G a15) l15 c15 k15 fun _ _ _ _ _ _ us hl => match us, hl with | [_, _, _], _ => rfl
  have T_least_steps : Txt K mg "least_steps" s_least_steps P_least_steps := txt_mk (PySem.W.mg_of X G a16) l16 c16 k16 fun _ _ _ _ _ _ us hl => match us, hl with | [_, _], _ => rfl
  have T_greatest_ways : Txt K mg "greatest_ways" s_greatest_ways P_greatest_ways := txt_mk (PySem.W.mg_of X G a17) l17 c17 k17 fun _ _ _ _ _ _ us hl => match us, hl with | [_, _], _ => rfl
  have T_ways : Txt K mg "ways" s_ways P_ways := txt_mk (PySem.W.mg_of X G a18) l18 c18 k18 fun _ _ _ _ _ _ us hl => match us, hl with | [_, _], _ => rfl
  have T_is_round : Txt K mg "is_round" s_is_round P_is_round := txt_mk (PySem.W.mg_of X G a19) l19 c19 k19 fun _ _ _ _ _ _ us hl => match us, hl with | [_], _ => rfl
  have T_do_hold : Txt K mg "do_hold" s_do_hold P_do_hold := txt_mk (PySem.W.mg_of X G a20) l20 c20 k20 fun _ _ _ _ _ _ us hl => match us, hl with | [_, _], _ => rfl
  have T_sure_ways : Txt K mg "sure_ways" s_sure_ways P_sure_ways := txt_mk (PySem.W.mg_of X G a21) l21 c21 k21 fun _ _ _ _ _ _ us hl => match us, hl with | [_, _], _ => rfl
  have T_ends : Txt K mg "ends" s_ends P_ends := txt_mk (PySem.W.mg_of X G a22) l22 c22 k22 fun _ _ _ _ _ _ us hl => match us, hl with | [_, _, _], _ => rfl
  have T_Dig_would_change : Txm K CDig "would_change" "Dig.would_change" s_Dig_would_change P_Dig_would_change := txm_mk a23 x23 l23 c23 k23 fun _ _ _ _ _ _ us hl => match us, hl with | [_, _], _ => rfl
  have T_l_told : Txt K mg "_law_told" s_l_told P_l_told := txt_mk (PySem.W.mg_of X G a24) l24 c24 k24 fun _ _ _ _ _ _ us hl => match us, hl with | [_, _], _ => rfl
  have T_Dig_strike : Txm K CDig "strike" "Dig.strike" s_Dig_strike P_Dig_strike := txm_mk a25 x25 l25 c25 k25 fun _ _ _ _ _ _ us hl => match us, hl with | [_, _], _ => rfl
  have T_Dig_undo : Txm K CDig "undo" "Dig.undo" s_Dig_undo P_Dig_undo := txm_mk a26 x26 l26 c26 k26 fun _ _ _ _ _ _ us hl => match us, hl with | [_], _ => rfl
  have T_l_done : Txt K mg "_law_done" s_l_done P_l_done := txt_mk (PySem.W.mg_of X G a27) l27 c27 k27 fun _ _ _ _ _ _ us hl => match us, hl with | [_, _, _], _ => rfl
  have T_l_due : Txt K mg "_law_due" s_l_due P_l_due := txt_mk (PySem.W.mg_of X G a28) l28 c28 k28 fun _ _ _ _ _ _ us hl => match us, hl with | [_, _, _, _], _ => rfl
  have FL := fun_mk (st := s_law) l29 c29 k29
  obtain ⟨CL, hC_TooMany, hC_Unsure, hC_NoDeed, _⟩ : ∃ CL : Cls0, CL "TooMany" = .ref C_TooMany ∧ CL "Unsure" = .ref C_Unsure ∧ CL "NoDeed" = .ref C_NoDeed ∧ True := ⟨fun x => if x = "TooMany" then .ref C_TooMany else if x = "Unsure" then .ref C_Unsure else if x = "NoDeed" then .ref C_NoDeed else .none, by simp, by simp, by simp, trivial⟩
  have X_TooMany : Xcl K mg CL "TooMany" := ⟨C_TooMany, hC_TooMany, PySem.W.mg_of X G z_TooMany, x_TooMany, k_TooMany, l_TooMany, c_TooMany⟩
  have X_Unsure : Xcl K mg CL "Unsure" := ⟨C_Unsure, hC_Unsure, PySem.W.mg_of X G z_Unsure, x_Unsure, k_Unsure, l_Unsure, c_Unsure⟩
  have X_NoDeed : Xcl K mg CL "NoDeed" := ⟨C_NoDeed, hC_NoDeed, PySem.W.mg_of X G z_NoDeed, x_NoDeed, k_NoDeed, l_NoDeed, c_NoDeed⟩
  have Y_Unsure_0 : Xtb K mg CL "Unsure" [("Unsure", true)] := ⟨C_Unsure, PySem.W.mg_of X G z_Unsure, List.forall_mem_cons.mpr ⟨by rw [hC_Unsure]; exact exm_two l_Unsure v_Unsure c_Unsure w_Unsure_Unsure, fun _ h => nomatch h⟩⟩
  have Y_NoDeed_1 : Xtb K mg CL "NoDeed" [("NoDeed", true), ("TooMany", false)] := ⟨C_NoDeed, PySem.W.mg_of X G z_NoDeed, List.forall_mem_cons.mpr ⟨by rw [hC_NoDeed]; exact exm_two l_NoDeed v_NoDeed c_NoDeed w_NoDeed_NoDeed, List.forall_mem_cons.mpr ⟨by rw [hC_TooMany]; exact exm_two l_NoDeed v_NoDeed c_NoDeed w_TooMany_NoDeed, fun _ h => nomatch h⟩⟩⟩
  have Y_TooMany_2 : Xtb K mg CL "TooMany" [("TooMany", true)] := ⟨C_TooMany, PySem.W.mg_of X G z_TooMany, List.forall_mem_cons.mpr ⟨by rw [hC_TooMany]; exact exm_two l_TooMany v_TooMany c_TooMany w_TooMany_TooMany, fun _ h => nomatch h⟩⟩
  refine ⟨PySem.W.fnOf "law" "law" (defArgs s_law) (defBody s_law) (defScope s_law) .none kV29 dc29 pm29 an29 cd29 ct29, fun s v => .of_eq rfl, fun base _ _ => ?_⟩
  have Q_Dig := ok_Dig_init (P := l.prog) (w := w) (base := base) (CL := CL) T_Dig_init T_Dig
  have M_Dig_add := ok_Dig_add (P := l.prog) (w := w) (base := base) (CL := CL) T_Dig_add T_Dig m_len m_list m_MOST_RECORDS X_TooMany
  have M_Dig_records := ok_Dig_records (P := l.prog) (w := w) (base := base) (CL := CL) T_Dig_records T_Dig m_list
  have M_Dig_copy := ok_Dig_copy (P := l.prog) (w := w) (base := base) (CL := CL) T_Dig_copy T_Dig Q_Dig m_list
  have C_l_stream := ok_l_stream (P := l.prog) (w := w) (base := base) (CL := CL) T_l_stream m_int m_list
  have C_l_draw := ok_l_draw (P := l.prog) (w := w) (base := base) (CL := CL) T_l_draw m_abs m_int m_len
  have C_l_same := ok_l_same (P := l.prog) (w := w) (base := base) (CL := CL) T_l_same m_all m_bool m_int m_isinstance m_len m_list m_range m_str m_tuple
  have C_l_units := ok_l_units (P := l.prog) (w := w) (base := base) (CL := CL) T_l_units C_l_draw
  have C_l_pick := ok_l_pick (P := l.prog) (w := w) (base := base) (CL := CL) T_l_pick C_l_draw m_len
  have C_l_other := ok_l_other (P := l.prog) (w := w) (base := base) (CL := CL) T_l_other C_l_draw m_int
  have C_l_record := ok_l_record (P := l.prog) (w := w) (base := base) (CL := CL) T_l_record C_l_draw C_l_pick C_l_other
  have C_l_steps := ok_l_steps (P := l.prog) (w := w) (base := base) (CL := CL) T_l_steps 
  have C_l_far := ok_l_far (P := l.prog) (w := w) (base := base) (CL := CL) T_l_far m_int m_range
  have C_l_holds := ok_l_holds (P := l.prog) (w := w) (base := base) (CL := CL) T_l_holds C_l_steps C_l_far m_list m_range
  have C_l_reaches := ok_l_reaches (P := l.prog) (w := w) (base := base) (CL := CL) T_l_reaches C_l_steps C_l_far m_range
  have C_l_change := ok_l_change (P := l.prog) (w := w) (base := base) (CL := CL) T_l_change C_l_holds C_l_reaches m_range
  have C_least_steps := ok_least_steps (P := l.prog) (w := w) (base := base) (CL := CL) T_least_steps 
  have C_greatest_ways := ok_greatest_ways (P := l.prog) (w := w) (base := base) (CL := CL) T_greatest_ways m_range
  have C_ways := ok_ways (P := l.prog) (w := w) (base := base) (CL := CL) T_ways C_least_steps C_greatest_ways
  have C_is_round := ok_is_round (P := l.prog) (w := w) (base := base) (CL := CL) T_is_round m_any m_len m_range
  have C_do_hold := ok_do_hold (P := l.prog) (w := w) (base := base) (CL := CL) T_do_hold C_ways C_is_round
  have C_sure_ways := ok_sure_ways (P := l.prog) (w := w) (base := base) (CL := CL) T_sure_ways C_ways C_is_round X_Unsure
  have C_ends := ok_ends (P := l.prog) (w := w) (base := base) (CL := CL) T_ends 
  have M_Dig_would_change := ok_Dig_would_change (P := l.prog) (w := w) (base := base) (CL := CL) T_Dig_would_change T_Dig C_ways C_do_hold C_sure_ways C_ends m_range X_Unsure
  have C_l_told := ok_l_told (P := l.prog) (w := w) (base := base) (CL := CL) T_l_told T_Dig M_Dig_would_change Y_Unsure_0
  have M_Dig_strike := ok_Dig_strike (P := l.prog) (w := w) (base := base) (CL := CL) T_Dig_strike T_Dig m_len m_list X_NoDeed
  have M_Dig_undo := ok_Dig_undo (P := l.prog) (w := w) (base := base) (CL := CL) T_Dig_undo T_Dig X_NoDeed
  have C_l_done := ok_l_done (P := l.prog) (w := w) (base := base) (CL := CL) T_l_done T_Dig M_Dig_add M_Dig_strike M_Dig_undo Y_NoDeed_1 Y_TooMany_2
  have C_l_due := ok_l_due (P := l.prog) (w := w) (base := base) (CL := CL) T_l_due m_len m_list
  exact (fn_D (CL := CL) FL sc_law (b := (b_law CDig)) (fun cdv A outer s H E O =>
  (rss_cons (rs_set (i := 1) O rfl (by first | exact .inl rfl | exact .inr rfl) (re_fn O C_l_stream (by decide) (ra_cons (re_var 0) ra_nil)))
  (rss_cons (rs_set (i := 2) O rfl (by first | exact .inl rfl | exact .inr rfl) (re_fn O C_l_units (by decide) (ra_cons (re_var 1) ra_nil)))
  (rss_cons (rs_set (i := 3) O rfl (by first | exact .inl rfl | exact .inr rfl) (re_lst false (ra_cons re_str (ra_cons re_str (ra_cons re_str (ra_cons re_str (ra_cons re_str (ra_cons re_str (ra_cons re_str ra_nil))))))) (Nat.le_of_ble_eq_true rfl)))
  (rss_cons (rs_set (i := 4) O rfl (by first | exact .inl rfl | exact .inr rfl) (re_make O T_Dig Q_Dig (by decide) (ra_cons (re_var 2) ra_nil)))
  (rss_cons (rs_set (i := 5) O rfl (by first | exact .inl rfl | exact .inr rfl) (re_lst true ra_nil (Nat.le_of_ble_eq_true rfl)))
  (rss_cons (rs_set (i := 6) O rfl (by first | exact .inl rfl | exact .inr rfl) (re_lst true ra_nil (Nat.le_of_ble_eq_true rfl)))
  (rss_cons (rs_set (i := 7) O rfl (by first | exact .inl rfl | exact .inr rfl) re_non)
  (rss_cons (rs_if (rt_eq O.hu (re_fn O C_l_draw (by decide) (ra_cons (re_var 1) (ra_cons re_int ra_nil))) re_int) (rss_one (rs_for O (ri_rg1 m_range (ra_cons (re_add false re_int (re_fn O C_l_draw (by decide) (ra_cons (re_var 1) (ra_cons re_int ra_nil)))) ra_nil)) (rg_name (i := 8) O rfl (by first | exact .inl rfl | exact .inr rfl))
   (rss_cons (rs_set (i := 9) O rfl (by first | exact .inl rfl | exact .inr rfl) (re_fn O C_l_record (by decide) (ra_cons (re_var 1) (ra_cons (re_var 2) (ra_cons (re_lst false (ra_cons re_str ra_nil) (Nat.le_of_ble_eq_true rfl)) ra_nil)))))
  (rss_cons (rs_expr (re_meth O T_Dig M_Dig_add (by decide) (re_var 4) (ra_cons (re_var 9) ra_nil)))
  (rss_cons (rs_expr (re_mAppend (re_var 6) (ra_cons (re_list O false m_list (ra_cons (re_var 5) ra_nil)) ra_nil)))
  (rss_one (rs_expr (re_mAppend (re_var 5) (ra_cons (re_var 9) ra_nil))))))))) rss_nil)
  (rss_cons (rs_for O (ri_rg1 m_range (ra_cons (re_fn O C_l_draw (by decide) (ra_cons (re_var 1) (ra_cons re_int ra_nil))) ra_nil)) (rg_name (i := 8) O rfl (by first | exact .inl rfl | exact .inr rfl))
   (rss_cons (rs_set (i := 10) O rfl (by first | exact .inl rfl | exact .inr rfl) (re_sub2 O.hu (re_lst false (ra_cons re_str (ra_cons re_str (ra_cons re_str (ra_cons re_str (ra_cons re_str (ra_cons re_str (ra_cons re_str ra_nil))))))) (Nat.le_of_ble_eq_true rfl)) (re_fn O C_l_draw (by decide) (ra_cons (re_var 1) (ra_cons re_int ra_nil)))))
  (rss_cons (rs_set (i := 11) O rfl (by first | exact .inl rfl | exact .inr rfl) (re_fn O C_l_record (by decide) (ra_cons (re_var 1) (ra_cons (re_var 2) (ra_cons (re_var 3) ra_nil)))))
  (rss_cons (rs_set (i := 12) O rfl (by first | exact .inl rfl | exact .inr rfl) (re_var 11))
  (rss_cons (rs_if (rt_eq O.hu (re_var 10) re_str) (rss_one (rs_set (i := 12) O rfl (by first | exact .inl rfl | exact .inr rfl) (re_sub (re_fn O C_l_draw (by decide) (ra_cons (re_var 1) (ra_cons (re_add false (re_len m_len (ra_cons (re_var 5) ra_nil)) re_int) ra_nil))) (re_intc m_int (ra_cons (re_eq O.hu (re_fn O C_l_draw (by decide) (ra_cons (re_var 1) (ra_cons re_int ra_nil))) re_int) ra_nil))))) rss_nil)
  (rss_cons (rs_if (rt_eq O.hu (re_var 10) re_str) (rss_one (rs_set (i := 7) O rfl (by first | exact .inl rfl | exact .inr rfl) (re_tup (ra_cons (re_meth0 O T_Dig M_Dig_copy (by decide) (re_var 4)) (ra_cons (re_list O true m_list (ra_cons (re_var 5) ra_nil)) (ra_cons (re_lc (own := [("one", 9)]) O true (ri_seq (re_var 6)) (blkOk_by (N := N_law) (sc := defScope s_law) (by decide +kernel)) (fun _ _ _ _ _ O' => (rg_name (i := 9) O' rfl (by first | exact .inl rfl | exact .inr rfl))) (fun _ _ _ _ _ O' => rts_nil) (fun _ _ _ _ _ O' => (re_list O' false m_list (ra_cons (re_var 9) ra_nil)))) ra_nil))) (Nat.le_of_ble_eq_true rfl)))) (rss_one (rs_if (rt_eq O.hu (re_var 10) re_str) (rss_one (rs_if (rt_not (rt_tr (re_fn O C_l_same (by decide) (ra_cons (re_fn O C_l_told (by decide) (ra_cons (re_var 4) (ra_cons (re_var 11) ra_nil))) (ra_cons (re_fn O C_l_change (by decide) (ra_cons (re_var 2) (ra_cons (re_var 5) (ra_cons (re_var 11) ra_nil)))) ra_nil))))) (rss_one (rs_ret re_bl)) rss_nil)) (rss_one (rs_if (rt_ne O.hu (re_fn O C_l_done (by decide) (ra_cons (re_var 4) (ra_cons (re_var 10) (ra_cons (re_var 12) ra_nil)))) (re_fn O C_l_due (by decide) (ra_cons (re_var 5) (ra_cons (re_var 6) (ra_cons (re_var 10) (ra_cons (re_var 12) ra_nil)))))) (rss_one (rs_ret re_bl)) rss_nil)))))
  (rss_cons (rs_set (i := 13) O rfl (by first | exact .inl rfl | exact .inr rfl) (re_meth0 O T_Dig M_Dig_records (by decide) (re_var 4)))
  (rss_cons (rs_if (rt_not (rt_tr (re_fn O C_l_same (by decide) (ra_cons (re_var 13) (ra_cons (re_var 5) ra_nil))))) (rss_one (rs_ret re_bl)) rss_nil)
  (rss_one (rs_expr (re_mAppend (re_var 13) (ra_cons re_non ra_nil))))))))))))
  (rss_cons (rs_if (rt_is (re_var 7) re_non) (rss_one (rs_ret (re_fn O C_l_same (by decide) (ra_cons (re_meth0 O T_Dig M_Dig_records (by decide) (re_var 4)) (ra_cons (re_var 5) ra_nil))))) rss_nil)
  (rss_cons (rs_asg O (rg_tup (n := 3) O (rgs_cons (i := 14) O rfl (by first | exact .inl rfl | exact .inr rfl) (rgs_cons (i := 15) O rfl (by first | exact .inl rfl | exact .inr rfl) (rgs_cons (i := 16) O rfl (by first | exact .inl rfl | exact .inr rfl) rgs_nil)))) (re_var 7))
  (rss_cons (rs_if (rt_not (rt_tr (re_fn O C_l_same (by decide) (ra_cons (re_meth0 O T_Dig M_Dig_records (by decide) (re_var 14)) (ra_cons (re_var 15) ra_nil))))) (rss_one (rs_ret re_bl)) rss_nil)
  (rss_cons (rs_for O (ri_rg1 m_range (ra_cons (re_fn O C_l_draw (by decide) (ra_cons (re_var 1) (ra_cons (re_sub2 O.hu (re_lst false (ra_cons re_int (ra_cons re_int ra_nil)) (Nat.le_of_ble_eq_true rfl)) (re_fn O C_l_draw (by decide) (ra_cons (re_var 1) (ra_cons re_int ra_nil)))) ra_nil))) ra_nil)) (rg_name (i := 8) O rfl (by first | exact .inl rfl | exact .inr rfl))
   (rss_cons (rs_set (i := 10) O rfl (by first | exact .inl rfl | exact .inr rfl) (re_sub2 O.hu (re_lst false (ra_cons re_str (ra_cons re_str (ra_cons re_str (ra_cons re_str (ra_cons re_str ra_nil))))) (Nat.le_of_ble_eq_true rfl)) (re_fn O C_l_draw (by decide) (ra_cons (re_var 1) (ra_cons re_int ra_nil)))))
  (rss_cons (rs_set (i := 12) O rfl (by first | exact .inl rfl | exact .inr rfl) (re_fn O C_l_record (by decide) (ra_cons (re_var 1) (ra_cons (re_var 2) (ra_cons (re_var 3) ra_nil)))))
  (rss_cons (rs_if (rt_eq O.hu (re_var 10) re_str) (rss_one (rs_set (i := 12) O rfl (by first | exact .inl rfl | exact .inr rfl) (re_sub (re_fn O C_l_draw (by decide) (ra_cons (re_var 1) (ra_cons (re_add false (re_len m_len (ra_cons (re_var 15) ra_nil)) re_int) ra_nil))) (re_intc m_int (ra_cons (re_eq O.hu (re_fn O C_l_draw (by decide) (ra_cons (re_var 1) (ra_cons re_int ra_nil))) re_int) ra_nil))))) rss_nil)
  (rss_cons (rs_if (rt_eq O.hu (re_var 10) re_str) (rss_one (rs_if (rt_not (rt_tr (re_fn O C_l_same (by decide) (ra_cons (re_fn O C_l_told (by decide) (ra_cons (re_var 14) (ra_cons (re_var 12) ra_nil))) (ra_cons (re_fn O C_l_change (by decide) (ra_cons (re_var 2) (ra_cons (re_var 15) (ra_cons (re_var 12) ra_nil)))) ra_nil))))) (rss_one (rs_ret re_bl)) rss_nil)) (rss_one (rs_if (rt_ne O.hu (re_fn O C_l_done (by decide) (ra_cons (re_var 14) (ra_cons (re_var 10) (ra_cons (re_var 12) ra_nil)))) (re_fn O C_l_due (by decide) (ra_cons (re_var 15) (ra_cons (re_var 16) (ra_cons (re_var 10) (ra_cons (re_var 12) ra_nil)))))) (rss_one (rs_ret re_bl)) rss_nil)))
  (rss_one (rs_if (PW.pt (rw_or (rt_not (rt_tr (re_fn O C_l_same (by decide) (ra_cons (re_meth0 O T_Dig M_Dig_records (by decide) (re_var 14)) (ra_cons (re_var 15) ra_nil))))) (rw_or1 (rt_not (rt_tr (re_fn O C_l_same (by decide) (ra_cons (re_meth0 O T_Dig M_Dig_records (by decide) (re_var 4)) (ra_cons (re_var 5) ra_nil)))))))) (rss_one (rs_ret re_bl)) rss_nil)))))))
  (rss_one (rs_ret re_bl)))))))))))))))) fin_law).imp yes_imp
end
end Dn
open PySem PySem.W PyProof.Rows
set_option maxHeartbeats 0 in
theorem PySem.Challenge.cw_digteller_k51_whole_digs_holds : PySem.Challenge.rw_digteller_k51_whole_digs.Holds := by
  w_on; o_law; k_head; (case hw => w_witness2)
  k_fill
  refine L2.walk_of (l := PySem.Challenge.rw_digteller_k51_whole_digs) (n := 63) (k := 7) (x := "script") (CX := fun w => L2.CX PySem.Challenge.rw_digteller_k51_whole_digs.prog w) (sp := fun w => Dn.spF _ Dn.noCls 1 Dn.F_yes) rfl (by decide) rfl ⟨rfl, by decide, by decide⟩ (fun w h Y => PySem.W.kIn_of Y) ?F (fun _ _ a ns hl _ hS => Dn.law_sp hS Dn.F_yes_eq) (fun _ _ _ _ _ h => (Dn.law_cx h).elim)
  case F =>
    intro w mg fa h KX G hmg
    refine' Dn.all_mk KX G hmg ?z_Dig ?k_Dig_pg ?k_Dig_hd ?k_Dig_po ?k_Dig_sa ?k_Dig_mk ?k_Dig_kc ?k_Dig_f_n ?k_Dig_f_rows ?k_Dig_f_past ?a0 ?x0 ?l0 ?c0 ?k0 ?a1 ?x1 ?l1 ?c1 ?k1 ?a2 ?x2 ?l2 ?c2 ?k2 ?a3 ?x3 ?l3 ?c3 ?k3 ?a4 ?l4 ?c4 ?k4 ?a5 ?l5 ?c5 ?k5 ?a6 ?l6 ?c6 ?k6 ?a7 ?l7 ?c7 ?k7 ?a8 ?l8 ?c8 ?k8 ?a9 ?l9 ?c9 ?k9 ?a10 ?l10 ?c10 ?k10 ?a11 ?l11 ?c11 ?k11 ?a12 ?l12 ?c12 ?k12 ?a13 ?l13 ?c13 ?k13 ?a14 ?l14 ?c14 ?k14 ?a15 ?l15 ?c15 ?k15 ?a16 ?l16 ?c16 ?k16 ?a17 ?l17 ?c17 ?k17 ?a18 ?l18 ?c18 ?k18 ?a19 ?l19 ?c19 ?k19 ?a20 ?l20 ?c20 ?k20 ?a21 ?l21 ?c21 ?k21 ?a22 ?l22 ?c22 ?k22 ?a23 ?x23 ?l23 ?c23 ?k23 ?a24 ?l24 ?c24 ?k24 ?a25 ?x25 ?l25 ?c25 ?k25 ?a26 ?x26 ?l26 ?c26 ?k26 ?a27 ?l27 ?c27 ?k27 ?a28 ?l28 ?c28 ?k28 ?a29 ?l29 ?c29 ?k29 ?z_len ?z_list ?z_int ?z_abs ?z_all ?z_bool ?z_isinstance ?z_range ?z_str ?z_tuple ?z_any ?z_MOST_RECORDS ?z_TooMany ?x_TooMany ?k_TooMany ?l_TooMany ?c_TooMany ?v_TooMany ?z_Unsure ?x_Unsure ?k_Unsure ?l_Unsure ?c_Unsure ?v_Unsure ?z_NoDeed ?x_NoDeed ?k_NoDeed ?l_NoDeed ?c_NoDeed ?v_NoDeed ?w_Unsure_Unsure ?w_NoDeed_NoDeed ?w_TooMany_NoDeed ?w_TooMany_TooMany
    (case z_Dig => k_is); (case k_Dig_pg => k_is); (case k_Dig_hd => k_is); (case k_Dig_po => k_is); (case k_Dig_sa => k_is); (case k_Dig_mk => k_is); (case k_Dig_kc => k_is); (case k_Dig_f_n => k_is); (case k_Dig_f_rows => k_is); (case k_Dig_f_past => k_is); (case a0 => k_is); (case x0 => k_is); (case l0 => k_is); (case c0 => k_is); (case k0 => k_is); (case a1 => k_is); (case x1 => k_is); (case l1 => k_is); (case c1 => k_is); (case k1 => k_is); (case a2 => k_is); (case x2 => k_is); (case l2 => k_is); (case c2 => k_is); (case k2 => k_is); (case a3 => k_is); (case x3 => k_is); (case l3 => k_is); (case c3 => k_is); (case k3 => k_is); (case a4 => k_is); (case l4 => k_is); (case c4 => k_is); (case k4 => k_is); (case a5 => k_is); (case l5 => k_is); (case c5 => k_is); (case k5 => k_is); (case a6 => k_is); (case l6 => k_is); (case c6 => k_is); (case k6 => k_is); (case a7 => k_is); (case l7 => k_is); (case c7 => k_is); (case k7 => k_is); (case a8 => k_is); (case l8 => k_is); (case c8 => k_is); (case k8 => k_is); (case a9 => k_is); (case l9 => k_is); (case c9 => k_is); (case k9 => k_is); (case a10 => k_is); (case l10 => k_is); (case c10 => k_is); (case k10 => k_is); (case a11 => k_is); (case l11 => k_is); (case c11 => k_is); (case k11 => k_is); (case a12 => k_is); (case l12 => k_is); (case c12 => k_is); (case k12 => k_is); (case a13 => k_is); (case l13 => k_is); (case c13 => k_is); (case k13 => k_is); (case a14 => k_is); (case l14 => k_is); (case c14 => k_is); (case k14 => k_is); (case a15 => k_is); (case l15 => k_is); (case c15 => k_is); (case k15 => k_is); (case a16 => k_is); (case l16 => k_is); (case c16 => k_is); (case k16 => k_is); (case a17 => k_is); (case l17 => k_is); (case c17 => k_is); (case k17 => k_is); (case a18 => k_is); (case l18 => k_is); (case c18 => k_is); (case k18 => k_is); (case a19 => k_is); (case l19 => k_is); (case c19 => k_is); (case k19 => k_is); (case a20 => k_is); (case l20 => k_is); (case c20 => k_is); (case k20 => k_is); (case a21 => k_is); (case l21 => k_is); (case c21 => k_is); (case k21 => k_is); (case a22 => k_is); (case l22 => k_is); (case c22 => k_is); (case k22 => k_is); (case a23 => k_is); (case x23 => k_is); (case l23 => k_is); (case c23 => k_is); (case k23 => k_is); (case a24 => k_is); (case l24 => k_is); (case c24 => k_is); (case k24 => k_is); (case a25 => k_is); (case x25 => k_is); (case l25 => k_is); (case c25 => k_is); (case k25 => k_is); (case a26 => k_is); (case x26 => k_is); (case l26 => k_is); (case c26 => k_is); (case k26 => k_is); (case a27 => k_is); (case l27 => k_is); (case c27 => k_is); (case k27 => k_is); (case a28 => k_is); (case l28 => k_is); (case c28 => k_is); (case k28 => k_is); (case a29 => k_is); (case l29 => k_is); (case c29 => k_is); (case k29 => k_is); (case z_len => k_is); (case z_list => k_is); (case z_int => k_is); (case z_abs => k_is); (case z_all => k_is); (case z_bool => k_is); (case z_isinstance => k_is); (case z_range => k_is); (case z_str => k_is); (case z_tuple => k_is); (case z_any => k_is); (case z_MOST_RECORDS => k_is); (case z_TooMany => k_is); (case k_TooMany => k_is); (case l_TooMany => k_is); (case c_TooMany => k_is); (case v_TooMany => k_is); (case z_Unsure => k_is); (case k_Unsure => k_is); (case l_Unsure => k_is); (case c_Unsure => k_is); (case v_Unsure => k_is); (case z_NoDeed => k_is); (case k_NoDeed => k_is); (case l_NoDeed => k_is); (case c_NoDeed => k_is); (case v_NoDeed => k_is); (case x_TooMany => k_exc); (case x_Unsure => k_exc); (case x_NoDeed => k_exc); (case w_Unsure_Unsure => first | rfl | k_is); (case w_NoDeed_NoDeed => first | rfl | k_is); (case w_TooMany_NoDeed => first | rfl | k_is); (case w_TooMany_TooMany => first | rfl | k_is)

