import PyProof.Rows.All
import Wide.All
import OpenK.AllK
import Wide.FinOn
import HandS.ForMost
import HandS.ForExc
import HandS.CallSlots
import HandS.Lambda
import HandS.HeadHook4
import HandS.TupAny
import HandS.TupMul
import HandS.Wide
import HandS.Flow
import HandS.IsInst
import HandS.Deep
import HandS.Style
import HandS.Defaults
import HandS.IntHex
import HandS.RaiseMore
import HandS.RevRange
import KE.GoesEnum
import HandS.Iter
import HandS.Zip
import HandS.Conv
import HandS.SortInts
import HandS.ExcIs
import HandS.ExcValue
import HandS.ExcInit
import HandS.ExcField
import HandS.TryOnly
import HandS.ClsMeth
import HandS.Head0
import HandS.Head1
import HandS.Head2
import HandS.HeadEnd
import HandS.HeadHook1
import HandS.HeadHook2
import KE.KUnpack
import PyProof.CollectIter
import HandS.Text
import HandS.Codes
import HandS.MapJoin
import HandS.SetFor
import HandS.More
import HandS.NoneIn
import HandS.HeadHook3
import KE.KUnpackStar
import HandS.Strs
import HandS.EndTab
import HandS.HeadWalk
import KE.SortKeyHeap
import KE.KSortKey
import HandS.Small
import HandS.Dict
import HandS.SetBool
import PySem.Challenge.RW_lodgewalk_k74_no_plan_leaves_fewer
set_option Elab.async false
set_option linter.all false
set_option maxRecDepth 100000
set_option maxHeartbeats 4000000
/-! Sw1: plain values, a plain store, and the readings of HandS by plain functions over them. -/
namespace Sw
open PySem PySem.Spec PyProof.Rows L2

/-! ### plain values, plain objects -/
inductive W where
  | non | bl (b : Bool) | int (i : Int) | str (x : Str) | tup (l : List W) | rol (l : List W) | ref (n : Nat) | gl (x : Str) | ty (n : String)
abbrev Flds := List (Str × W)
inductive Ob where
  | lst (l : List W) | dct (l : List (Key × W)) | ins (C : Str) (fs : Flds) | exc (C : Str) (fs : Flds)
  /-- the table of the code objects of the lambdas that the def x makes; they are called q -/
  | tab (x q : Str)
abbrev Sto := List Ob
abbrev En := List (Option W)

/-- what the module's names hold -/
structure Gx where
  K : PySem.W.Frag
  mg : Str → Option Value

/-- a list that nobody changes -/
def Rol (K : PySem.W.Frag) (H : Hp) (a : Addr) (xs : List V) : Prop :=
  (∃ o, H a = some (.frz o (.lst xs))) ∨
    ∃ (o : Obj) (its : Array Value) (n : Nat), K.lookup a = some o ∧ o.cls = .type "list" ∧ o.dict = none ∧ o.data = .seq its n ∧ its.size ≤ sizeLine ∧ Vals xs its.toList
theorem Rol.sq {K : PySem.W.Frag} {H : Hp} {a : Addr} {xs : List V} (h : Rol K H a xs) : SqL K H a xs := by
  rcases h with h | h
  · exact .inl (.inr h)
  · exact .inr h

mutual
inductive Rep (G : Gx) (r : List Addr) (H : Hp) : W → V → Prop
  | non : Rep G r H .non .non
  | bl (b : Bool) : Rep G r H (.bl b) (.bl b)
  | int (i : Int) : Rep G r H (.int i) (.int i)
  | str (x : Str) : Rep G r H (.str x) (.str x)
  | ty (n : String) : Rep G r H (.ty n) (.ty n)
  | tup {l : List W} {a : Addr} {vs : List V} (h : SqT G.K H a vs) (k : RepL G r H l vs) : Rep G r H (.tup l) (.ref a)
  | rol {l : List W} {a : Addr} {vs : List V} (h : Rol G.K H a vs) (k : RepL G r H l vs) : Rep G r H (.rol l) (.ref a)
  | ref {n : Nat} {a : Addr} (h : r[n]? = some a) : Rep G r H (.ref n) (.ref a)
  | gl {x : Str} {a : Addr} (h : G.mg x = some (.ref a)) : Rep G r H (.gl x) (.ref a)
inductive RepL (G : Gx) (r : List Addr) (H : Hp) : List W → List V → Prop
  | nil : RepL G r H [] []
  | cons {w : W} {v : V} {ws : List W} {vs : List V} (h : Rep G r H w v) (k : RepL G r H ws vs) : RepL G r H (w :: ws) (v :: vs)
end

/-- what never changes -/
def Stay (H H' : Hp) : Prop := ∀ a, (∀ xs, H a = some (.tup xs) → H' a = some (.tup xs)) ∧ (∀ o u, H a = some (.frz o u) → H' a = some (.frz o u))
theorem Stay.refl (H : Hp) : Stay H H := fun _ => ⟨fun _ h => h, fun _ _ h => h⟩
theorem Stay.trans {H H1 H2 : Hp} (a : Stay H H1) (b : Stay H1 H2) : Stay H H2 := fun x => ⟨fun xs h => (b x).1 xs ((a x).1 xs h), fun o u h => (b x).2 o u ((a x).2 o u h)⟩
theorem Stay.new {H : Hp} {p : Addr} {o : HO} (h : H p = none) : Stay H (upd H p o) := fun a => ⟨fun xs e => by rw [upd_ne (ne_of_none e h)]; exact e, fun o' u e => by rw [upd_ne (ne_of_none e h)]; exact e⟩
theorem Stay.lst {H : Hp} {p : Addr} {xs : List V} {o : HO} (h : H p = some (.lst xs)) : Stay H (upd H p o) := fun a =>
  ⟨fun ys e => by rw [upd_ne (ne_of e h (by intro z; cases z))]; exact e, fun o' u e => by rw [upd_ne (ne_of e h (by intro z; cases z))]; exact e⟩
theorem Stay.dK {H : Hp} {p : Addr} {xs : List (Key × V)} {o : HO} (h : H p = some (.dK xs)) : Stay H (upd H p o) := fun a =>
  ⟨fun ys e => by rw [upd_ne (ne_of e h (by intro z; cases z))]; exact e, fun o' u e => by rw [upd_ne (ne_of e h (by intro z; cases z))]; exact e⟩
theorem Stay.ins {H : Hp} {p : Addr} {C dx : Addr} {fs : List (Str × V)} {o : HO} (h : H p = some (.ins C dx fs)) : Stay H (upd H p o) := fun a =>
  ⟨fun ys e => by rw [upd_ne (ne_of e h (by intro z; cases z))]; exact e, fun o' u e => by rw [upd_ne (ne_of e h (by intro z; cases z))]; exact e⟩
theorem Stay.rd {H H' : Hp} (s : Stay H H') {a : Addr} {xs : List V} (h : Rd H a (.tup xs)) : Rd H' a (.tup xs) := by
  rcases h with h | ⟨o, h⟩
  · exact .inl ((s a).1 _ h)
  · exact .inr ⟨o, (s a).2 _ _ h⟩
theorem Stay.sqt {K : PySem.W.Frag} {H H' : Hp} (s : Stay H H') {a : Addr} {xs : List V} (h : SqT K H a xs) : SqT K H' a xs := by
  rcases h with h | h
  · exact .inl (s.rd h)
  · exact .inr h
theorem Stay.rol {K : PySem.W.Frag} {H H' : Hp} (s : Stay H H') {a : Addr} {xs : List V} (h : Rol K H a xs) : Rol K H' a xs := by
  rcases h with ⟨o, h⟩ | h
  · exact .inl ⟨o, (s a).2 _ _ h⟩
  · exact .inr h

structure Grow (r : List Addr) (H : Hp) (r' : List Addr) (H' : Hp) : Prop where
  pre : ∃ t, r' = r ++ t
  stay : Stay H H'
theorem Grow.refl (r : List Addr) (H : Hp) : Grow r H r H := ⟨⟨[], by simp⟩, Stay.refl H⟩
theorem Grow.trans {r r1 r2 : List Addr} {H H1 H2 : Hp} (a : Grow r H r1 H1) (b : Grow r1 H1 r2 H2) : Grow r H r2 H2 := by
  obtain ⟨⟨t, rfl⟩, s⟩ := a
  obtain ⟨⟨u, rfl⟩, s'⟩ := b
  exact ⟨⟨t ++ u, by simp⟩, s.trans s'⟩
theorem Grow.same {r : List Addr} {H H' : Hp} (s : Stay H H') : Grow r H r H' := ⟨⟨[], by simp⟩, s⟩
theorem Grow.one {r : List Addr} {H H' : Hp} {a : Addr} (s : Stay H H') : Grow r H (r ++ [a]) H' := ⟨⟨[a], rfl⟩, s⟩
theorem Grow.at {r r' : List Addr} {H H' : Hp} (g : Grow r H r' H') {n : Nat} {a : Addr} (h : r[n]? = some a) : r'[n]? = some a := by
  obtain ⟨t, rfl⟩ := g.pre
  rw [List.getElem?_append_left (List.getElem?_eq_some_iff.mp h).1]
  exact h
mutual
theorem Rep.grow {G : Gx} {r r' : List Addr} {H H' : Hp} (g : Grow r H r' H') : ∀ {w : W} {v : V}, Rep G r H w v → Rep G r' H' w v
  | _, _, .non => .non
  | _, _, .bl b => .bl b
  | _, _, .int b => .int b
  | _, _, .str b => .str b
  | _, _, .ty b => .ty b
  | _, _, .tup h k => .tup (g.stay.sqt h) (RepL.grow g k)
  | _, _, .rol h k => .rol (g.stay.rol h) (RepL.grow g k)
  | _, _, .ref h => .ref (g.at h)
  | _, _, .gl h => .gl h
theorem RepL.grow {G : Gx} {r r' : List Addr} {H H' : Hp} (g : Grow r H r' H') : ∀ {ws : List W} {vs : List V}, RepL G r H ws vs → RepL G r' H' ws vs
  | _, _, .nil => .nil
  | _, _, .cons h k => .cons (Rep.grow g h) (RepL.grow g k)
end
section
variable {G : Gx} {r : List Addr} {H : Hp}
theorem RepL.length : ∀ {ws : List W} {vs : List V}, RepL G r H ws vs → ws.length = vs.length
  | _, _, .nil => rfl
  | _, _, .cons _ k => by simp [RepL.length k]
theorem RepL.get : ∀ {ws : List W} {vs : List V} {i : Nat} {w : W}, RepL G r H ws vs → ws[i]? = some w → ∃ v, vs[i]? = some v ∧ Rep G r H w v
  | _, _, _, _, .nil, e => by simp at e
  | _, _, 0, _, .cons h _, e => by simp at e; subst e; exact ⟨_, rfl, h⟩
  | _, _, i + 1, _, .cons _ k, e => by
    obtain ⟨v, h1, h2⟩ := RepL.get (i := i) k (by simpa using e)
    exact ⟨v, by simpa using h1, h2⟩
theorem RepL.getV : ∀ {ws : List W} {vs : List V} {i : Nat} {v : V}, RepL G r H ws vs → vs[i]? = some v → ∃ w, ws[i]? = some w ∧ Rep G r H w v
  | _, _, _, _, .nil, e => by simp at e
  | _, _, 0, _, .cons h _, e => by simp at e; subst e; exact ⟨_, rfl, h⟩
  | _, _, i + 1, _, .cons _ k, e => by
    obtain ⟨w, h1, h2⟩ := RepL.getV (i := i) k (by simpa using e)
    exact ⟨w, by simpa using h1, h2⟩
theorem RepL.append : ∀ {ws : List W} {vs : List V} {ws' : List W} {vs' : List V}, RepL G r H ws vs → RepL G r H ws' vs' → RepL G r H (ws ++ ws') (vs ++ vs')
  | _, _, _, _, .nil, k => k
  | _, _, _, _, .cons h k, k' => .cons h (RepL.append k k')
theorem RepL.take : ∀ {ws : List W} {vs : List V} (n : Nat), RepL G r H ws vs → RepL G r H (ws.take n) (vs.take n)
  | _, _, 0, _ => .nil
  | _, _, _ + 1, .nil => .nil
  | _, _, n + 1, .cons h k => .cons h (RepL.take n k)
theorem RepL.drop : ∀ {ws : List W} {vs : List V} (n : Nat), RepL G r H ws vs → RepL G r H (ws.drop n) (vs.drop n)
  | _, _, 0, k => k
  | _, _, _ + 1, .nil => .nil
  | _, _, n + 1, .cons _ k => RepL.drop n k
theorem RepL.set {w : W} {v : V} (h : Rep G r H w v) : ∀ {ws : List W} {vs : List V} (n : Nat), RepL G r H ws vs → RepL G r H (ws.set n w) (vs.set n v)
  | _, _, _, .nil => .nil
  | _, _, 0, .cons _ k => .cons h k
  | _, _, n + 1, .cons h' k => .cons h' (RepL.set h n k)
theorem RepL.reverse : ∀ {ws : List W} {vs : List V}, RepL G r H ws vs → RepL G r H ws.reverse vs.reverse
  | _, _, .nil => .nil
  | _, _, .cons h k => by
    simp only [List.reverse_cons]
    exact RepL.append (RepL.reverse k) (.cons h .nil)
theorem RepL.rep {w : W} {v : V} (h : Rep G r H w v) : ∀ n : Nat, RepL G r H (List.replicate n w) (List.replicate n v)
  | 0 => .nil
  | n + 1 => .cons h (RepL.rep h n)
theorem RepL.flat {ws : List W} {vs : List V} (k : RepL G r H ws vs) : ∀ n : Nat, RepL G r H (List.replicate n ws).flatten (List.replicate n vs).flatten
  | 0 => .nil
  | n + 1 => by
    simp only [List.replicate_succ, List.flatten_cons]
    exact k.append (RepL.flat k n)
theorem repL_ints : ∀ ns : List Int, RepL G r H (ns.map W.int) (ns.map V.int)
  | [] => .nil
  | n :: ns => .cons (.int n) (repL_ints ns)
end

/-- fields, by name -/
inductive RepF (G : Gx) (r : List Addr) (H : Hp) : Flds → List (Str × V) → Prop
  | nil : RepF G r H [] []
  | cons {f : Str} {w : W} {v : V} {fs : Flds} {vs : List (Str × V)} (h : Rep G r H w v) (k : RepF G r H fs vs) : RepF G r H ((f, w) :: fs) ((f, v) :: vs)
/-- a dict's pairs -/
inductive RepD (G : Gx) (r : List Addr) (H : Hp) : List (Key × W) → List (Key × V) → Prop
  | nil : RepD G r H [] []
  | cons {f : Key} {w : W} {v : V} {fs : List (Key × W)} {vs : List (Key × V)} (h : Rep G r H w v) (k : RepD G r H fs vs) : RepD G r H ((f, w) :: fs) ((f, v) :: vs)
theorem RepF.grow {G : Gx} {r r' : List Addr} {H H' : Hp} (g : Grow r H r' H') {fs : Flds} {vs : List (Str × V)} (h : RepF G r H fs vs) : RepF G r' H' fs vs := by
  induction h with
  | nil => exact .nil
  | cons h _ ih => exact .cons (h.grow g) ih
theorem RepD.grow {G : Gx} {r r' : List Addr} {H H' : Hp} (g : Grow r H r' H') {fs : List (Key × W)} {vs : List (Key × V)} (h : RepD G r H fs vs) : RepD G r' H' fs vs := by
  induction h with
  | nil => exact .nil
  | cons h _ ih => exact .cons (h.grow g) ih

/-- an exception object that lies still: its class, and its fields -/
def excAt (cls : Value) (d : Option Addr) (a : Addr) (h : Heap) : Prop := ∃ (o : Obj) (vs : Array Value), h.get? a = some o ∧ o.cls = cls ∧ o.dict = d ∧ o.data = .fields vs
def ObR (G : Gx) (r : List Addr) (H : Hp) (a : Addr) : Ob → Prop
  | .tab x q => a = (He.cT G.K (x, none)).2 ∧ LamX.TabS H a q
  | .lst ws => ∃ vs, H a = some (.lst vs) ∧ RepL G r H ws vs
  | .dct ws => ∃ vs, H a = some (.dK vs) ∧ RepD G r H ws vs
  | .ins C fs => ∃ Ca dx vs, G.mg C = some (.ref Ca) ∧ H a = some (.ins Ca dx vs) ∧ RepF G r H fs vs
  | .exc C fs => ∃ Ca d, G.mg C = some (.ref Ca) ∧ H a = some (.ext (excAt (.ref Ca) d a)) ∧ ((fs = [] ∧ d = none) ∨ ∃ da vs, d = some da ∧ H da = some (.xd vs) ∧ RepF G r H fs vs)
structure Sim (G : Gx) (r : List Addr) (H : Hp) (st : Sto) : Prop where
  len : r.length = st.length
  nd : r.Nodup
  ob : ∀ (n : Nat) (o : Ob) (a : Addr), st[n]? = some o → r[n]? = some a → ObR G r H a o
def EnR (G : Gx) (r : List Addr) (H : Hp) (env : En) (s : L2.St) : Prop := s.length = env.length ∧ ∀ (i : Nat) (w : W), env[i]? = some (some w) → ∃ v, s[i]? = some (some v) ∧ Rep G r H w v
theorem EnR.grow {G : Gx} {r r' : List Addr} {H H' : Hp} (g : Grow r H r' H') {env : En} {s : L2.St} (h : EnR G r H env s) : EnR G r' H' env s :=
  ⟨h.1, fun i w e => let ⟨v, a, b⟩ := h.2 i w e; ⟨v, a, b.grow g⟩⟩
theorem EnR.set {G : Gx} {r : List Addr} {H : Hp} {env : En} {s : L2.St} (h : EnR G r H env s) {i : Nat} {w : W} {v : V} (q : Rep G r H w v) : EnR G r H (env.set i (some w)) (s.set i (some v)) := by
  refine ⟨by simp [h.1], fun j x e => ?_⟩
  by_cases hj : i = j
  · subst hj
    by_cases hi : i < env.length
    · rw [List.getElem?_set_self hi] at e
      cases e
      exact ⟨v, by rw [List.getElem?_set_self (by rw [h.1]; exact hi)], q⟩
    · rw [List.getElem?_eq_none (by simpa using hi)] at e
      cases e
  · rw [List.getElem?_set_ne hj] at e
    obtain ⟨u, a, b⟩ := h.2 j x e
    exact ⟨u, by rw [List.getElem?_set_ne hj]; exact a, b⟩
theorem EnR.forget {G : Gx} {r : List Addr} {H : Hp} {env : En} {s : L2.St} (h : EnR G r H env s) {i : Nat} : EnR G r H (env.set i none) (s.set i none) := by
  refine ⟨by simp [h.1], fun j x e => ?_⟩
  by_cases hj : i = j
  · subst hj
    by_cases hi : i < env.length
    · rw [List.getElem?_set_self hi] at e
      cases e
    · rw [List.getElem?_eq_none (by simpa using hi)] at e
      cases e
  · rw [List.getElem?_set_ne hj] at e
    obtain ⟨u, a, b⟩ := h.2 j x e
    exact ⟨u, by rw [List.getElem?_set_ne hj]; exact a, b⟩

theorem nd_ix {N : List Addr} (hN : N.Nodup) {i j : Nat} {x : Addr} (a : N[i]? = some x) (b : N[j]? = some x) : i = j := by
  obtain ⟨h1, e1⟩ := List.getElem?_eq_some_iff.mp a
  obtain ⟨h2, e2⟩ := List.getElem?_eq_some_iff.mp b
  exact (List.getElem_inj hN).mp (e1.trans e2.symm)
theorem ObR.there {G : Gx} {r : List Addr} {H : Hp} {a : Addr} {o : Ob} (h : ObR G r H a o) : ∃ u, H a = some u := by
  cases o with
  | lst l => obtain ⟨_, e, _⟩ := h; exact ⟨_, e⟩
  | dct l => obtain ⟨_, e, _⟩ := h; exact ⟨_, e⟩
  | ins C fs => obtain ⟨_, _, _, _, e, _⟩ := h; exact ⟨_, e⟩
  | exc C fs => obtain ⟨_, _, _, e, _⟩ := h; exact ⟨_, e⟩
  | tab x q => obtain ⟨_, ps, e, _⟩ := h; exact ⟨_, e⟩
theorem Sim.has {G : Gx} {r : List Addr} {H : Hp} {st : Sto} (s : Sim G r H st) {n : Nat} {o : Ob} (h : st[n]? = some o) : ∃ a, r[n]? = some a ∧ ObR G r H a o := by
  have hn : n < r.length := by rw [s.len]; exact (List.getElem?_eq_some_iff.mp h).1
  exact ⟨r[n], List.getElem?_eq_getElem hn, s.ob n o _ h (List.getElem?_eq_getElem hn)⟩
theorem Sim.got {G : Gx} {r : List Addr} {H : Hp} {st : Sto} (s : Sim G r H st) {n : Nat} {o : Ob} {a : Addr} (h : st[n]? = some o) (q : r[n]? = some a) : ObR G r H a o := s.ob n o a h q
theorem Sim.fresh {G : Gx} {r : List Addr} {H : Hp} {st : Sto} (s : Sim G r H st) {p : Addr} (h : H p = none) : p ∉ r := fun hm => by
  obtain ⟨n, hn, e⟩ := List.mem_iff_getElem.mp hm
  have hs : n < st.length := by rw [← s.len]; exact hn
  obtain ⟨u, e2⟩ := (s.ob n st[n] p (List.getElem?_eq_getElem hs) (by rw [List.getElem?_eq_getElem hn, e])).there
  rw [h] at e2
  cases e2
/-- objects stay as they are, but for the one at a -/
theorem ObR.keep {G : Gx} {r r' : List Addr} {H H' : Hp} (g : Grow r H r' H') {b : Addr} {o : Ob} (k : ∀ c u, (c = b ∨ (∃ fs, u = HO.xd fs) ∨ ∃ φ, u = HO.ext φ) → H c = some u → H' c = some u) (h : ObR G r H b o) : ObR G r' H' b o := by
  cases o with
  | lst l => obtain ⟨vs, e, q⟩ := h; exact ⟨vs, k b _ (.inl rfl) e, q.grow g⟩
  | dct l => obtain ⟨vs, e, q⟩ := h; exact ⟨vs, k b _ (.inl rfl) e, q.grow g⟩
  | ins C fs => obtain ⟨Ca, dx, vs, m, e, q⟩ := h; exact ⟨Ca, dx, vs, m, k b _ (.inl rfl) e, q.grow g⟩
  | exc C fs =>
    obtain ⟨Ca, d, m, e, q⟩ := h
    refine ⟨Ca, d, m, k b _ (.inl rfl) e, ?_⟩
    rcases q with q | ⟨da, vs, ed, e2, q⟩
    · exact .inl q
    · exact .inr ⟨da, vs, ed, k da _ (.inr (.inl ⟨vs, rfl⟩)) e2, q.grow g⟩
  | tab x q =>
    obtain ⟨ea, ps, h1, h2, h3⟩ := h
    refine ⟨ea, ps, k b _ (.inl rfl) h1, h2, fun pos cv hc => ?_⟩
    obtain ⟨c, e1, e2⟩ := h3 pos cv hc
    exact ⟨c, e1, k c _ (.inr (.inr ⟨_, rfl⟩)) e2⟩
/-- a new object -/
theorem Sim.new {G : Gx} {r : List Addr} {H H' : Hp} {st : Sto} (s : Sim G r H st) {p : Addr} {o : Ob} (hp : H p = none) (k : ∀ c u, H c = some u → H' c = some u) (h : ObR G (r ++ [p]) H' p o) (sy : Stay H H') : Sim G (r ++ [p]) H' (st ++ [o]) := by
  have g : Grow r H (r ++ [p]) H' := Grow.one sy
  refine ⟨by simp [s.len], ?_, fun n ob a e1 e2 => ?_⟩
  · rw [List.nodup_append]
    refine ⟨s.nd, by simp, fun a ha b hb => ?_⟩
    have e : b = p := by simpa using hb
    subst e
    exact fun z => s.fresh hp (z ▸ ha)
  · by_cases hn : n < st.length
    · rw [List.getElem?_append_left hn] at e1
      rw [List.getElem?_append_left (by rw [s.len]; exact hn)] at e2
      exact (s.ob n ob a e1 e2).keep g fun c u _ e => k c u e
    · have hl : n < (st ++ [o]).length := (List.getElem?_eq_some_iff.mp e1).1
      have en : n = st.length := by simp at hl; omega
      subst en
      rw [List.getElem?_append_right (Nat.le_refl _)] at e1
      rw [List.getElem?_append_right (by rw [s.len]; exact Nat.le_refl _), s.len] at e2
      simp at e1 e2
      subst e1 e2
      exact h
theorem Sim.newU {G : Gx} {r : List Addr} {H : Hp} {st : Sto} (s : Sim G r H st) {p : Addr} {u : HO} {o : Ob} (hp : H p = none) (h : ObR G (r ++ [p]) (upd H p u) p o) : Sim G (r ++ [p]) (upd H p u) (st ++ [o]) :=
  s.new hp (fun c v e => by rw [upd_ne (ne_of_none e hp)]; exact e) h (Stay.new hp)
/-- an object that is changed -/
theorem Sim.put {G : Gx} {r : List Addr} {H : Hp} {st : Sto} (s : Sim G r H st) {n : Nat} {a : Addr} {u u0 : HO} {o : Ob} (hn : r[n]? = some a) (hu : H a = some u0) (hx : ∀ fs, u0 ≠ .xd fs) (hx2 : ∀ φ, u0 ≠ .ext φ) (sy : Stay H (upd H a u)) (h : ObR G r (upd H a u) a o) : Sim G r (upd H a u) (st.set n o) := by
  have g : Grow r H r (upd H a u) := Grow.same sy
  refine ⟨by simp [s.len], s.nd, fun m ob b e1 e2 => ?_⟩
  by_cases hm : n = m
  · subst hm
    rw [hn] at e2
    cases e2
    have hl : n < st.length := by rw [← s.len]; exact (List.getElem?_eq_some_iff.mp hn).1
    rw [List.getElem?_set_self hl] at e1
    cases e1
    exact h
  · rw [List.getElem?_set_ne hm] at e1
    have hb : b ≠ a := fun z => by
      subst z
      exact hm (nd_ix s.nd hn e2)
    refine (s.ob m ob b e1 e2).keep g fun c v hc e => ?_
    have hca : c ≠ a := by
      rcases hc with rfl | ⟨fs, rfl⟩ | ⟨φ, rfl⟩
      · exact hb
      · intro z
        subst z
        rw [hu] at e
        exact hx fs (Option.some.inj e)
      · intro z
        subst z
        rw [hu] at e
        exact hx2 φ (Option.some.inj e)
    rw [upd_ne hca]
    exact e
end Sw
/-! Sw2: answers, readings, the frame of the rules. -/
namespace Sw
open PySem PySem.Spec PyProof.Rows L2

inductive An (α : Type) where
  | ok (a : α) (st : Sto) | ex (C : Str) (fs : Flds) (st : Sto) | bad
def An.bind {α β : Type} (m : An α) (k : α → Sto → An β) : An β := match m with
  | .ok a st => k a st
  | .ex C fs st => .ex C fs st
  | .bad => .bad
@[simp] theorem An.bind_ok {α β : Type} (a : α) (st : Sto) (k : α → Sto → An β) : (An.ok a st).bind k = k a st := rfl
@[simp] theorem An.bind_ex {α β : Type} (C : Str) (fs : Flds) (st : Sto) (k : α → Sto → An β) : (An.ex C fs st : An α).bind k = .ex C fs st := rfl
@[simp] theorem An.bind_bad {α β : Type} (k : α → Sto → An β) : (An.bad : An α).bind k = .bad := rfl
/-- what a block ends with -/
inductive SA where
  | nx (env : En) (st : Sto) | rt (w : W) (st : Sto) | bk (env : En) (st : Sto) | ct (env : En) (st : Sto) | ex (C : Str) (fs : Flds) (env : En) (st : Sto) | bad

abbrev gx (X : Cx) : Gx := ⟨X.K, X.mg⟩
def ExR (G : Gx) (r : List Addr) (H : Hp) (C : Str) (fs : Flds) (ca : Value) (d : Option Addr) : Prop :=
  ∃ Ca, ca = Value.ref Ca ∧ G.mg C = some (.ref Ca) ∧ ((fs = [] ∧ d = none) ∨ ∃ da vs, d = some da ∧ H da = some (.xd vs) ∧ RepF G r H fs vs)
def Po (G : Gx) (Wx : WX) (s : L2.St) {α : Type} (P : α → List Addr → Hp → Prop) (r : List Addr) (H : Hp) : An α → Prop
  | .ok a st => ∀ r' H', Grow r H r' H' → Sim G r' H' st → P a r' H'
  | .ex C fs st => ∀ r' H' ca d, Grow r H r' H' → Sim G r' H' st → ExR G r' H' C fs ca d → Wx ca d s H'
  | .bad => False
section
variable {G : Gx} {Wx : WX} {s : L2.St} {α β : Type} {P P' : α → List Addr → Hp → Prop} {r r1 : List Addr} {H H1 : Hp} {m : An α}
theorem Po.imp (h : Po G Wx s P r H m) (k : ∀ a r' H', Grow r H r' H' → P a r' H' → P' a r' H') : Po G Wx s P' r H m := by
  cases m with
  | ok a st => exact fun r' H' g q => k a r' H' g (h r' H' g q)
  | ex C fs st => exact h
  | bad => exact h
theorem Po.grow (g : Grow r H r1 H1) (h : Po G Wx s P r H m) : Po G Wx s P r1 H1 m := by
  cases m with
  | ok a st => exact fun r' H' g' q => h r' H' (g.trans g') q
  | ex C fs st => exact fun r' H' ca d g' q => h r' H' ca d (g.trans g') q
  | bad => exact h
theorem Po.bind {k : α → Sto → An β} {P : β → List Addr → Hp → Prop} (h : Po G Wx s P r H (m.bind k)) : Po G Wx s (fun a r1 H1 => ∃ st1, Sim G r1 H1 st1 ∧ Grow r H r1 H1 ∧ Po G Wx s P r1 H1 (k a st1)) r H m := by
  cases m with
  | ok a st => exact fun r' H' g q => ⟨st, q, g, Po.grow g h⟩
  | ex C fs st => exact h
  | bad => exact h
theorem Po.ok {a : α} {st : Sto} (h : Po G Wx s P r H (.ok a st)) (q : Sim G r H st) : P a r H := h r H (Grow.refl r H) q
end
def SPo (G : Gx) (Wx : WX) (D : Ends) (r : List Addr) (H : Hp) : SA → Prop
  | .nx env st => ∀ r' H' s', Grow r H r' H' → Sim G r' H' st → EnR G r' H' env s' → D.nx s' H'
  | .bk env st => ∀ r' H' s', Grow r H r' H' → Sim G r' H' st → EnR G r' H' env s' → D.bk s' H'
  | .ct env st => ∀ r' H' s', Grow r H r' H' → Sim G r' H' st → EnR G r' H' env s' → D.ct s' H'
  | .rt w st => ∀ r' H' v, Grow r H r' H' → Sim G r' H' st → Rep G r' H' w v → D.rt v H'
  | .ex C fs env st => ∀ r' H' s' ca d, Grow r H r' H' → Sim G r' H' st → EnR G r' H' env s' → ExR G r' H' C fs ca d → Wx ca d s' H'
  | .bad => False
theorem SPo.grow {G : Gx} {Wx : WX} {D : Ends} {r r1 : List Addr} {H H1 : Hp} {a : SA} (g : Grow r H r1 H1) (h : SPo G Wx D r H a) : SPo G Wx D r1 H1 a := by
  cases a with
  | nx env st => exact fun r' H' s' g' => h r' H' s' (g.trans g')
  | bk env st => exact fun r' H' s' g' => h r' H' s' (g.trans g')
  | ct env st => exact fun r' H' s' g' => h r' H' s' (g.trans g')
  | rt w st => exact fun r' H' s' g' => h r' H' s' (g.trans g')
  | ex C fs env st => exact fun r' H' s' ca d g' => h r' H' s' ca d (g.trans g')
  | bad => exact h

/-! ### readings by plain functions -/
abbrev FE := En → Sto → An W
abbrev FT := En → Sto → An Bool
abbrev FA := En → Sto → An (List W)
abbrev FS := En → Sto → SA
def tE (G : Gx) (Wx : WX) (f : FE) : TE := fun s H Q => ∃ env r st, EnR G r H env s ∧ Sim G r H st ∧ Po G Wx s (fun w r' H' => ∀ v, Rep G r' H' w v → Q v H') r H (f env st)
def tT (G : Gx) (Wx : WX) (f : FT) : TT := fun s H Q => ∃ env r st, EnR G r H env s ∧ Sim G r H st ∧ Po G Wx s (fun b _ H' => Q b H') r H (f env st)
def tL (G : Gx) (Wx : WX) (f : FA) : TA := fun s H Q => ∃ env r st, EnR G r H env s ∧ Sim G r H st ∧ Po G Wx s (fun ws r' H' => ∀ vs, RepL G r' H' ws vs → Q vs H') r H (f env st)
def tS (G : Gx) (Wx : WX) (f : FS) : TS := fun D s H => ∃ env r st, EnR G r H env s ∧ Sim G r H st ∧ SPo G Wx D r H (f env st)
theorem _root_.L2.PE.imp {X : Cx} {e : Expr} {t t' : TE} (h : PE X e t) (k : ∀ s H Q, t' s H Q → t s H Q) : PE X e t' := ⟨fun pins s σ H Q I q => h.run pins s σ H Q I (k _ _ _ q)⟩
theorem _root_.L2.PT.imp {X : Cx} {e : Expr} {t t' : TT} (h : PT X e t) (k : ∀ s H Q, t' s H Q → t s H Q) : PT X e t' := ⟨fun pins s σ H Q I q => h.run pins s σ H Q I (k _ _ _ q)⟩
theorem _root_.L2.PW.imp {X : Cx} {e : Expr} {t t' : TT} (h : PW X e t) (k : ∀ s H Q, t' s H Q → t s H Q) : PW X e t' := ⟨fun w pins s σ H Q I q => h.run w pins s σ H Q I (k _ _ _ q)⟩
theorem _root_.L2.PA.imp {X : Cx} {e : List Expr} {t t' : TA} (h : PA X e t) (k : ∀ s H Q, t' s H Q → t s H Q) : PA X e t' := ⟨fun pos pins s σ H Q I q => h.run pos pins s σ H Q I (k _ _ _ q)⟩
theorem _root_.L2.PS.imp {X : Cx} {e : Stmt} {t t' : TS} (h : PS X e t) (k : ∀ D s H, t' D s H → t D s H) : PS X e t' := ⟨fun pins s σ H D I q => h.run pins s σ H D I (k _ _ _ q)⟩
theorem _root_.L2.PSs.imp {X : Cx} {e : List Stmt} {t t' : TS} (h : PSs X e t) (k : ∀ D s H, t' D s H → t D s H) : PSs X e t' := ⟨fun pins s σ H D I q => h.run pins s σ H D I (k _ _ _ q)⟩

section
variable {X : Cx} {Wx : WX} {pos : Pos}

/-! ### names and constants -/
def fVar (i : Nat) : FE := fun env st => match env[i]? with
  | some (some w) => .ok w st
  | _ => .bad
def fC (w : W) : FE := fun _ st => .ok w st
theorem e_var (i : Nat) {x : Str} (hN : X.N[i]? = some x := by rfl) (hv : Vis X.env.scope x := by first | exact Or.inl rfl | exact Or.inr (Or.inl rfl) | exact Or.inr (Or.inr rfl)) (hd : (x == ("__debug__" : Str)) = false := by decide)
    (hcd : (x == ("__classdict__" : Str)) = false := by decide) : PE X (.Name x pos) (tE (gx X) Wx (fVar i)) := (pe_var hN hv hd hcd).imp fun s H Q h => by
  obtain ⟨env, r, st, en, sm, p⟩ := h
  unfold fVar at p
  cases e : env[i]? with
  | none => rw [e] at p; exact p.elim
  | some o =>
    cases o with
    | none => rw [e] at p; exact p.elim
    | some w =>
      rw [e] at p
      obtain ⟨v, h1, h2⟩ := en.2 i w e
      exact ⟨v, h1, Po.ok p sm v h2⟩
theorem e_c {e : Expr} {v : V} {w : W} (h : PE X e (tC v)) (hr : ∀ r H, Rep (gx X) r H w v) : PE X e (tE (gx X) Wx (fC w)) := h.imp fun s H Q q => by
  obtain ⟨env, r, st, en, sm, p⟩ := q
  exact Po.ok p sm v (hr r H)
theorem e_int {i : Int} {j : Nat} : PE X (.Constant (.int i) j pos) (tE (gx X) Wx (fC (.int i))) := e_c pe_int fun _ _ => .int i
theorem e_bl {i : Bool} {j : Nat} : PE X (.Constant (.bool i) j pos) (tE (gx X) Wx (fC (.bl i))) := e_c pe_bl fun _ _ => .bl i
theorem e_non {j : Nat} : PE X (.Constant .none j pos) (tE (gx X) Wx (fC .non)) := e_c pe_non fun _ _ => .non
theorem e_str {i : Str} {j : Nat} : PE X (.Constant (.str i) j pos) (tE (gx X) Wx (fC (.str i))) := e_c pe_str fun _ _ => .str i
/-- a constant of the module; a class, a def as a value -/
theorem e_glob {x : Str} {v : V} {u : Value} {w : W} (hg : Gl X x) (hm : X.mg x = some u) (q : RelV v u) (hr : ∀ r H, Rep (gx X) r H w v) (hd : (x == ("__debug__" : Str)) = false := by decide) : PE X (.Name x pos) (tE (gx X) Wx (fC w)) := e_c (pe_glob hg hm q hd) hr
theorem e_gl {x : Str} {a : Addr} (hg : Gl X x) (hm : X.mg x = some (.ref a)) (hd : (x == ("__debug__" : Str)) = false := by decide) : PE X (.Name x pos) (tE (gx X) Wx (fC (.gl x))) := e_glob (v := .ref a) hg hm rfl (fun _ _ => .gl hm) hd
theorem e_ty {x : Str} {n : String} (hg : Gl X x) (hm : X.mg x = none) (hv : bootBuiltins x = some (.type n)) (hn : x ≠ "__name__" := by decide) (hd : (x == ("__debug__" : Str)) = false := by decide) : PE X (.Name x pos) (tE (gx X) Wx (fC (.ty n))) :=
  e_c (v := .ty n) (pe_bltn hg hm hv rfl hn hd) fun _ _ => .ty n

/-! ### operators -/
/-- r asks no more than g says -/
def OpRf (G : Gx) (r : R2) (g : W → W → Sto → An W) : Prop := ∀ (x y : W) (st : Sto) (l : List Addr) (H : Hp) (vx vy : V) (Q : VK) (Wx : WX) (s : L2.St), Sim G l H st → Rep G l H x vx → Rep G l H y vy →
  Po G Wx s (fun w r' H' => ∀ v, Rep G r' H' w v → Q v H') l H (g x y st) → r vx vy H Q
def fBin (g : W → W → Sto → An W) (fa fb : FE) : FE := fun env st => (fa env st).bind fun x st1 => (fb env st1).bind fun y st2 => g x y st2
theorem bin_imp {G : Gx} {r : R2} {g : W → W → Sto → An W} {fa fb : FE} (hg : OpRf G r g) {s : L2.St} {H : Hp} {Q : VK} (h : tE G Wx (fBin g fa fb) s H Q) : tOp r (tE G Wx fa) (tE G Wx fb) s H Q := by
  obtain ⟨env, l, st, en, sm, p⟩ := h
  refine ⟨env, l, st, en, sm, (Po.bind p).imp fun x l1 H1 g1 ⟨st1, sm1, _, p1⟩ vx rx => ?_⟩
  refine ⟨env, l1, st1, en.grow g1, sm1, (Po.bind p1).imp fun y l2 H2 g2 ⟨st2, sm2, _, p2⟩ vy ry => ?_⟩
  exact hg x y st2 l2 H2 vx vy Q Wx s sm2 (rx.grow g2) ry p2
theorem e_op {op : Operator} {a b : Expr} {r : R2} {g : W → W → Sto → An W} {fa fb : FE} (ho : OpR X (binaryOp op) r) (hg : OpRf (gx X) r g) (ha : PE X a (tE (gx X) Wx fa)) (hb : PE X b (tE (gx X) Wx fb)) : PE X (.BinOp a op b pos) (tE (gx X) Wx (fBin g fa fb)) :=
  (pe_op ho ha hb).imp fun s H Q h => bin_imp hg h
end
end Sw
/-! Sw3: operators. -/
namespace Sw
open PySem PySem.Spec PyProof.Rows L2

/-- the items of a list -/
def getL (st : Sto) : W → Option (List W)
  | .rol l => some l
  | .ref n => match st[n]? with
    | some (.lst l) => some l
    | _ => none
  | _ => none
theorem getL_rep {G : Gx} {r : List Addr} {H : Hp} {st : Sto} {x : W} {v : V} {l : List W} (sm : Sim G r H st) (h : Rep G r H x v) (e : getL st x = some l) : ∃ a vs, v = .ref a ∧ SqL G.K H a vs ∧ RepL G r H l vs := by
  cases h with
  | rol h k =>
    simp only [getL, Option.some.injEq] at e
    subst e
    exact ⟨_, _, rfl, h.sq, k⟩
  | @ref n a h =>
    simp only [getL] at e
    split at e
    · rename_i l' hl
      cases e
      obtain ⟨vs, e2, k⟩ := sm.got hl h
      exact ⟨a, vs, rfl, .inl (.inl e2), k⟩
    · cases e
  | _ => simp [getL] at e
/-- a new list comes to be -/
theorem Po.newL {G : Gx} {Wx : WX} {s : L2.St} {r : List Addr} {H : Hp} {st : Sto} {l : List W} {vs : List V} {Q : VK} (sm : Sim G r H st) (k : RepL G r H l vs)
    (h : Po G Wx s (fun w r' H' => ∀ v, Rep G r' H' w v → Q v H') r H (.ok (.ref st.length) (st ++ [.lst l]))) : ∀ p, H p = none → Q (.ref p) (upd H p (.lst vs)) := fun p hp => by
  have g : Grow r H (r ++ [p]) (upd H p (.lst vs)) := Grow.one (Stay.new hp)
  have s2 : Sim G (r ++ [p]) (upd H p (.lst vs)) (st ++ [.lst l]) := sm.newU hp ⟨vs, upd_same, k.grow g⟩
  exact h _ _ g s2 _ (.ref (by rw [← sm.len, List.getElem?_append_right (Nat.le_refl _)]; simp))
theorem Po.newT {G : Gx} {Wx : WX} {s : L2.St} {r : List Addr} {H : Hp} {st : Sto} {l : List W} {vs : List V} {Q : VK} (sm : Sim G r H st) (k : RepL G r H l vs)
    (h : Po G Wx s (fun w r' H' => ∀ v, Rep G r' H' w v → Q v H') r H (.ok (.tup l) st)) : ∀ p, H p = none → Q (.ref p) (upd H p (.tup vs)) := fun p hp => by
  have g : Grow r H r (upd H p (.tup vs)) := Grow.same (Stay.new hp)
  have s2 : Sim G r (upd H p (.tup vs)) st := by
    refine ⟨sm.len, sm.nd, fun n o a e1 e2 => (sm.ob n o a e1 e2).keep g fun c u _ e => ?_⟩
    rw [upd_ne (ne_of_none e hp)]
    exact e
  exact h _ _ g s2 _ (.tup (.inl (.inl upd_same)) (k.grow g))
theorem Sim.tup {G : Gx} {r : List Addr} {H : Hp} {st : Sto} (sm : Sim G r H st) {p : Addr} {vs : List V} (hp : H p = none) : Sim G r (upd H p (.tup vs)) st :=
  ⟨sm.len, sm.nd, fun n o a e1 e2 => (sm.ob n o a e1 e2).keep (Grow.same (Stay.new hp)) fun c u _ e => by rw [upd_ne (ne_of_none e hp)]; exact e⟩

/-! ### whole numbers -/
def BigN : Nat := 2 ^ 9000
theorem small_big {n : Nat} (h : n ≤ 10 ^ 400) : n < BigN := Nat.lt_of_le_of_lt h (by decide +kernel)
theorem two_big {n k : Nat} (h : n < 2 ^ k) (hk : k ≤ 9000) : n < BigN := Nat.lt_of_lt_of_le h (Nat.pow_le_pow_right (by decide) hk)
theorem big_log {n : Nat} (h : n < BigN) : n.log2 < 9000 := PySem.Flt.log2_lt_of (by decide) h
def wI (f : Int → Int → W) : W → W → Sto → An W
  | .int i, .int j, st => .ok (f i j) st
  | _, _, _ => .bad
def wIc (c : Int → Int → Bool) (f : Int → Int → W) : W → W → Sto → An W
  | .int i, .int j, st => if c i j then .ok (f i j) st else .bad
  | _, _, _ => .bad
theorem rf_I {G : Gx} {g : Int → Int → V} {f : Int → Int → W} (h : ∀ i j r H, Rep G r H (f i j) (g i j)) : OpRf G (rI0 g) (wI f) := by
  intro x y st l H vx vy Q Wx s sm rx ry p
  cases rx <;> cases ry <;> first | exact p.elim | exact ⟨_, _, rfl, rfl, Po.ok p sm _ (h _ _ _ _)⟩
theorem rf_Ic {G : Gx} {C : Int → Int → Prop} {g : Int → Int → V} {c : Int → Int → Bool} {f : Int → Int → W} (hc : ∀ i j, c i j = true → C i j) (h : ∀ i j, c i j = true → ∀ r H, Rep G r H (f i j) (g i j)) : OpRf G (rI C g) (wIc c f) := by
  intro x y st l H vx vy Q Wx s sm rx ry p
  cases rx <;> cases ry <;> first | exact p.elim | skip
  rename_i i j
  simp only [wIc] at p
  by_cases hk : c i j = true
  · rw [if_pos hk] at p
    exact ⟨_, _, rfl, rfl, hc i j hk, Po.ok p sm _ (h i j hk _ _)⟩
  · rw [if_neg hk] at p
    exact p.elim
def wSub : W → W → Sto → An W := wI fun i j => .int (i - j)
theorem rf_sub {G : Gx} : OpRf G (rI0 fun i j => .int (i - j)) wSub := rf_I fun _ _ _ _ => .int _
def cDiv (_ j : Int) : Bool := decide (0 < j ∧ j.natAbs < BigN)
def wFdiv : W → W → Sto → An W := wIc cDiv fun i j => .int (i / j)
theorem rf_fdiv {G : Gx} : OpRf G (rI CDivW fun i j => .int (i / j)) wFdiv := rf_Ic (fun i j h => by
  have h' := of_decide_eq_true h
  exact ⟨h'.1, big_log h'.2⟩) fun _ _ _ _ _ => .int _
def cMod (_ j : Int) : Bool := decide (0 < j)
def wMod : W → W → Sto → An W := wIc cMod fun i j => .int (i % j)
theorem rf_mod {G : Gx} : OpRf G (rI (fun _ j => 0 < j) fun i j => .int (i % j)) wMod := rf_Ic (fun i j h => of_decide_eq_true h) fun _ _ _ _ _ => .int _
def cPow (i j : Int) : Bool := decide (0 ≤ j ∧ j ≤ 100 ∧ i.natAbs < 2 ^ 300)
def wPow : W → W → Sto → An W := wIc cPow fun i j => .int (i ^ j.toNat)
def CPowW (i j : Int) : Prop := 0 ≤ j ∧ (Builtin.Int.intBits i : Int) * j ≤ 2 ^ 27
theorem op_powW {X : Cx} : OpR X (binaryOp .Pow) (rI CPowW fun i j => .int (i ^ j.toNat)) := opI fun _ _ _ _ _ _ _ hc q => PyProof.Rows.pow_int hc.1 hc.2 q
def cMul (i j : Int) : Bool := decide (i.natAbs < BigN ∧ j.natAbs < BigN)
def wAnd : W → W → Sto → An W := wI fun i j => .int (Builtin.bitAnd i j)
theorem rf_and {G : Gx} : OpRf G (rI0 fun i j => .int (Builtin.bitAnd i j)) wAnd := rf_I fun _ _ _ _ => .int _
def wOr : W → W → Sto → An W := wI fun i j => .int (Builtin.bitOr i j)
theorem rf_or {G : Gx} : OpRf G (rI0 fun i j => .int (Builtin.bitOr i j)) wOr := rf_I fun _ _ _ _ => .int _
theorem rf_pow {G : Gx} : OpRf G (rI CPowW fun i j => .int (i ^ j.toNat)) wPow := rf_Ic (fun i j h => by
  have h' := of_decide_eq_true h
  refine ⟨h'.1, ?_⟩
  have hb : Builtin.Int.intBits i ≤ 300 := PyProof.Rows.intBits_le h'.2.2
  have h1 : (Builtin.Int.intBits i : Int) * j ≤ 300 * j := Int.mul_le_mul_of_nonneg_right (by omega) h'.1
  omega) fun _ _ _ _ _ => .int _

/-! ### x + y -/
def rCatL (K : PySem.W.Frag) : R2 := fun x y H Q => ∃ l b xs zs, x = .ref l ∧ y = .ref b ∧ SqL K H l xs ∧ SqL K H b zs ∧ xs.length + zs.length ≤ sizeLine ∧ ∀ p, H p = none → Q (.ref p) (upd H p (.lst (xs ++ zs)))
theorem op_catL {X : Cx} : OpR X (binaryOp .Add) (rCatL X.K) := by
  intro pins s σ H x y v u Q I rx ry h
  obtain ⟨l, b, xs, zs, rfl, rfl, hH, hB, hz, q⟩ := h
  cases rx
  cases ry
  obtain ⟨its, r, ⟨⟨cls, dd, data, sl⟩, n, ho, hc, hn, hd⟩, z⟩ := I.list hH
  obtain ⟨its2, r2, ⟨⟨cls2, dd2, data2, sl2⟩, n2, ho2, hc2, hn2, hd2⟩, z2⟩ := I.list hB
  simp only at hc hd hc2 hd2
  subst hc hd hc2 hd2
  have e : its.toArray ++ its2.toArray = (its ++ its2).toArray := by simp
  have hl := r.length
  have hl2 := r2.length
  refine concat_meets ⟨_, ho, rfl⟩ ⟨_, ho2, rfl⟩ noFill_list_add seq_list_add PySem.F.slot_list_add PySem.F.entry_list_add (PySem.F.args_list_add_2 _ _) (list_addW l b its.toArray its2.toArray n n2 dd dd2 sl sl2 (by simp; omega)) ⟨ho, ho2, ?_⟩
  rw [e]
  exact ⟨.ref _, _, I.lnew (t' := s.toks) (r.append r2) (by rw [List.length_append]; omega), rfl, q _ I.fresh⟩
def wAdd : W → W → Sto → An W
  | .int i, .int j, st => .ok (.int (i + j)) st
  | .str i, .str j, st => if i.length + j.length ≤ sizeLine then .ok (.str (i ++ j)) st else .bad
  | .tup a, .tup b, st => if a.length + b.length ≤ sizeLine then .ok (.tup (a ++ b)) st else .bad
  | x, y, st => match getL st x, getL st y with
    | some a, some b => if a.length + b.length ≤ sizeLine then .ok (.ref st.length) (st ++ [.lst (a ++ b)]) else .bad
    | _, _ => .bad
def rAddW (K : PySem.W.Frag) : R2 := fun x y H Q => rI0 (fun i j => .int (i + j)) x y H Q ∨ (∃ i j, x = .str i ∧ y = .str j ∧ i.length + j.length ≤ sizeLine ∧ Q (.str (i ++ j)) H) ∨ rCatA K x y H Q ∨ rCatL K x y H Q
theorem op_addW {X : Cx} : OpR X (binaryOp .Add) (rAddW X.K) := op_add.or (op_add_str.or (op_catA.or op_catL))
theorem ite_bad {α : Type} {c : Prop} {inst : Decidable c} {G : Gx} {Wx : WX} {s : L2.St} {P : α → List Addr → Hp → Prop} {r : List Addr} {H : Hp} {m : An α} (p : Po G Wx s P r H (if c then m else .bad)) : c ∧ Po G Wx s P r H m := by
  by_cases h : c
  · rw [if_pos h] at p
    exact ⟨h, p⟩
  · rw [if_neg h] at p
    exact p.elim
theorem rf_catL {G : Gx} {x y : W} {st : Sto} {l : List Addr} {H : Hp} {vx vy : V} {Q : VK} {Wx : WX} {s : L2.St} (sm : Sim G l H st) (rx : Rep G l H x vx) (ry : Rep G l H y vy)
    (p : Po G Wx s (fun w r' H' => ∀ v, Rep G r' H' w v → Q v H') l H (match getL st x, getL st y with
      | some a, some b => if a.length + b.length ≤ sizeLine then .ok (.ref st.length) (st ++ [.lst (a ++ b)]) else .bad
      | _, _ => .bad)) : rCatL G.K vx vy H Q := by
  cases ex : getL st x with
  | none => simp only [ex] at p; exact p.elim
  | some a =>
    cases ey : getL st y with
    | none => simp only [ex, ey] at p; exact p.elim
    | some b =>
      simp only [ex, ey] at p
      obtain ⟨hz, p⟩ := ite_bad p
      obtain ⟨ax, xs, rfl, hx, kx⟩ := getL_rep sm rx ex
      obtain ⟨ay, ys, rfl, hy, ky⟩ := getL_rep sm ry ey
      exact ⟨ax, ay, xs, ys, rfl, rfl, hx, hy, by rw [← kx.length, ← ky.length]; exact hz, Po.newL sm (kx.append ky) p⟩
theorem rf_add {G : Gx} : OpRf G (rAddW G.K) wAdd := by
  intro x y st l H vx vy Q Wx s sm rx ry p
  cases rx with
  | int i =>
    cases ry with
    | int j => exact .inl ⟨i, j, rfl, rfl, Po.ok p sm _ (.int _)⟩
    | _ => exact p.elim
  | str i =>
    cases ry with
    | str j =>
      obtain ⟨hz, p⟩ := ite_bad p
      exact .inr (.inl ⟨i, j, rfl, rfl, hz, Po.ok p sm _ (.str _)⟩)
    | _ => exact p.elim
  | @tup la a xs ha ka =>
    cases ry with
    | @tup lb b ys hb kb =>
      obtain ⟨hz, p⟩ := ite_bad p
      refine .inr (.inr (.inl ⟨a, b, xs, ys, rfl, rfl, ha, hb, by rw [← ka.length, ← kb.length]; exact hz, fun e => ?_, fun e1 e2 => ?_, fun _ _ => Po.newT sm (ka.append kb) p⟩))
      · subst e
        cases ka
        exact Po.ok p sm _ (.tup hb kb)
      · subst e2
        cases kb
        exact Po.ok p sm _ (.tup ha (by rw [List.append_nil]; exact ka))
    | _ => exact p.elim
  | rol h k => exact .inr (.inr (.inr (rf_catL sm (.rol h k) ry (by cases ry <;> exact p))))
  | ref h => exact .inr (.inr (.inr (rf_catL sm (.ref h) ry (by cases ry <;> exact p))))
  | _ => cases ry <;> exact p.elim

/-! ### x * y -/
def wMul : W → W → Sto → An W
  | .int i, .int j, st => if (i.natAbs < BigN ∧ j.natAbs < BigN) ∨ j.natAbs < 2 ^ 60 then .ok (.int (i * j)) st else .bad
  | .tup a, .int k, st => if a ≠ [] ∧ 2 ≤ k ∧ k ≤ 1000 ∧ a.length ≤ 1000 then .ok (.tup (List.replicate k.toNat a).flatten) st else .bad
  | .ref n, .int k, st => match st[n]? with
    | some (.lst a) => if 0 ≤ k ∧ k ≤ 1000 ∧ a.length ≤ 1000 then .ok (.ref st.length) (st ++ [.lst (List.replicate k.toNat a).flatten]) else .bad
    | _ => .bad
  | _, _, _ => .bad
def rMulW (K : PySem.W.Frag) : R2 := fun x y H Q => rI IntMulOk (fun i j => .int (i * j)) x y H Q ∨ rRepT K x y H Q ∨ rRep x y H Q
theorem op_mulI {X : Cx} : OpR X (binaryOp .Mult) (rI IntMulOk fun i j => .int (i * j)) := opI fun _ _ _ _ _ _ _ hc q => mul_int q hc
theorem op_mulA {X : Cx} : OpR X (binaryOp .Mult) (rMulW X.K) := op_mulI.or (op_repT.or op_rep)
theorem rf_mul {G : Gx} : OpRf G (rMulW G.K) wMul := by
  intro x y st l H vx vy Q Wx s sm rx ry p
  cases rx with
  | int i =>
    cases ry with
    | int j =>
      obtain ⟨hz, p⟩ := ite_bad p
      refine .inl ⟨i, j, rfl, rfl, ?_, Po.ok p sm _ (.int _)⟩
      rcases hz with hz | hz
      · have h1 := big_log hz.1
        have h2 := big_log hz.2
        exact CMulW.ok (show i.natAbs.log2 + j.natAbs.log2 < 1000000 by omega)
      · exact IntMulOk.of_right (Nat.le_trans (PyProof.Rows.intBits_le hz) (by decide))
    | _ => exact p.elim
  | @tup la a xs ha ka =>
    cases ry with
    | int k =>
      obtain ⟨hz, p⟩ := ite_bad p
      refine .inr (.inl ⟨a, k, xs, rfl, rfl, ha, fun e => ?_, hz.2.1, hz.2.2.1, by rw [← ka.length]; exact hz.2.2.2, Po.newT sm (ka.flat _) p⟩)
      subst e
      cases ka
      exact hz.1 rfl
    | _ => exact p.elim
  | @ref n a h =>
    cases ry with
    | int k =>
      simp only [wMul] at p
      split at p
      · rename_i la e
        obtain ⟨hz, p⟩ := ite_bad p
        obtain ⟨vs, e2, kk⟩ := sm.got e h
        refine .inr (.inr ⟨a, k, vs, rfl, rfl, e2, by omega, by omega, ?_, Po.newL sm (kk.flat _) p⟩)
        rw [← kk.length]
        have h1 : la.length * k.toNat ≤ 1000 * 1000 := Nat.mul_le_mul hz.2.2 (by omega)
        exact Nat.le_trans h1 (by decide)
      · exact p.elim
    | _ => exact p.elim
  | _ => cases ry <;> exact p.elim

end Sw
/-! Sw4: truth, tests, comparisons. -/
namespace Sw
open PySem PySem.Spec PyProof.Rows L2

/-! ### truth -/
def truW (st : Sto) : W → Option Bool
  | .non => some false
  | .bl b => some b
  | .int i => some (i != 0)
  | .str y => if y.length ≤ sizeLine then some ((y.length : Int) != 0) else none
  | .tup l => some (!l.isEmpty)
  | .rol l => some (!l.isEmpty)
  | .ref n => match st[n]? with
    | some (.lst l) => some (!l.isEmpty)
    | some (.dct l) => some (!l.isEmpty)
    | _ => none
  | _ => none
theorem RepL.empty {G : Gx} {r : List Addr} {H : Hp} {ws : List W} {vs : List V} (k : RepL G r H ws vs) : (!ws.isEmpty) = !vs.isEmpty := by cases k <;> rfl
theorem RepD.empty {G : Gx} {r : List Addr} {H : Hp} {ws : List (Key × W)} {vs : List (Key × V)} (k : RepD G r H ws vs) : (!ws.isEmpty) = !vs.isEmpty := by cases k <;> rfl
theorem truW_rep {G : Gx} {r : List Addr} {H : Hp} {st : Sto} {x : W} {v : V} {b : Bool} (sm : Sim G r H st) (h : Rep G r H x v) (e : truW st x = some b) : TruV G.K v H b := by
  cases h with
  | non => cases e; rfl
  | bl c => cases e; rfl
  | int c => cases e; rfl
  | str c =>
    simp only [truW] at e
    split at e
    · rename_i hz
      cases e
      exact ⟨hz, rfl⟩
    · cases e
  | ty n => cases e
  | tup h k =>
    cases e
    exact .inr (.inl ⟨_, h, k.empty⟩)
  | rol h k =>
    cases e
    exact .inl ⟨_, h.sq, k.empty⟩
  | gl h => cases e
  | ref h =>
    simp only [truW] at e
    split at e
    · rename_i l hl
      cases e
      obtain ⟨vs, e2, k⟩ := sm.got hl h
      exact .inl ⟨vs, .inl (.inl e2), k.empty⟩
    · rename_i l hl
      cases e
      obtain ⟨vs, e2, k⟩ := sm.got hl h
      exact .inr (.inr ⟨vs, e2, k.empty⟩)
    · cases e
def optB {α : Type} (o : Option α) (st : Sto) : An α := match o with
  | some b => .ok b st
  | none => .bad
@[simp] theorem optB_some {α : Type} (b : α) (st : Sto) : optB (some b) st = .ok b st := rfl
@[simp] theorem optB_none {α : Type} (st : Sto) : optB (none : Option α) st = .bad := rfl
theorem Po.optB {α : Type} {G : Gx} {Wx : WX} {s : L2.St} {P : α → List Addr → Hp → Prop} {r : List Addr} {H : Hp} {o : Option α} {st : Sto} (p : Po G Wx s P r H (optB o st)) (sm : Sim G r H st) : ∃ b, o = some b ∧ P b r H := by
  cases o with
  | none => exact p.elim
  | some b => exact ⟨b, rfl, Po.ok p sm⟩
/-- a value's truth as a test -/
def fTru (f : FE) : FT := fun env st => (f env st).bind fun x st1 => optB (truW st1 x) st1
section
variable {X : Cx} {Wx : WX} {pos : Pos} {a b c : Expr} {fa fb fc : FE} {ta tb : FT} {rest : List Expr}
theorem t_tru (h : PE X a (tE (gx X) Wx fa)) (he : ∀ whole, isTrue a X.env whole = (do let v ← whole; standAt a.pos; holding [v] (truthy v)) := by intro _; rfl) : PT X a (tT (gx X) Wx (fTru fa)) :=
  (pt_truth h he).imp fun s H Q h => by
    obtain ⟨env, l, st, en, sm, p⟩ := h
    refine ⟨env, l, st, en, sm, (Po.bind p).imp fun x l1 H1 g1 ⟨st1, sm1, _, p1⟩ vx rx => ?_⟩
    obtain ⟨k, e, q⟩ := Po.optB p1 sm1
    exact ⟨k, truW_rep sm1 rx e, q⟩
def fNotT (f : FT) : FT := fun env st => (f env st).bind fun x st1 => .ok (!x) st1
theorem t_not (h : PT X a (tT (gx X) Wx ta)) : PT X (.UnaryOp .Not a pos) (tT (gx X) Wx (fNotT ta)) := (pt_not h).imp fun s H Q h => by
  obtain ⟨env, l, st, en, sm, p⟩ := h
  exact ⟨env, l, st, en, sm, (Po.bind p).imp fun x l1 H1 g1 ⟨st1, sm1, _, p1⟩ => Po.ok p1 sm1⟩
def fAndT (f g : FT) : FT := fun env st => (f env st).bind fun x st1 => if x = true then g env st1 else .ok false st1
def fOrT (f g : FT) : FT := fun env st => (f env st).bind fun x st1 => if x = true then .ok true st1 else g env st1
theorem t_and1 (h : PT X a (tT (gx X) Wx ta)) : PW X (.BoolOp .And [a] pos) (tT (gx X) Wx ta) := pw_and1 h
theorem t_or1 (h : PT X a (tT (gx X) Wx ta)) : PW X (.BoolOp .Or [a] pos) (tT (gx X) Wx ta) := pw_or1 h
theorem t_and (h : PT X a (tT (gx X) Wx ta)) (h2 : PW X (.BoolOp .And (b :: rest) pos) (tT (gx X) Wx tb)) : PW X (.BoolOp .And (a :: b :: rest) pos) (tT (gx X) Wx (fAndT ta tb)) := (pw_and h h2).imp fun s H Q h => by
  obtain ⟨env, l, st, en, sm, p⟩ := h
  refine ⟨env, l, st, en, sm, (Po.bind p).imp fun x l1 H1 g1 ⟨st1, sm1, _, p1⟩ => ?_⟩
  cases x with
  | true => exact iteT ⟨env, l1, st1, en.grow g1, sm1, by simpa using p1⟩
  | false => exact iteF (Po.ok p1 sm1)
theorem t_or (h : PT X a (tT (gx X) Wx ta)) (h2 : PW X (.BoolOp .Or (b :: rest) pos) (tT (gx X) Wx tb)) : PW X (.BoolOp .Or (a :: b :: rest) pos) (tT (gx X) Wx (fOrT ta tb)) := (pw_or h h2).imp fun s H Q h => by
  obtain ⟨env, l, st, en, sm, p⟩ := h
  refine ⟨env, l, st, en, sm, (Po.bind p).imp fun x l1 H1 g1 ⟨st1, sm1, _, p1⟩ => ?_⟩
  cases x with
  | true => exact iteT (Po.ok p1 sm1)
  | false => exact iteF ⟨env, l1, st1, en.grow g1, sm1, by simpa using p1⟩
/-! ### and, or, not as values; a if t else b -/
def fOr (f g : FE) : FE := fun env st => (f env st).bind fun x st1 => (optB (truW st1 x) st1).bind fun k _ => if k = true then .ok x st1 else g env st1
def fAnd (f g : FE) : FE := fun env st => (f env st).bind fun x st1 => (optB (truW st1 x) st1).bind fun k _ => if k = true then g env st1 else .ok x st1
def fNot (f : FE) : FE := fun env st => (f env st).bind fun x st1 => (optB (truW st1 x) st1).bind fun k _ => .ok (.bl (!k)) st1
theorem e_one {op : BoolOp} (h : PE X a (tE (gx X) Wx fa)) : PE X (.BoolOp op [a] pos) (tE (gx X) Wx fa) := pe_one h
theorem e_or (h : PE X a (tE (gx X) Wx fa)) (h2 : PE X (.BoolOp .Or (b :: rest) pos) (tE (gx X) Wx fb)) : PE X (.BoolOp .Or (a :: b :: rest) pos) (tE (gx X) Wx (fOr fa fb)) := (pe_orT h h2).imp fun s H Q h => by
  obtain ⟨env, l, st, en, sm, p⟩ := h
  refine ⟨env, l, st, en, sm, (Po.bind p).imp fun x l1 H1 g1 ⟨st1, sm1, _, p1⟩ vx rx => ?_⟩
  cases e : truW st1 x with
  | none => rw [e] at p1; exact p1.elim
  | some k =>
    rw [e] at p1
    refine ⟨k, truW_rep sm1 rx e, ?_⟩
    cases k with
    | true => exact iteT (Po.ok p1 sm1 vx rx)
    | false => exact iteF ⟨env, l1, st1, en.grow g1, sm1, by simpa using p1⟩
theorem e_and (h : PE X a (tE (gx X) Wx fa)) (h2 : PE X (.BoolOp .And (b :: rest) pos) (tE (gx X) Wx fb)) : PE X (.BoolOp .And (a :: b :: rest) pos) (tE (gx X) Wx (fAnd fa fb)) := (pe_andT h h2).imp fun s H Q h => by
  obtain ⟨env, l, st, en, sm, p⟩ := h
  refine ⟨env, l, st, en, sm, (Po.bind p).imp fun x l1 H1 g1 ⟨st1, sm1, _, p1⟩ vx rx => ?_⟩
  cases e : truW st1 x with
  | none => rw [e] at p1; exact p1.elim
  | some k =>
    rw [e] at p1
    refine ⟨k, truW_rep sm1 rx e, ?_⟩
    cases k with
    | true => exact iteT ⟨env, l1, st1, en.grow g1, sm1, by simpa using p1⟩
    | false => exact iteF (Po.ok p1 sm1 vx rx)
theorem e_not (h : PE X a (tE (gx X) Wx fa)) : PE X (.UnaryOp .Not a pos) (tE (gx X) Wx (fNot fa)) := (pe_notT h).imp fun s H Q h => by
  obtain ⟨env, l, st, en, sm, p⟩ := h
  refine ⟨env, l, st, en, sm, (Po.bind p).imp fun x l1 H1 g1 ⟨st1, sm1, _, p1⟩ vx rx => ?_⟩
  cases e : truW st1 x with
  | none => rw [e] at p1; exact p1.elim
  | some k =>
    rw [e] at p1
    exact ⟨k, truW_rep sm1 rx e, Po.ok p1 sm1 _ (.bl _)⟩
def fIf (t : FT) (f g : FE) : FE := fun env st => (t env st).bind fun x st1 => if x = true then f env st1 else g env st1
theorem e_if (ht : PT X c (tT (gx X) Wx ta)) (h : PE X a (tE (gx X) Wx fa)) (h2 : PE X b (tE (gx X) Wx fb)) : PE X (.IfExp c a b pos) (tE (gx X) Wx (fIf ta fa fb)) := (pe_ifExp ht h h2).imp fun s H Q h => by
  obtain ⟨env, l, st, en, sm, p⟩ := h
  refine ⟨env, l, st, en, sm, (Po.bind p).imp fun x l1 H1 g1 ⟨st1, sm1, _, p1⟩ => ?_⟩
  cases x with
  | true => exact iteT ⟨env, l1, st1, en.grow g1, sm1, by simpa using p1⟩
  | false => exact iteF ⟨env, l1, st1, en.grow g1, sm1, by simpa using p1⟩
/-! ### unary minus -/
def fNeg (f : FE) : FE := fun env st => (f env st).bind fun x st1 => match x with
  | .int i => .ok (.int (-i)) st1
  | _ => .bad
theorem e_neg (h : PE X a (tE (gx X) Wx fa)) : PE X (.UnaryOp .USub a pos) (tE (gx X) Wx (fNeg fa)) := (pe_un un_neg h).imp fun s H Q h => by
  obtain ⟨env, l, st, en, sm, p⟩ := h
  refine ⟨env, l, st, en, sm, (Po.bind p).imp fun x l1 H1 g1 ⟨st1, sm1, _, p1⟩ vx rx => ?_⟩
  cases rx with
  | int i => exact ⟨i, rfl, Po.ok p1 sm1 _ (.int _)⟩
  | _ => exact p1.elim

/-! ### comparisons: g gives a truth -/
def OpRb (G : Gx) (r : R2) (g : W → W → Sto → Option Bool) : Prop := ∀ (x y : W) (st : Sto) (l : List Addr) (H : Hp) (vx vy : V) (Q : VK) (k : Bool), Sim G l H st → Rep G l H x vx → Rep G l H y vy → g x y st = some k → Q (.bl k) H → r vx vy H Q
def fCmp (g : W → W → Sto → Option Bool) (fa fb : FE) : FT := fun env st => (fa env st).bind fun x st1 => (fb env st1).bind fun y st2 => optB (g x y st2) st2
def fCmpE (g : W → W → Sto → Option Bool) (fa fb : FE) : FE := fun env st => (fa env st).bind fun x st1 => (fb env st1).bind fun y st2 => (optB (g x y st2) st2).bind fun k _ => .ok (.bl k) st2
theorem t_cmp {op : CmpOp} {r : R2} {g : W → W → Sto → Option Bool} (ho : OpR X (compareOp op) r) (hg : OpRb (gx X) r g) (ha : PE X a (tE (gx X) Wx fa)) (hb : PE X b (tE (gx X) Wx fb)) (hm : behindInMarks op b = false) : PT X (.Compare a [op] [b] pos) (tT (gx X) Wx (fCmp g fa fb)) :=
  (pt_cmpR ho ha hb hm).imp fun s H Q h => by
    obtain ⟨env, l, st, en, sm, p⟩ := h
    refine ⟨env, l, st, en, sm, (Po.bind p).imp fun x l1 H1 g1 ⟨st1, sm1, _, p1⟩ vx rx => ?_⟩
    refine ⟨env, l1, st1, en.grow g1, sm1, (Po.bind p1).imp fun y l2 H2 g2 ⟨st2, sm2, _, p2⟩ vy ry => ?_⟩
    obtain ⟨k, e, q⟩ := Po.optB p2 sm2
    exact hg x y st2 l2 H2 vx vy _ k sm2 (rx.grow g2) ry e ⟨k, rfl, q⟩
theorem e_cmp {op : CmpOp} {r : R2} {g : W → W → Sto → Option Bool} (ho : OpR X (compareOp op) r) (hg : OpRb (gx X) r g) (ha : PE X a (tE (gx X) Wx fa)) (hb : PE X b (tE (gx X) Wx fb)) (hm : behindInMarks op b = false) : PE X (.Compare a [op] [b] pos) (tE (gx X) Wx (fCmpE g fa fb)) :=
  (pe_cmpR ho ha hb hm).imp fun s H Q h => by
    obtain ⟨env, l, st, en, sm, p⟩ := h
    refine ⟨env, l, st, en, sm, (Po.bind p).imp fun x l1 H1 g1 ⟨st1, sm1, _, p1⟩ vx rx => ?_⟩
    refine ⟨env, l1, st1, en.grow g1, sm1, (Po.bind p1).imp fun y l2 H2 g2 ⟨st2, sm2, _, p2⟩ vy ry => ?_⟩
    cases e : g x y st2 with
    | none => rw [e] at p2; exact p2.elim
    | some k =>
      rw [e] at p2
      exact hg x y st2 l2 H2 vx vy _ k sm2 (rx.grow g2) ry e (Po.ok p2 sm2 _ (.bl k))
/-- a op b op' c -/
def fChn (g g' : W → W → Sto → Option Bool) (fa fb fc : FE) : FT := fun env st => (fa env st).bind fun x st1 => (fb env st1).bind fun y st2 => (optB (g x y st2) st2).bind fun k _ =>
  if k = true then (fc env st2).bind fun z st3 => optB (g' y z st3) st3 else .ok false st2
def fChnE (g g' : W → W → Sto → Option Bool) (fa fb fc : FE) : FE := fun env st => (fa env st).bind fun x st1 => (fb env st1).bind fun y st2 => (optB (g x y st2) st2).bind fun k _ =>
  if k = true then (fc env st2).bind fun z st3 => (optB (g' y z st3) st3).bind fun k _ => .ok (.bl k) st3 else .ok (.bl false) st2
theorem t_chn {op op' : CmpOp} {r r' : R2} {g g' : W → W → Sto → Option Bool} (ho : OpR X (compareOp op) r) (hg : OpRb (gx X) r g) (ho' : OpR X (compareOp op') r') (hg' : OpRb (gx X) r' g') (ha : PE X a (tE (gx X) Wx fa)) (hb : PE X b (tE (gx X) Wx fb)) (hc : PE X c (tE (gx X) Wx fc))
    (hm : lastMarks [op, op'] [b, c] = false := by with_unfolding_all rfl) : PT X (.Compare a [op, op'] [b, c] pos) (tT (gx X) Wx (fChn g g' fa fb fc)) :=
  (pt_chain ho ho' ha hb hc hm).imp fun s H Q h => by
    obtain ⟨env, l, st, en, sm, p⟩ := h
    refine ⟨env, l, st, en, sm, (Po.bind p).imp fun x l1 H1 g1 ⟨st1, sm1, _, p1⟩ vx rx => ?_⟩
    refine ⟨env, l1, st1, en.grow g1, sm1, (Po.bind p1).imp fun y l2 H2 g2 ⟨st2, sm2, _, p2⟩ vy ry => ?_⟩
    cases e : g x y st2 with
    | none => rw [e] at p2; exact p2.elim
    | some k =>
      rw [e] at p2
      refine hg x y st2 l2 H2 vx vy _ k sm2 (rx.grow g2) ry e ⟨k, rfl, ?_⟩
      cases k with
      | false => exact iteF ⟨false, rfl, Po.ok p2 sm2⟩
      | true =>
        simp only [optB_some, An.bind_ok, if_true] at p2
        refine iteT ⟨env, l2, st2, (en.grow g1).grow g2, sm2, (Po.bind p2).imp fun z l3 H3 g3 ⟨st3, sm3, _, p3⟩ vz rz => ?_⟩
        obtain ⟨k, e, q⟩ := Po.optB p3 sm3
        exact hg' y z st3 l3 H3 vy vz _ k sm3 (ry.grow g3) rz e ⟨k, rfl, q⟩
theorem e_chn {op op' : CmpOp} {r r' : R2} {g g' : W → W → Sto → Option Bool} (ho : OpR X (compareOp op) r) (hg : OpRb (gx X) r g) (ho' : OpR X (compareOp op') r') (hg' : OpRb (gx X) r' g') (ha : PE X a (tE (gx X) Wx fa)) (hb : PE X b (tE (gx X) Wx fb)) (hc : PE X c (tE (gx X) Wx fc))
    (hm : lastMarks [op, op'] [b, c] = false := by with_unfolding_all rfl) : PE X (.Compare a [op, op'] [b, c] pos) (tE (gx X) Wx (fChnE g g' fa fb fc)) :=
  (pe_chain ho ho' ha hb hc hm).imp fun s H Q h => by
    obtain ⟨env, l, st, en, sm, p⟩ := h
    refine ⟨env, l, st, en, sm, (Po.bind p).imp fun x l1 H1 g1 ⟨st1, sm1, _, p1⟩ vx rx => ?_⟩
    refine ⟨env, l1, st1, en.grow g1, sm1, (Po.bind p1).imp fun y l2 H2 g2 ⟨st2, sm2, _, p2⟩ vy ry => ?_⟩
    cases e : g x y st2 with
    | none => rw [e] at p2; exact p2.elim
    | some k =>
      rw [e] at p2
      refine hg x y st2 l2 H2 vx vy _ k sm2 (rx.grow g2) ry e ⟨k, rfl, ?_⟩
      cases k with
      | false => exact iteF (Po.ok p2 sm2 _ (.bl _))
      | true =>
        simp only [optB_some, An.bind_ok, if_true] at p2
        refine iteT ⟨env, l2, st2, (en.grow g1).grow g2, sm2, (Po.bind p2).imp fun z l3 H3 g3 ⟨st3, sm3, _, p3⟩ vz rz => ?_⟩
        cases e : g' y z st3 with
        | none => rw [e] at p3; exact p3.elim
        | some k =>
          rw [e] at p3
          exact hg' y z st3 l3 H3 vy vz _ k sm3 (ry.grow g3) rz e (Po.ok p3 sm3 _ (.bl k))
end

/-! ### <, <=, >, >= of whole numbers -/
def wIb (f : Int → Int → Bool) : W → W → Sto → Option Bool
  | .int i, .int j, _ => some (f i j)
  | _, _, _ => none
theorem rb_I {G : Gx} {f : Int → Int → Bool} : OpRb G (rI0 fun i j => .bl (f i j)) (wIb f) := by
  intro x y st l H vx vy Q k sm rx ry e q
  cases rx <;> cases ry <;> first | cases e | skip
  exact ⟨_, _, rfl, rfl, q⟩
def wLt : W → W → Sto → Option Bool := wIb fun i j => decide (i < j)
def wLe : W → W → Sto → Option Bool := wIb fun i j => decide (i ≤ j)
def wGt : W → W → Sto → Option Bool := wIb fun i j => decide (j < i)
def wGe : W → W → Sto → Option Bool := wIb fun i j => decide (j ≤ i)

/-! ### is None -/
def wIsN : W → W → Sto → Option Bool
  | .non, .non, _ => some true
  | _, .non, _ => some false
  | _, _, _ => none
def wNotN : W → W → Sto → Option Bool := fun x y st => (wIsN x y st).map (!·)
theorem wIsN_rep {G : Gx} {l : List Addr} {H : Hp} {x y : W} {vx vy : V} {k : Bool} {st : Sto} (rx : Rep G l H x vx) (ry : Rep G l H y vy) (e : wIsN x y st = some k) : vy = .non ∧ k = decide (vx = .non) := by
  cases ry <;> cases rx <;> first | (cases e; exact ⟨rfl, by simp⟩) | cases e
theorem rb_isN {G : Gx} : OpRb G (fun x y H Q => y = .non ∧ Q (.bl (decide (x = .non))) H) wIsN := by
  intro x y st l H vx vy Q k sm rx ry e q
  obtain ⟨h1, h2⟩ := wIsN_rep rx ry e
  exact ⟨h1, by rw [← h2]; exact q⟩
theorem rb_notN {G : Gx} : OpRb G (fun x y H Q => y = .non ∧ Q (.bl (!decide (x = .non))) H) wNotN := by
  intro x y st l H vx vy Q k sm rx ry e q
  unfold wNotN at e
  cases e2 : wIsN x y st with
  | none => rw [e2] at e; cases e
  | some k' =>
    rw [e2] at e
    cases e
    obtain ⟨h1, h2⟩ := wIsN_rep rx ry e2
    exact ⟨h1, by rw [← h2]; exact q⟩

/-! ### ==, != -/
def toD (st : Sto) : Nat → W → Option PyData
  | 0, _ => none
  | k + 1, x => match x with
    | .non => some .none
    | .bl b => some (.bool b)
    | .int i => some (.int i)
    | .str y => if PyData.canLay0 (.str y) = true then some (.str y) else none
    | .tup l => (l.mapM (toD st k)).map .tuple
    | .rol l => (l.mapM (toD st k)).map .list
    | .ref n => match st[n]? with
      | some (.lst l) => (l.mapM (toD st k)).map .list
      | _ => none
    | _ => none
theorem mapM_some {α β : Type} {f : α → Option β} : ∀ {l : List α} {m : List β}, l.mapM f = some m → ∀ {P : List α → List β → Prop}, P [] [] → (∀ a b l m, f a = some b → P l m → P (a :: l) (b :: m)) → P l m
  | [], m, h, P, h0, _ => by
    simp at h
    subst h
    exact h0
  | a :: l, m, h, P, h0, h1 => by
    rw [List.mapM_cons] at h
    cases e : f a with
    | none => rw [e] at h; cases h
    | some b =>
      rw [e] at h
      cases e2 : l.mapM f with
      | none => simp [e2] at h
      | some m' =>
        simp [e2] at h
        subst h
        exact h1 a b l m' e (mapM_some e2 h0 h1)
theorem toD_ok {G : Gx} {r : List Addr} {H : Hp} {st : Sto} (sm : Sim G r H st) : ∀ (k : Nat) {x : W} {v : V} {d : PyData}, toD st k x = some d → Rep G r H x v → Dp G.K H v d ∧ d.canLay0 = true ∧ d.depth ≤ k
  | 0, x, v, d, e, _ => by simp [toD] at e
  | k + 1, x, v, d, e, h => by
    have all : ∀ {l : List W} {vs : List V} {ds : List PyData}, l.mapM (toD st k) = some ds → RepL G r H l vs → DpAll G.K H vs ds ∧ PyData.canLayAll0 ds = true ∧ PyData.depthAll ds ≤ k := fun {l vs ds} e q => by
      refine mapM_some e (P := fun l ds => ∀ vs, RepL G r H l vs → DpAll G.K H vs ds ∧ PyData.canLayAll0 ds = true ∧ PyData.depthAll ds ≤ k) (fun vs q => ?_) (fun a b l m ea ih vs q => ?_) vs q
      · cases q
        exact ⟨.nil, by simp [PyData.canLayAll0], by simp [PyData.depthAll]⟩
      · cases q with
        | cons q1 q2 =>
          obtain ⟨h1, h2, h3⟩ := toD_ok sm k ea q1
          obtain ⟨i1, i2, i3⟩ := ih _ q2
          exact ⟨.cons h1 i1, by simp [PyData.canLayAll0, h2, i2], by simp only [PyData.depthAll]; omega⟩
    cases h with
    | non => cases e; exact ⟨.non, by simp [PyData.canLay0], by simp [PyData.depth]⟩
    | bl b => cases e; exact ⟨.bl b, by simp [PyData.canLay0], by simp [PyData.depth]⟩
    | int b => cases e; exact ⟨.int b, by simp [PyData.canLay0], by simp [PyData.depth]⟩
    | str b =>
      simp only [toD] at e
      split at e
      · rename_i hc
        cases e
        exact ⟨.str b, hc, by simp [PyData.depth]⟩
      · cases e
    | tup h q =>
      simp only [toD] at e
      obtain ⟨ds, e1, rfl⟩ := Option.map_eq_some_iff.mp e
      obtain ⟨h1, h2, h3⟩ := all e1 q
      exact ⟨.tup h h1, by simpa [PyData.canLay0] using h2, by simp only [PyData.depth]; omega⟩
    | rol h q =>
      simp only [toD] at e
      obtain ⟨ds, e1, rfl⟩ := Option.map_eq_some_iff.mp e
      obtain ⟨h1, h2, h3⟩ := all e1 q
      exact ⟨.lst h.sq h1, by simpa [PyData.canLay0] using h2, by simp only [PyData.depth]; omega⟩
    | ref h =>
      simp only [toD] at e
      split at e
      · rename_i l hl
        obtain ⟨ds, e1, rfl⟩ := Option.map_eq_some_iff.mp e
        obtain ⟨vs, e2, q⟩ := sm.got hl h
        obtain ⟨h1, h2, h3⟩ := all e1 q
        exact ⟨.lst (.inl (.inl e2)) h1, by simpa [PyData.canLay0] using h2, by simp only [PyData.depth]; omega⟩
      · cases e
    | ty n => simp [toD] at e
    | gl h => simp [toD] at e
theorem toD_shaped {d : PyData} (h : d.canLay0 = true) (k : d.depth ≤ 64) : SeqAt.shaped d = true := by
  unfold SeqAt.shaped
  rw [h, decide_eq_true k]
  rfl
def eqW (st : Sto) : W → W → Option Bool
  | .int i, .int j => some (decide (i = j))
  | .str i, .str j => some (decide (i = j))
  | x, y => (toD st 64 x).bind fun d => (toD st 64 y).map fun e => PyData.eqv d e
def wEq : W → W → Sto → Option Bool := fun x y st => eqW st x y
def wNe : W → W → Sto → Option Bool := fun x y st => (eqW st x y).map (!·)
def rEqW (K : PySem.W.Frag) : R2 := fun x y H Q => rEq x y H Q ∨ rEqD K x y H Q
def rNeW (K : PySem.W.Frag) : R2 := fun x y H Q => rNe x y H Q ∨ rNeD K x y H Q
theorem op_eqW {X : Cx} (hu : X.A.units + 64 < cLine) : OpR X (compareOp .Eq) (rEqW X.K) := op_eq.or (op_eqD hu)
theorem op_neW {X : Cx} (hu : X.A.units + 64 < cLine) : OpR X (compareOp .NotEq) (rNeW X.K) := op_ne.or (op_neD hu)
theorem eqW_rep {G : Gx} {r : List Addr} {H : Hp} {st : Sto} (sm : Sim G r H st) {x y : W} {vx vy : V} {k : Bool} (rx : Rep G r H x vx) (ry : Rep G r H y vy) (e : eqW st x y = some k) :
    (scal vx vy = true ∧ k = decide (vx = vy)) ∨ ∃ d d', Dp G.K H vx d ∧ Dp G.K H vy d' ∧ SeqAt.shaped d = true ∧ SeqAt.shaped d' = true ∧ k = PyData.eqv d d' := by
  have deep : ((toD st 64 x).bind fun d => (toD st 64 y).map fun e => PyData.eqv d e) = some k → (scal vx vy = true ∧ k = decide (vx = vy)) ∨ ∃ d d', Dp G.K H vx d ∧ Dp G.K H vy d' ∧ SeqAt.shaped d = true ∧ SeqAt.shaped d' = true ∧ k = PyData.eqv d d' := fun e => by
    obtain ⟨d, e1, e⟩ := Option.bind_eq_some_iff.mp e
    obtain ⟨d', e2, e⟩ := Option.map_eq_some_iff.mp e
    obtain ⟨h1, h2, h3⟩ := toD_ok sm 64 e1 rx
    obtain ⟨i1, i2, i3⟩ := toD_ok sm 64 e2 ry
    exact .inr ⟨d, d', h1, i1, toD_shaped h2 h3, toD_shaped i2 i3, e.symm⟩
  cases rx with
  | int i =>
    cases ry with
    | int j => cases e; exact .inl ⟨rfl, by simp⟩
    | _ => exact deep e
  | str i =>
    cases ry with
    | str j => cases e; exact .inl ⟨rfl, by simp⟩
    | _ => exact deep e
  | _ => exact deep e
theorem rb_eq {G : Gx} : OpRb G (rEqW G.K) wEq := by
  intro x y st l H vx vy Q k sm rx ry e q
  rcases eqW_rep sm rx ry e with ⟨h1, rfl⟩ | ⟨d, d', h1, h2, h3, h4, rfl⟩
  · exact .inl ⟨h1, q⟩
  · exact .inr ⟨d, d', h1, h2, h3, h4, q⟩
theorem rb_ne {G : Gx} : OpRb G (rNeW G.K) wNe := by
  intro x y st l H vx vy Q k sm rx ry e q
  unfold wNe at e
  obtain ⟨k', e1, rfl⟩ := Option.map_eq_some_iff.mp e
  rcases eqW_rep sm rx ry e1 with ⟨h1, rfl⟩ | ⟨d, d', h1, h2, h3, h4, rfl⟩
  · exact .inl ⟨h1, q⟩
  · exact .inr ⟨d, d', h1, h2, h3, h4, q⟩

/-! ### in, not in: a list or tuple of flat things, one sign in a text -/
def flatW : W → Bool
  | .non => true | .bl _ => true | .int _ => true | .str _ => true
  | _ => false
def eqFW : W → W → Bool
  | .non, .non => true
  | .bl a, .bl b => a == b
  | .bl a, .int b => (if a then 1 else 0) == b
  | .int a, .bl b => a == (if b then 1 else 0)
  | .int a, .int b => a == b
  | .str a, .str b => a == b
  | _, _ => false
def inFW (x : W) (xs : List W) : Bool := xs.any fun y => eqFW y x
/-- the items of a list or a tuple -/
def getS (st : Sto) : W → Option (List W)
  | .tup l => some l
  | x => getL st x
def wIn : W → W → Sto → Option Bool
  | x, .str z, _ => match x with
    | .str i => match i.cps.toList with
      | [c] => some (decide (c ∈ z.cps.toList))
      | _ => none
    | _ => none
  | x, y, st => match getS st y with
    | some l => if flatW x = true ∧ l.all flatW = true then some (inFW x l) else none
    | none => none
def wNotIn : W → W → Sto → Option Bool := fun x y st => (wIn x y st).map (!·)
theorem flat_rep {G : Gx} {r : List Addr} {H : Hp} {x : W} {v : V} (h : Rep G r H x v) : flatV v = flatW x := by cases h <;> rfl
theorem flats_rep {G : Gx} {r : List Addr} {H : Hp} : ∀ {l : List W} {vs : List V}, RepL G r H l vs → vs.all flatV = l.all flatW
  | _, _, .nil => rfl
  | _, _, .cons h k => by rw [List.all_cons, List.all_cons, flat_rep h, flats_rep k]
theorem eqF_rep {G : Gx} {r : List Addr} {H : Hp} {x y : W} {v u : V} (h : Rep G r H x v) (k : Rep G r H y u) : eqV v u = eqFW x y := by cases h <;> cases k <;> rfl
theorem inF_rep {G : Gx} {r : List Addr} {H : Hp} {x : W} {v : V} (h : Rep G r H x v) : ∀ {l : List W} {vs : List V}, RepL G r H l vs → inV v vs = inFW x l
  | _, _, .nil => rfl
  | _, _, .cons q k => by
    have ih := inF_rep h k
    unfold inV inFW at *
    rw [List.any_cons, List.any_cons, eqF_rep q h, ih]
def rInW (K : PySem.W.Frag) : R2 := fun x y H Q => rIn K false x y H Q ∨ ∃ (c : Nat) (z : Str), x = .str ⟨#[c]⟩ ∧ y = .str z ∧ Q (.bl (decide (c ∈ z.cps.toList))) H
def rNotInW (K : PySem.W.Frag) : R2 := fun x y H Q => rIn K true x y H Q ∨ ∃ (c : Nat) (z : Str), x = .str ⟨#[c]⟩ ∧ y = .str z ∧ Q (.bl (!decide (c ∈ z.cps.toList))) H
theorem op_inW {X : Cx} : OpR X (compareOp .In) (rInW X.K) := op_in_seq.or op_in_sign
theorem op_notInW {X : Cx} : OpR X (compareOp .NotIn) (rNotInW X.K) := op_notIn_seq.or op_notIn_sign
theorem wIn_rep {G : Gx} {r : List Addr} {H : Hp} {st : Sto} (sm : Sim G r H st) {x y : W} {vx vy : V} {k : Bool} (rx : Rep G r H x vx) (ry : Rep G r H y vy) (e : wIn x y st = some k) :
    (∃ p xs, vy = .ref p ∧ (SqL G.K H p xs ∨ SqT G.K H p xs) ∧ flatV vx = true ∧ xs.all flatV = true ∧ k = inV vx xs) ∨ ∃ (c : Nat) (z : Str), vx = .str ⟨#[c]⟩ ∧ vy = .str z ∧ k = decide (c ∈ z.cps.toList) := by
  have sq : ∀ {l : List W}, getS st y = some l → ∃ p xs, vy = .ref p ∧ (SqL G.K H p xs ∨ SqT G.K H p xs) ∧ RepL G r H l xs := fun {l} e => by
    cases ry with
    | tup h q => cases e; exact ⟨_, _, rfl, .inr h, q⟩
    | rol h q => obtain ⟨a, vs, e1, h, q⟩ := getL_rep sm (.rol h q) e; exact ⟨a, vs, e1, .inl h, q⟩
    | ref h => obtain ⟨a, vs, e1, h, q⟩ := getL_rep sm (.ref h) e; exact ⟨a, vs, e1, .inl h, q⟩
    | _ => simp [getS, getL] at e
  have gen : (match getS st y with | some l => if flatW x = true ∧ l.all flatW = true then some (inFW x l) else none | none => none) = some k →
      ∃ p xs, vy = .ref p ∧ (SqL G.K H p xs ∨ SqT G.K H p xs) ∧ flatV vx = true ∧ xs.all flatV = true ∧ k = inV vx xs := fun e => by
    cases e1 : getS st y with
    | none => rw [e1] at e; cases e
    | some l =>
      simp only [e1] at e
      obtain ⟨p, xs, h1, h2, q⟩ := sq e1
      split at e
      · rename_i hc
        cases e
        exact ⟨p, xs, h1, h2, by rw [flat_rep rx]; exact hc.1, by rw [flats_rep q]; exact hc.2, (inF_rep rx q).symm⟩
      · cases e
  cases ry with
  | str z =>
    cases rx with
    | str i =>
      simp only [wIn] at e
      split at e
      · rename_i c hc
        cases e
        have ei : i = ⟨#[c]⟩ := ext_toList (by rw [hc])
        subst ei
        exact .inr ⟨c, z, rfl, rfl, rfl⟩
      · cases e
    | _ => cases e
  | tup h q => exact .inl (gen e)
  | rol h q => exact .inl (gen e)
  | ref h => exact .inl (gen e)
  | _ => simp [wIn, getS, getL] at e
theorem rb_in {G : Gx} : OpRb G (rInW G.K) wIn := by
  intro x y st l H vx vy Q k sm rx ry e q
  rcases wIn_rep sm rx ry e with ⟨p, xs, h1, h2, h3, h4, rfl⟩ | ⟨c, z, h1, h2, rfl⟩
  · exact .inl ⟨p, xs, h1, h2, h3, h4, q⟩
  · exact .inr ⟨c, z, h1, h2, q⟩
theorem rb_notIn {G : Gx} : OpRb G (rNotInW G.K) wNotIn := by
  intro x y st l H vx vy Q k sm rx ry e q
  unfold wNotIn at e
  obtain ⟨k', e1, rfl⟩ := Option.map_eq_some_iff.mp e
  rcases wIn_rep sm rx ry e1 with ⟨p, xs, h1, h2, h3, h4, rfl⟩ | ⟨c, z, h1, h2, rfl⟩
  · exact .inl ⟨p, xs, h1, h2, h3, h4, q⟩
  · exact .inr ⟨c, z, h1, h2, q⟩
end Sw
/-! Sw5: displays, places, slices, calls. -/
namespace Sw
open PySem PySem.Spec PyProof.Rows L2

section
variable {X : Cx} {Wx : WX} {pos : Pos} {a b c e : Expr} {fa fb fc : FE} {ta tb : FT} {es : List Expr}
/-! ### argument lists, displays -/
def fNil : FA := fun _ st => .ok [] st
def fCons (f : FE) (g : FA) : FA := fun env st => (f env st).bind fun w st1 => (g env st1).bind fun ws st2 => .ok (w :: ws) st2
theorem a_nil : PA X [] (tL (gx X) Wx fNil) := pa_nil.imp fun s H Q h => by
  obtain ⟨env, l, st, en, sm, p⟩ := h
  exact Po.ok p sm _ .nil
theorem a_cons {g : FA} (h : PE X e (tE (gx X) Wx fa)) (h2 : PA X es (tL (gx X) Wx g)) (hs : starEach (e :: es) X.env = (false, eval e X.env) :: starEach es X.env := by rfl) : PA X (e :: es) (tL (gx X) Wx (fCons fa g)) := (pa_cons h h2 hs).imp fun s H Q h => by
  obtain ⟨env, l, st, en, sm, p⟩ := h
  refine ⟨env, l, st, en, sm, (Po.bind p).imp fun x l1 H1 g1 ⟨st1, sm1, _, p1⟩ vx rx => ?_⟩
  refine ⟨env, l1, st1, en.grow g1, sm1, (Po.bind p1).imp fun y l2 H2 g2 ⟨st2, sm2, _, p2⟩ vy ry => ?_⟩
  exact Po.ok p2 sm2 _ (.cons (rx.grow g2) ry)
def fTup (f : FA) : FE := fun env st => (f env st).bind fun ws st1 => if ws.length ≤ 1000 then .ok (.tup ws) st1 else .bad
def fLst (f : FA) : FE := fun env st => (f env st).bind fun ws st1 => if ws.length ≤ 1000 then .ok (.ref st1.length) (st1 ++ [.lst ws]) else .bad
theorem line1000 {n : Nat} (h : n ≤ 1000) : n ≤ sizeLine := Nat.le_trans h (by decide)
theorem e_tup {f : FA} {k : Nat} (h : PA X es (tL (gx X) Wx f)) : PE X (.Tuple es k pos) (tE (gx X) Wx (fTup f)) := (pe_tup h).imp fun s H Q h => by
  obtain ⟨env, l, st, en, sm, p⟩ := h
  refine ⟨env, l, st, en, sm, (Po.bind p).imp fun x l1 H1 g1 ⟨st1, sm1, _, p1⟩ vx rx => ?_⟩
  obtain ⟨hz, p1⟩ := ite_bad p1
  exact ⟨by rw [← rx.length]; exact line1000 hz, Po.newT sm1 rx p1⟩
theorem e_lst {f : FA} (h : PA X es (tL (gx X) Wx f)) : PE X (.List es pos) (tE (gx X) Wx (fLst f)) := (pe_lst h).imp fun s H Q h => by
  obtain ⟨env, l, st, en, sm, p⟩ := h
  refine ⟨env, l, st, en, sm, (Po.bind p).imp fun x l1 H1 g1 ⟨st1, sm1, _, p1⟩ vx rx => ?_⟩
  obtain ⟨hz, p1⟩ := ite_bad p1
  exact ⟨by rw [← rx.length]; exact line1000 hz, Po.newL sm1 rx p1⟩

/-! ### x[i] -/
def wIx : W → W → Sto → Option W
  | .str z, .int i, _ => if z.length ≤ sizeLine then (atI z.cps.toList i).map fun c => .str ⟨#[c]⟩ else none
  | x, .int i, st => (getS st x).bind fun l => atI l i
  | _, _, _ => none
theorem getS_rep {G : Gx} {r : List Addr} {H : Hp} {st : Sto} {x : W} {v : V} {l : List W} (sm : Sim G r H st) (h : Rep G r H x v) (e : getS st x = some l) : ∃ p xs, v = .ref p ∧ (SqL G.K H p xs ∨ SqT G.K H p xs) ∧ RepL G r H l xs := by
  cases h with
  | tup h q => cases e; exact ⟨_, _, rfl, .inr h, q⟩
  | rol h q => obtain ⟨a, vs, e1, h, q⟩ := getL_rep sm (.rol h q) e; exact ⟨a, vs, e1, .inl h, q⟩
  | ref h => obtain ⟨a, vs, e1, h, q⟩ := getL_rep sm (.ref h) e; exact ⟨a, vs, e1, .inl h, q⟩
  | _ => simp [getS, getL] at e
theorem atI_rep {G : Gx} {r : List Addr} {H : Hp} {l : List W} {vs : List V} {i : Int} {w : W} (q : RepL G r H l vs) (e : atI l i = some w) : ∃ v, atI vs i = some v ∧ Rep G r H w v := by
  unfold atI at e ⊢
  rw [← q.length]
  cases h : ixN l.length i with
  | none => rw [h] at e; cases e
  | some j =>
    rw [h] at e
    obtain ⟨v, h1, h2⟩ := q.get (show l[j]? = some w from e)
    exact ⟨v, h1, h2⟩
def wIxA : W → W → Sto → An W := fun x y st => optB (wIx x y st) st
theorem rf_ix {G : Gx} : OpRf G (rIx G.K) wIxA := by
  intro x y st l H vx vy Q Wx s sm rx ry p
  obtain ⟨w, e, q⟩ := Po.optB p sm
  cases ry with
  | int i =>
    have gen : (getS st x).bind (fun l => atI l i) = some w → rIx G.K vx (.int i) H Q := fun e => by
      obtain ⟨l', e1, e2⟩ := Option.bind_eq_some_iff.mp e
      obtain ⟨p', xs, rfl, h1, k⟩ := getS_rep sm rx e1
      obtain ⟨v, h2, h3⟩ := atI_rep k e2
      rcases h1 with h1 | h1
      · exact .inl ⟨p', xs, i, v, rfl, rfl, h1, h2, q v h3⟩
      · exact .inr (.inl ⟨p', xs, i, v, rfl, rfl, h1, h2, q v h3⟩)
    cases rx with
    | str z =>
      simp only [wIx] at e
      split at e
      · rename_i hz
        obtain ⟨c, e1, rfl⟩ := Option.map_eq_some_iff.mp e
        exact .inr (.inr ⟨z, i, c, rfl, rfl, hz, e1, q _ (.str _)⟩)
      · cases e
    | _ => exact gen e
  | _ => cases rx <;> cases e
theorem e_ix (ha : PE X a (tE (gx X) Wx fa)) (hb : PE X b (tE (gx X) Wx fb)) (hs : PlainIx b := by exact fun _ _ => rfl) : PE X (.Subscript a b pos) (tE (gx X) Wx (fBin wIxA fa fb)) := (pe_ix ix_seq ha hb hs).imp fun s H Q h => bin_imp rf_ix h

/-! ### x[i:j] -/
abbrev FO := En → Sto → An (Option Int)
def tO (G : Gx) (Wx : WX) (f : FO) : TO := fun s H Q => ∃ env r st, EnR G r H env s ∧ Sim G r H st ∧ Po G Wx s (fun o _ H' => Q o H') r H (f env st)
theorem _root_.L2.PO.imp {X : Cx} {e : Option Expr} {t t' : TO} (h : PO X e t) (k : ∀ s H Q, t' s H Q → t s H Q) : PO X e t' := ⟨fun pins s σ H Q I q => h.run pins s σ H Q I (k _ _ _ q)⟩
def fNo : FO := fun _ st => .ok none st
def fSo (f : FE) : FO := fun env st => (f env st).bind fun w st1 => match w with
  | .int i => .ok (some i) st1
  | _ => .bad
theorem o_none : PO X none (tO (gx X) Wx fNo) := po_none.imp fun s H Q h => by
  obtain ⟨env, l, st, en, sm, p⟩ := h
  exact Po.ok p sm
theorem o_some (h : PE X a (tE (gx X) Wx fa)) : PO X (some a) (tO (gx X) Wx (fSo fa)) := (po_some h).imp fun s H Q h => by
  obtain ⟨env, l, st, en, sm, p⟩ := h
  refine ⟨env, l, st, en, sm, (Po.bind p).imp fun x l1 H1 g1 ⟨st1, sm1, _, p1⟩ vx rx => ?_⟩
  cases rx with
  | int i => exact ⟨i, rfl, Po.ok p1 sm1⟩
  | _ => exact p1.elim
def cutL {α : Type} (xs : List α) (lo hi : Option Int) : List α := (xs.drop (HT.sIx xs.length 0 lo)).take (HT.sIx xs.length xs.length hi - HT.sIx xs.length 0 lo)
theorem cut_rep {G : Gx} {r : List Addr} {H : Hp} {l : List W} {vs : List V} (lo hi : Option Int) (q : RepL G r H l vs) : RepL G r H (cutL l lo hi) (cutV vs lo hi) := by
  unfold cutL cutV
  rw [q.length]
  exact (q.drop _).take _
def wSl : W → Option Int → Option Int → Sto → An W
  | .str z, lo, hi, st => if z.length ≤ sizeLine then .ok (.str (cutS z lo hi)) st else .bad
  | .tup l, lo, hi, st => .ok (.tup (cutL l lo hi)) st
  | x, lo, hi, st => match getL st x with
    | some l => .ok (.ref st.length) (st ++ [.lst (cutL l lo hi)])
    | none => .bad
def fSl (f : FE) (lo hi : FO) : FE := fun env st => (f env st).bind fun x st1 => (lo env st1).bind fun l st2 => (hi env st2).bind fun h st3 => wSl x l h st3
def rSlW (K : PySem.W.Frag) : V → Option Int → Option Int → Hp → VK → Prop := fun x lo hi H Q => rSlL K x lo hi H Q ∨ rSlA K x lo hi H Q ∨ rSlS x lo hi H Q
theorem sl_W : SlR X (rSlW X.K) := sl_list.or (sl_tupA.or sl_str)
theorem e_sl {lo hi : Option Expr} {flo fhi : FO} {p2 : Pos} (h : PE X a (tE (gx X) Wx fa)) (hl : PO X lo (tO (gx X) Wx flo)) (hh : PO X hi (tO (gx X) Wx fhi)) : PE X (.Subscript a (.Slice lo hi none p2) pos) (tE (gx X) Wx (fSl fa flo fhi)) := (pe_slice sl_W h hl hh).imp fun s H Q h => by
  obtain ⟨env, l, st, en, sm, p⟩ := h
  refine ⟨env, l, st, en, sm, (Po.bind p).imp fun x l1 H1 g1 ⟨st1, sm1, _, p1⟩ vx rx => ?_⟩
  refine ⟨env, l1, st1, en.grow g1, sm1, (Po.bind p1).imp fun lo l2 H2 g2 ⟨st2, sm2, _, p2⟩ => ?_⟩
  refine ⟨env, l2, st2, (en.grow g1).grow g2, sm2, (Po.bind p2).imp fun hi l3 H3 g3 ⟨st3, sm3, _, p3⟩ => ?_⟩
  have rx := (rx.grow g2).grow g3
  have gen : Po (gx X) Wx s (fun w r' H' => ∀ v, Rep (gx X) r' H' w v → Q v H') l3 H3 (match getL st3 x with | some l => .ok (.ref st3.length) (st3 ++ [.lst (cutL l lo hi)]) | none => .bad) → rSlW X.K vx lo hi H3 Q := fun p3 => by
    cases e : getL st3 x with
    | none => rw [e] at p3; exact p3.elim
    | some l =>
      rw [e] at p3
      obtain ⟨a, vs, rfl, h, k⟩ := getL_rep sm3 rx e
      exact .inl ⟨a, vs, rfl, h, Po.newL sm3 (cut_rep lo hi k) p3⟩
  cases rx with
  | str z =>
    obtain ⟨hz, p3⟩ := ite_bad p3
    exact .inr (.inr ⟨z, rfl, hz, Po.ok p3 sm3 _ (.str _)⟩)
  | @tup l' a vs h k =>
    refine .inr (.inl ⟨a, vs, rfl, h, fun e => ?_, fun _ => Po.newT sm3 (cut_rep lo hi k) p3⟩)
    have ec : cutL l' lo hi = l' := by
      unfold cutL
      rw [k.length, e.1, e.2, List.drop_zero, Nat.sub_zero]
      exact List.take_of_length_le (Nat.le_of_eq k.length)
    refine Po.ok p3 sm3 _ (.tup h ?_)
    rw [ec]
    exact k
  | _ => exact gen p3
/-- x[::-1] -/
def fRev (f : FE) : FE := fun env st => (f env st).bind fun x st1 => match getL st1 x with
  | some l => .ok (.ref st1.length) (st1 ++ [.lst l.reverse])
  | none => match x with
    | .tup l => .ok (.tup l.reverse) st1
    | _ => .bad
theorem revSlice {prog : Program} {w : World} {A : Around} {E : Value → Shared → Prop} {s : Shared} {sl : Addr} {m : Value} {n : Nat} {R : Int × Int × Nat → Shared → Prop} (hs : s.heap.IsSliceOf sl .none .none m) (hm : IsPart m (some (-1)))
    (h : R ((n : Int) - 1, -1, n) s) : wpAny (model prog w) A (Builtin.Slice.sliceApplied (.ref sl) (pure (n : Int))) R E s := by
  cases hm with
  | int j tk =>
    obtain ⟨o, ho, _, hd⟩ := hs
    unfold Builtin.Slice.sliceApplied Builtin.Slice.sliceFields
    refine wpAny_bind (wpAny_bind (wpAny_field ho hd (x := .none) rfl (wpAny_bind (wpAny_field ho hd (x := .none) rfl (wpAny_bind (wpAny_field ho hd (x := .int (-1) tk) rfl (wpAny_pure ?_)))))))
    refine wpAny_bind (slicePart_int ?_)
    show wpAny _ _ (if ((-1 : Int) == 0) = true then _ else _) _ _ s
    rw [if_neg (by decide)]
    refine wpAny_bind (slicePart_none (wpAny_bind (slicePart_none (wpAny_bind (wpAny_pure (wpAny_pure ?_))))))
    have e : Builtin.Slice.slicePlaces ((n : Int) - 1) (-1) (-1) = n := by
      unfold Builtin.Slice.slicePlaces
      rw [if_neg (by decide)]
      by_cases hn : n = 0
      · subst hn
        rw [if_neg (by decide)]
        rfl
      · rw [if_pos (by omega), show (-(-1 : Int)) = 1 by decide, Int.ediv_one]
        omega
    show R ((n : Int) - 1, -1, Builtin.Slice.slicePlaces ((n : Int) - 1) (-1) (-1)) s
    rw [e]
    exact h
theorem fm_congr {α β : Type} {f g : α → Option β} : ∀ {l : List α}, (∀ x ∈ l, f x = g x) → l.filterMap f = l.filterMap g
  | [], _ => rfl
  | x :: l, h => by
    rw [List.filterMap_cons, List.filterMap_cons, h x List.mem_cons_self, fm_congr fun y hy => h y (List.mem_cons_of_mem _ hy)]
theorem revPick (items : Array Value) : (List.range items.size).filterMap (fun (k : Nat) => items[(((items.size : Nat) : Int) - 1 + (k : Int) * (-1)).toNat]?) = items.toList.reverse := by
  have e : (List.range items.size).filterMap (fun (k : Nat) => items[(((items.size : Nat) : Int) - 1 + (k : Int) * (-1)).toNat]?) = (List.range items.size).filterMap fun k => items.toList.reverse[k]? := by
    refine fm_congr fun k hk => ?_
    have hk := List.mem_range.mp hk
    rw [List.getElem?_reverse (by simpa using hk), Array.getElem?_toList, Array.length_toList]
    congr 1
    omega
  rw [e]
  have hall : ∀ (l : List Value), (List.range l.length).filterMap (fun k => l[k]?) = l := fun l => by
    induction l with
    | nil => rfl
    | cons a l ih =>
      rw [List.length_cons, List.range_succ_eq_map, List.filterMap_cons]
      simp only [List.getElem?_cons_zero, List.filterMap_map, Function.comp_def, List.getElem?_cons_succ]
      rw [ih]
  have := hall items.toList.reverse
  rw [List.length_reverse, Array.length_toList] at this
  exact this
theorem revTup {prog : Program} {w : World} {A : Around} {E : Value → Shared → Prop} {s : Shared} {t sl : Addr} {items : Array Value} {m : Value} {R : Value → Shared → Prop} (ht : IsTup s.heap t items) (hs : s.heap.IsSliceOf sl .none .none m) (hm : IsPart m (some (-1))) (hz : items.size ≤ sizeLine)
    (h : R (.ref s.heap.objs.size) { s with heap := s.heap.push { cls := .type "tuple", data := .seq items.toList.reverse.toArray } }) : wpAny (model prog w) A (getItem (.ref t) (.ref sl)) R E s := by
  have hsl : s.TypeIs (.ref sl) "slice" := by
    obtain ⟨o, ho, hc, _⟩ := hs
    exact ⟨o, ho, hc⟩
  unfold getItem
  try with_reducible refine wpAny_holding ?_
  first | refine wpAny_bind (wpAny_pure ?_) | skip
  refine wpAny_bind (wpAny_sequenceKey ht.typeIs (by decide) (wpAny_bind (wpAny_callSpecial?_slot (name := Str.ofString "__getitem__") ht.typeIs slot_tuple_getitem (wpAny_call_entry slot_tuple_getitem ht.typeIs entry_tuple_getitem ?_ (args_tuple_getitem _ _)))))
  show wpAny _ _ (Builtin.Tuple.tupleItemsOf (.ref t) >>= _) _ _ s
  refine wpAny_bind (tupleItemsOf_ ht (wpAny_bind (wpAny_typeOf hsl ?_)))
  rw [if_pos (by decide)]
  refine wpAny_bind (revSlice hs hm ?_)
  show wpAny _ _ (if (((items.size : Nat) : Int) - 1 == 0 && (-1 : Int) == 1 && items.size == items.size) = true then _ else _) _ _ s
  rw [if_neg (by simp), revPick]
  have hz2 : sizeOk (.seq items.toList.reverse.toArray) := by
    show items.toList.reverse.toArray.size ≤ sizeLine
    rw [List.size_toArray, List.length_reverse, Array.length_toList]
    exact hz
  first
    | exact wpAny_bind (m := Builtin.Tuple.tupleExact _) (wpAny_newObj_type (wpAny_pure ⟨_, rfl, wpAny_pure h⟩) hz2)
    | exact wpAny_bind (m := Builtin.Tuple.tupleExact _) (wpAny_newObj_type (wpAny_bind (wpAny_pure (wpAny_pure ⟨_, rfl, wpAny_pure h⟩))) hz2)
    | exact wpAny_bind (wpAny_bind (m := Builtin.Tuple.tupleExact _) (wpAny_newObj_type (wpAny_pure (wpAny_pure ⟨_, rfl, wpAny_pure h⟩)) hz2))
    | exact wpAny_bind (wpAny_bind (m := Builtin.Tuple.tupleExact _) (wpAny_newObj_type (wpAny_pure ⟨_, rfl, wpAny_pure h⟩) hz2))
def tRevA (K : PySem.W.Frag) (te : TE) : TE := fun σ H Q => te σ H fun x H1 => (∃ a xs, x = .ref a ∧ SqL K H1 a xs ∧ ∀ p, H1 p = none → Q (.ref p) (upd H1 p (.lst xs.reverse))) ∨
  ∃ a xs, x = .ref a ∧ SqT K H1 a xs ∧ ∀ p, H1 p = none → Q (.ref p) (upd H1 p (.tup xs.reverse))
theorem pe_revA {te : TE} {k : Nat} {p1 p2 p3 : Pos} (he : PE X a te) : PE X (.Subscript a (.Slice none none (some (.UnaryOp .USub (.Constant (.int 1) k p1) p2)) p3) pos) (tRevA X.K te) := by
  refine ⟨fun pins s σ H Q I h => Subscript_ (thn (he.run pins s σ H _ I h) fun v s1 ⟨x, H1, I1, r1, q1⟩ => ?_)⟩
  have part : PO X (some (.UnaryOp .USub (.Constant (.int 1) k p1) p2)) (tPart (tUn (rU fun i => .int (-i)) (tC (.int 1)))) := po_some (pe_un un_neg pe_int)
  refine wpAny_Slice (thn (po_none.run pins s1 σ H1 (fun o G => o = none ∧ G = H1) I1 ⟨rfl, rfl⟩) fun u1 s2 ⟨o1, G1, J1, t1, eo1, eg1⟩ => ?_)
  subst eo1 eg1
  refine thn (po_none.run pins s2 σ G1 (fun o G => o = none ∧ G = G1) J1 ⟨rfl, rfl⟩) fun u2 s3 ⟨o2, G2, J2, t2, eo2, eg2⟩ => ?_
  subst eo2 eg2
  refine thn (part.run pins s3 σ G2 (fun o G => o = some (-1) ∧ G = G2) J2 ⟨1, rfl, -1, rfl, rfl, rfl⟩) fun u3 s4 ⟨o3, G3, J3, t3, eo3, eg3⟩ => ?_
  subst eo3 eg3
  have J4 : Inv X pins σ G3 { s4 with heap := s4.heap.push { cls := .type "slice", data := .fields #[u1, u2, u3] } } := J3.kept (t' := s4.toks) fun b ob q => Heap.get?_push_of_some _ q
  rcases q1 with ⟨at1, xs, ex, hx, q⟩ | ⟨at1, xs, ex, hx, q⟩
  · subst ex
    cases r1
    obtain ⟨its, r, hl, hz⟩ := J4.list hx
    have hlen := r.length
    show wpAny (model X.prog X.w) X.A (subscriptTail a (.Slice none none (some (.UnaryOp .USub (.Constant (.int 1) k p1) p2)) p3) (.ref at1) (.ref s4.heap.objs.size)) (EP X pins σ Q) X.xe { s4 with heap := s4.heap.push { cls := .type "slice", data := .fields #[u1, u2, u3] } }
    refine tail_any (ops := [.ref at1, .ref s4.heap.objs.size]) hl.isList.typeIs (PySem.slot_list_getitem.lookup) (wpAny_getItem_list_slice hl.isList (Heap.IsSliceOf.new _ u1 u2 u3) t1 t2 t3 (by decide) ?_ (by rw [List.size_toArray]; omega)) (by with_unfolding_all rfl)
    rw [PySem.W.krv_pick]
    refine ⟨.ref _, _, J4.laid (t' := s4.toks) (o := .lst xs.reverse) (fun b ob q => Heap.get?_push_of_some _ q) (Nat.le_refl _) ⟨by rw [List.length_reverse]; exact hz, _, 0, r.reverse, Heap.get?_push_size _ rfl⟩, rfl, q _ (J4.hok.fresh (Nat.le_refl _))⟩
  · subst ex
    cases r1
    cases t1
    cases t2
    obtain ⟨its, r, hl, hz⟩ := J4.tuple hx
    have hlen := r.length
    show wpAny (model X.prog X.w) X.A (subscriptTail a (.Slice none none (some (.UnaryOp .USub (.Constant (.int 1) k p1) p2)) p3) (.ref at1) (.ref s4.heap.objs.size)) (EP X pins σ Q) X.xe { s4 with heap := s4.heap.push { cls := .type "slice", data := .fields #[.none, .none, u3] } }
    refine tail_any (ops := [.ref at1, .ref s4.heap.objs.size]) hl.typeIs slot_tuple_getitem.lookup (revTup hl (Heap.IsSliceOf.new _ .none .none u3) t3 (by rw [List.size_toArray]; omega) ?_) (by with_unfolding_all rfl)
    refine ⟨.ref _, _, J4.laid (t' := s4.toks) (o := .tup xs.reverse) (fun b ob q => Heap.get?_push_of_some _ q) (Nat.le_refl _) ⟨by rw [List.length_reverse]; exact hz, _, r.reverse, IsTup.new _ _⟩, rfl, q _ (J4.hok.fresh (Nat.le_refl _))⟩
theorem e_rev {k : Nat} {p1 p2 p3 : Pos} (h : PE X a (tE (gx X) Wx fa)) : PE X (.Subscript a (.Slice none none (some (.UnaryOp .USub (.Constant (.int 1) k p1) p2)) p3) pos) (tE (gx X) Wx (fRev fa)) := (pe_revA h).imp fun s H Q h => by
  obtain ⟨env, l, st, en, sm, p⟩ := h
  refine ⟨env, l, st, en, sm, (Po.bind p).imp fun x l1 H1 g1 ⟨st1, sm1, _, p1⟩ vx rx => ?_⟩
  cases e : getL st1 x with
  | none =>
    rw [e] at p1
    cases rx with
    | @tup l2 at1 vs h k => exact .inr ⟨at1, vs, rfl, h, Po.newT sm1 k.reverse p1⟩
    | _ => exact p1.elim
  | some l =>
    rw [e] at p1
    obtain ⟨a, vs, rfl, h, k⟩ := getL_rep sm1 rx e
    exact .inl ⟨a, vs, rfl, h, Po.newL sm1 k.reverse p1⟩

/-! ### calls of built-ins -/
def CaRf (G : Gx) (r : List V → Hp → VK → Prop) (g : List W → Sto → An W) : Prop := ∀ (ws : List W) (st : Sto) (l : List Addr) (H : Hp) (vs : List V) (Q : VK) (Wx : WX) (s : L2.St), Sim G l H st → RepL G l H ws vs →
  Po G Wx s (fun w r' H' => ∀ v, Rep G r' H' w v → Q v H') l H (g ws st) → r vs H Q
def fCall (g : List W → Sto → An W) (f : FA) : FE := fun env st => (f env st).bind g
theorem cb_imp {G : Gx} {r : List V → Hp → VK → Prop} {g : List W → Sto → An W} {f : FA} (hg : CaRf G r g) {s : L2.St} {H : Hp} {Q : VK} (h : tE G Wx (fCall g f) s H Q) : tCB r (tL G Wx f) s H Q := by
  obtain ⟨env, l, st, en, sm, p⟩ := h
  exact ⟨env, l, st, en, sm, (Po.bind p).imp fun x l1 H1 g1 ⟨st1, sm1, _, p1⟩ vx rx => hg x st1 l1 H1 vx Q Wx s sm1 rx p1⟩
theorem e_cb {x : Str} {p : Pos} {id : String} {r : List V → Hp → VK → Prop} {g : List W → Sto → An W} {f : FA} (hc : CallR X (.builtin id) r) (hr : CaRf (gx X) r g) (hg : Gl X x) (hm : X.mg x = none) (hv : bootBuiltins x = some (.builtin id)) (ha : PA X (e :: es) (tL (gx X) Wx f)) (hn : x ≠ "__name__" := by decide) (hdb : (x == ("__debug__" : Str)) = false := by decide)
    (he : starEach (e :: es) X.env = (false, eval e X.env) :: starEach es X.env := by rfl) (hpl : (backTo pos (starEach es X.env)).any (·.1) = false := by rfl) : PE X (.Call (.Name x p) (e :: es) [] pos) (tE (gx X) Wx (fCall g f)) := (pe_callB hc hg hm hv ha hn hdb he hpl).imp fun s H Q h => cb_imp hr h
theorem e_ct {x : Str} {p : Pos} {T : String} {r : List V → Hp → VK → Prop} {g : List W → Sto → An W} {f : FA} (hc : CallR X (.type T) r) (hr : CaRf (gx X) r g) (hg : Gl X x) (hm : X.mg x = none) (hv : bootBuiltins x = some (.type T)) (ha : PA X (e :: es) (tL (gx X) Wx f)) (hn : x ≠ "__name__" := by decide) (hdb : (x == ("__debug__" : Str)) = false := by decide)
    (he : starEach (e :: es) X.env = (false, eval e X.env) :: starEach es X.env := by rfl) (hpl : (backTo pos (starEach es X.env)).any (·.1) = false := by rfl) : PE X (.Call (.Name x p) (e :: es) [] pos) (tE (gx X) Wx (fCall g f)) := (pe_callTy hc hg hm hv ha hn hdb he hpl).imp fun s H Q h => cb_imp hr h
end

/-- len -/
def wLen : List W → Sto → An W
  | [.str z], st => if z.length ≤ sizeLine then .ok (.int z.length) st else .bad
  | [.ref n], st => match st[n]? with
    | some (.lst l) => .ok (.int l.length) st
    | some (.dct l) => .ok (.int l.length) st
    | _ => .bad
  | [.tup l], st => .ok (.int l.length) st
  | [.rol l], st => .ok (.int l.length) st
  | _, _ => .bad
def rLenW (K : PySem.W.Frag) : List V → Hp → VK → Prop := fun xs H Q => (∃ p ys, xs = [.ref p] ∧ (SqL K H p ys ∨ SqT K H p ys) ∧ Q (.int ys.length) H) ∨ (∃ z, xs = [.str z] ∧ z.length ≤ sizeLine ∧ Q (.int z.length) H) ∨ ∃ d kvs, xs = [.ref d] ∧ H d = some (.dK kvs) ∧ Q (.int kvs.length) H
theorem RepD.length {G : Gx} {r : List Addr} {H : Hp} {ws : List (Key × W)} {vs : List (Key × V)} (k : RepD G r H ws vs) : ws.length = vs.length := by
  induction k with
  | nil => rfl
  | cons _ _ ih => simp [ih]
theorem rf_len {G : Gx} : CaRf G (rLenW G.K) wLen := by
  intro ws st l H vs Q Wx s sm rx p
  cases rx with
  | nil => exact p.elim
  | cons h k =>
    cases k with
    | cons h2 k2 => cases h <;> exact p.elim
    | nil =>
      cases h with
      | str z =>
        obtain ⟨hz, p⟩ := ite_bad p
        exact .inr (.inl ⟨z, rfl, hz, Po.ok p sm _ (.int _)⟩)
      | tup h k => exact .inl ⟨_, _, rfl, .inr h, by rw [← k.length]; exact Po.ok p sm _ (.int _)⟩
      | rol h k => exact .inl ⟨_, _, rfl, .inl h.sq, by rw [← k.length]; exact Po.ok p sm _ (.int _)⟩
      | ref h =>
        simp only [wLen] at p
        split at p
        · rename_i l' e
          obtain ⟨vs, e2, k⟩ := sm.got e h
          exact .inl ⟨_, _, rfl, .inl (.inl (.inl e2)), by rw [← k.length]; exact Po.ok p sm _ (.int _)⟩
        · rename_i l' e
          obtain ⟨vs, e2, k⟩ := sm.got e h
          exact .inr (.inr ⟨_, _, rfl, e2, by rw [← k.length]; exact Po.ok p sm _ (.int _)⟩)
        · exact p.elim
      | _ => exact p.elim
section
variable {X : Cx}
theorem cr_lenW : CallR X (.builtin "len") (rLenW X.K) := call_len_seq.or (call_len_str.or fun pins s σ H xs us Q I r h => by
  obtain ⟨d, kvs, e, h1, q⟩ := h
  exact call_lenD pins s σ H xs us Q I r ⟨d, kvs, e, h1, q⟩)
end
/-- all, any: truths in a list -/
def getB : List W → Option (List Bool)
  | [] => some []
  | .bl b :: l => (getB l).map (b :: ·)
  | _ => none
theorem getB_rep {G : Gx} {r : List Addr} {H : Hp} : ∀ {l : List W} {vs : List V} {bs : List Bool}, RepL G r H l vs → getB l = some bs → vs = bs.map V.bl
  | _, _, _, .nil, e => by cases e; rfl
  | _, _, _, .cons h k, e => by
    cases h with
    | bl b =>
      simp only [getB] at e
      obtain ⟨bs', e1, rfl⟩ := Option.map_eq_some_iff.mp e
      rw [getB_rep k e1]
      rfl
    | _ => simp [getB] at e
def wBl (f : List Bool → Bool) : List W → Sto → An W
  | [x], st => (optB ((getL st x).bind getB) st).bind fun bs _ => .ok (.bl (f bs)) st
  | _, _ => .bad
def wAll : List W → Sto → An W := wBl fun bs => bs.all id
def wAny : List W → Sto → An W := wBl fun bs => bs.any id
theorem wBl_ok {G : Gx} {f : List Bool → Bool} {ws : List W} {st : Sto} {l : List Addr} {H : Hp} {vs : List V} {Q : VK} {Wx : WX} {s : L2.St} (sm : Sim G l H st) (rx : RepL G l H ws vs)
    (p : Po G Wx s (fun w r' H' => ∀ v, Rep G r' H' w v → Q v H') l H (wBl f ws st)) : ∃ (a : Addr) (bs : List Bool), vs = [V.ref a] ∧ SqL G.K H a (bs.map V.bl) ∧ Q (.bl (f bs)) H := by
  cases rx with
  | nil => exact p.elim
  | cons h k =>
    cases k with
    | cons h2 k2 => exact p.elim
    | nil =>
      rename_i w v
      simp only [wBl] at p
      cases e : (getL st w).bind getB with
      | none => rw [e] at p; exact p.elim
      | some bs =>
        rw [e] at p
        obtain ⟨l', e1, e2⟩ := Option.bind_eq_some_iff.mp e
        obtain ⟨a, vs, rfl, h1, k⟩ := getL_rep sm h e1
        have ev := getB_rep k e2
        subst ev
        exact ⟨a, bs, rfl, h1, Po.ok p sm _ (.bl _)⟩
theorem rf_all {G : Gx} : CaRf G (rAll G.K) wAll := fun ws st l H vs Q Wx s sm rx p => wBl_ok sm rx p
theorem rf_any {G : Gx} : CaRf G (rAny G.K) wAny := fun ws st l H vs Q Wx s sm rx p => wBl_ok sm rx p
/-- whole numbers in a list -/
def getI : List W → Option (List Int)
  | [] => some []
  | .int b :: l => (getI l).map (b :: ·)
  | _ => none
theorem getI_rep {G : Gx} {r : List Addr} {H : Hp} : ∀ {l : List W} {vs : List V} {bs : List Int}, RepL G r H l vs → getI l = some bs → vs = bs.map V.int
  | _, _, _, .nil, e => by cases e; rfl
  | _, _, _, .cons h k, e => by
    cases h with
    | int b =>
      simp only [getI] at e
      obtain ⟨bs', e1, rfl⟩ := Option.map_eq_some_iff.mp e
      rw [getI_rep k e1]
      rfl
    | _ => simp [getI] at e
theorem getI_map : ∀ ns : List Int, getI (ns.map W.int) = some ns
  | [] => rfl
  | n :: ns => by simp [getI, getI_map ns]
/-- the greatest -/
def maxI : List Int → Int
  | [] => 0
  | [x] => x
  | x :: y :: l => max x (maxI (y :: l))
theorem maxI_mem : ∀ {l : List Int}, l ≠ [] → maxI l ∈ l ∧ ∀ y ∈ l, y ≤ maxI l
  | [], h => absurd rfl h
  | [x], _ => ⟨by simp [maxI], by simp [maxI]⟩
  | x :: y :: l, _ => by
    obtain ⟨h1, h2⟩ := maxI_mem (l := y :: l) (by simp)
    simp only [maxI]
    refine ⟨?_, fun z hz => ?_⟩
    · by_cases h : x ≤ maxI (y :: l)
      · rw [Int.max_eq_right h]
        exact List.mem_cons_of_mem _ h1
      · rw [Int.max_eq_left (by omega)]
        exact List.mem_cons_self
    · rcases List.mem_cons.mp hz with e | hz
      · subst e; exact Int.le_max_left _ _
      · exact Int.le_trans (h2 z hz) (Int.le_max_right _ _)
def wMax : List W → Sto → An W
  | [x], st => (optB ((getL st x).bind getI) st).bind fun ns _ => if ns ≠ [] then .ok (.int (maxI ns)) st else .bad
  | [.int i, .int j], st => .ok (.int (if j > i then j else i)) st
  | _, _ => .bad
def rMaxW (K : PySem.W.Frag) : List V → Hp → VK → Prop := fun vs H Q => rMax K vs H Q ∨ ∃ i j, vs = [.int i, .int j] ∧ Q (.int (if j > i then j else i)) H
theorem rf_max {G : Gx} : CaRf G (rMaxW G.K) wMax := by
  intro ws st l H vs Q Wx s sm rx p
  cases rx with
  | nil => exact p.elim
  | cons h k =>
    cases k with
    | cons h2 k2 =>
      cases k2 with
      | nil => cases h <;> cases h2 <;> first | exact p.elim | exact .inr ⟨_, _, rfl, Po.ok p sm _ (.int _)⟩
      | cons _ _ => cases h <;> cases h2 <;> exact p.elim
    | nil =>
      rename_i w v
      simp only [wMax] at p
      cases e : (getL st w).bind getI with
      | none => rw [e] at p; exact p.elim
      | some ns =>
        rw [e] at p
        obtain ⟨hz, p⟩ := ite_bad p
        obtain ⟨l', e1, e2⟩ := Option.bind_eq_some_iff.mp e
        obtain ⟨a, vs, rfl, h1, k⟩ := getL_rep sm h e1
        have ev := getI_rep k e2
        subst ev
        refine .inl ⟨a, ns, rfl, h1, List.length_pos_iff.mpr hz, fun m hm hle => ?_⟩
        obtain ⟨i1, i2⟩ := maxI_mem hz
        have em : m = maxI ns := Int.le_antisymm (i2 m hm) (hle _ i1)
        rw [em]
        exact Po.ok p sm _ (.int _)
theorem cr_maxW {X : Cx} (hc : X.calm = true) : CallR X (.builtin "max") (rMaxW X.K) := (cr_max hc).or (call_max2 hc)
def wMin2 : List W → Sto → An W
  | [.int i, .int j], st => .ok (.int (if j < i then j else i)) st
  | _, _ => .bad
theorem rf_min {G : Gx} : CaRf G (fun xs H Q => ∃ i j, xs = [.int i, .int j] ∧ Q (.int (if j < i then j else i)) H) wMin2 := by
  intro ws st l H vs Q Wx s sm rx p
  cases rx with
  | nil => exact p.elim
  | cons h k =>
    cases k with
    | nil => cases h <;> exact p.elim
    | cons h2 k2 =>
      cases k2 with
      | nil => cases h <;> cases h2 <;> first | exact p.elim | exact ⟨_, _, rfl, Po.ok p sm _ (.int _)⟩
      | cons _ _ => cases h <;> cases h2 <;> exact p.elim
def wAbs : List W → Sto → An W
  | [.int i], st => .ok (.int (if i < 0 then -i else i)) st
  | _, _ => .bad
theorem rf_abs {G : Gx} : CaRf G (fun xs H Q => ∃ i, xs = [.int i] ∧ Q (.int (if i < 0 then -i else i)) H) wAbs := by
  intro ws st l H vs Q Wx s sm rx p
  cases rx with
  | nil => exact p.elim
  | cons h k =>
    cases k with
    | nil => cases h <;> first | exact p.elim | exact ⟨_, rfl, Po.ok p sm _ (.int _)⟩
    | cons _ _ => cases h <;> exact p.elim
def wInt : List W → Sto → An W
  | [.int i], st => .ok (.int i) st
  | [.bl k], st => .ok (.int (if k then 1 else 0)) st
  | _, _ => .bad
theorem rf_int {G : Gx} : CaRf G (fun xs H Q => (∃ i, xs = [.int i] ∧ Q (.int i) H) ∨ ∃ k, xs = [.bl k] ∧ Q (.int (if k then 1 else 0)) H) wInt := by
  intro ws st l H vs Q Wx s sm rx p
  cases rx with
  | nil => exact p.elim
  | cons h k =>
    cases k with
    | nil => cases h <;> first | exact p.elim | exact .inl ⟨_, rfl, Po.ok p sm _ (.int _)⟩ | exact .inr ⟨_, rfl, Po.ok p sm _ (.int _)⟩
    | cons _ _ => cases h <;> exact p.elim
def wStr : List W → Sto → An W
  | [.int i], st => if i.natAbs < 10 ^ 400 then .ok (.str (toString i)) st else .bad
  | _, _ => .bad
theorem rf_str {G : Gx} : CaRf G (fun xs H Q => ∃ i, xs = [.int i] ∧ i.natAbs.log2 < 1920 ∧ Q (.str (toString i)) H) wStr := by
  intro ws st l H vs Q Wx s sm rx p
  cases rx with
  | nil => exact p.elim
  | cons h k =>
    cases k with
    | nil =>
      cases h with
      | int i =>
        obtain ⟨hz, p⟩ := ite_bad p
        have hb : i.natAbs < 2 ^ 1920 := Nat.lt_of_lt_of_le hz (by decide +kernel)
        exact ⟨_, rfl, PySem.Flt.log2_lt_of (by decide) hb, Po.ok p sm _ (.str _)⟩
      | _ => exact p.elim
    | cons _ _ => cases h <;> exact p.elim
/-- list(x), tuple(x) -/
def wList : List W → Sto → An W
  | [x], st => match getS st x with
    | some l => .ok (.ref st.length) (st ++ [.lst l])
    | none => .bad
  | _, _ => .bad
def wTuple : List W → Sto → An W
  | [.tup l], st => .ok (.tup l) st
  | [x], st => match getL st x with
    | some l => .ok (.tup l) st
    | none => .bad
  | _, _ => .bad
theorem rf_list {G : Gx} : CaRf G (fun xs H Q => ∃ p ys, xs = [.ref p] ∧ (SqL G.K H p ys ∨ SqT G.K H p ys) ∧ ∀ l, H l = none → Q (.ref l) (upd H l (.lst ys))) wList := by
  intro ws st l H vs Q Wx s sm rx p
  cases rx with
  | nil => exact p.elim
  | cons h k =>
    cases k with
    | cons _ _ => exact p.elim
    | nil =>
      rename_i w v
      simp only [wList] at p
      split at p
      · rename_i l' e
        obtain ⟨a, xs, rfl, h1, k⟩ := getS_rep sm h e
        exact ⟨a, xs, rfl, h1, Po.newL sm k p⟩
      · exact p.elim
theorem rf_tuple {G : Gx} : CaRf G (fun xs H Q => ∃ p ys, xs = [.ref p] ∧ ((SqL G.K H p ys ∧ ∀ l, H l = none → Q (.ref l) (upd H l (.tup ys))) ∨ (SqT G.K H p ys ∧ Q (.ref p) H))) wTuple := by
  intro ws st l H vs Q Wx s sm rx p
  cases rx with
  | nil => exact p.elim
  | cons h k =>
    cases k with
    | cons _ _ => cases h <;> exact p.elim
    | nil =>
      have gen : ∀ {w : W} {v : V}, Rep G l H w v → Po G Wx s (fun w r' H' => ∀ v, Rep G r' H' w v → Q v H') l H (match getL st w with | some l => .ok (.tup l) st | none => .bad) → ∃ p ys, [v] = [.ref p] ∧ ((SqL G.K H p ys ∧ ∀ l, H l = none → Q (.ref l) (upd H l (.tup ys))) ∨ (SqT G.K H p ys ∧ Q (.ref p) H)) := fun {w v} h p => by
        split at p
        · rename_i l' e
          obtain ⟨a, xs, rfl, h1, k⟩ := getL_rep sm h e
          exact ⟨a, xs, rfl, .inl ⟨h1, Po.newT sm k p⟩⟩
        · exact p.elim
      cases h with
      | tup h k => exact ⟨_, _, rfl, .inr ⟨h, Po.ok p sm _ (.tup h k)⟩⟩
      | rol h k => exact gen (.rol h k) p
      | ref h => exact gen (.ref h) p
      | _ => exact p.elim
end Sw
/-! Sw6: statements, targets, loops, comprehensions. -/
namespace Sw
open PySem PySem.Spec PyProof.Rows L2

def An.toS {α : Type} (m : An α) (env : En) (k : α → Sto → SA) : SA := match m with
  | .ok a st => k a st
  | .ex C fs st => .ex C fs env st
  | .bad => .bad
@[simp] theorem An.toS_ok {α : Type} (a : α) (st : Sto) (env : En) (k : α → Sto → SA) : (An.ok a st).toS env k = k a st := rfl
@[simp] theorem An.toS_ex {α : Type} (C : Str) (fs : Flds) (st : Sto) (env : En) (k : α → Sto → SA) : (An.ex C fs st : An α).toS env k = .ex C fs env st := rfl
@[simp] theorem An.toS_bad {α : Type} (env : En) (k : α → Sto → SA) : (An.bad : An α).toS env k = .bad := rfl
theorem SPo.toS {G : Gx} {Wx : WX} {D : Ends} {s : L2.St} {α : Type} {m : An α} {env : En} {k : α → Sto → SA} {r : List Addr} {H : Hp} (en : EnR G r H env s) (h : SPo G Wx D r H (m.toS env k)) :
    Po G Wx s (fun a r1 H1 => ∃ st1, Sim G r1 H1 st1 ∧ Grow r H r1 H1 ∧ SPo G Wx D r1 H1 (k a st1)) r H m := by
  cases m with
  | ok a st => exact fun r' H' g q => ⟨st, q, g, SPo.grow g h⟩
  | ex C fs st => exact fun r' H' ca d g q x => h r' H' s ca d g q (en.grow g) x
  | bad => exact h

section
variable {X : Cx} {Wx : WX} {pos : Pos} {a b c e : Expr} {fa fb fc : FE} {ta tb : FT} {es : List Expr} {sa sb : FS} {st1 : Stmt} {rest body orelse : List Stmt}
/-! ### blocks -/
def fNext : FS := fun env st => .nx env st
def fSeq (f g : FS) : FS := fun env st => match f env st with
  | .nx env1 st1 => g env1 st1
  | o => o
theorem s_nil : PSs X [] (tS (gx X) Wx fNext) := pss_nil.imp fun D s H h => by
  obtain ⟨env, l, st, en, sm, p⟩ := h
  exact p l H s (Grow.refl l H) sm en
theorem s_one (h : PS X st1 (tS (gx X) Wx sa)) : PSs X [st1] (tS (gx X) Wx sa) := pss_one h
theorem s_cons (h : PS X st1 (tS (gx X) Wx sa)) (h2 : PSs X rest (tS (gx X) Wx sb)) : PSs X (st1 :: rest) (tS (gx X) Wx (fSeq sa sb)) := (pss_cons h h2).imp fun D s H h => by
  obtain ⟨env, l, st, en, sm, p⟩ := h
  refine ⟨env, l, st, en, sm, ?_⟩
  unfold fSeq at p
  cases e : sa env st with
  | nx env1 st1 =>
    rw [e] at p
    exact fun r' H' s' g sm' en' => ⟨env1, r', st1, en', sm', SPo.grow g p⟩
  | rt w st => rw [e] at p; exact p
  | bk env st => rw [e] at p; exact p
  | ct env st => rw [e] at p; exact p
  | ex C fs env st => rw [e] at p; exact p
  | bad => rw [e] at p; exact p
theorem s_pass : PS X (.Pass pos) (tS (gx X) Wx fNext) := ps_pass.imp fun D s H h => by
  obtain ⟨env, l, st, en, sm, p⟩ := h
  exact p l H s (Grow.refl l H) sm en
theorem s_doc {x : Str} {j : Nat} {p1 : Pos} : PS X (.Expr (.Constant (.str x) j p1) pos) (tS (gx X) Wx fNext) := ps_doc.imp fun D s H h => by
  obtain ⟨env, l, st, en, sm, p⟩ := h
  exact p l H s (Grow.refl l H) sm en
def fBrk : FS := fun env st => .bk env st
def fCnt : FS := fun env st => .ct env st
theorem s_break : PS X (.Break pos) (tS (gx X) Wx fBrk) := ps_break.imp fun D s H h => by
  obtain ⟨env, l, st, en, sm, p⟩ := h
  exact p l H s (Grow.refl l H) sm en
theorem s_continue : PS X (.Continue pos) (tS (gx X) Wx fCnt) := ps_continue.imp fun D s H h => by
  obtain ⟨env, l, st, en, sm, p⟩ := h
  exact p l H s (Grow.refl l H) sm en
def fDrop (f : FE) : FS := fun env st => (f env st).toS env fun _ st1 => .nx env st1
def fRet (f : FE) : FS := fun env st => (f env st).toS env fun w st1 => .rt w st1
def fRetN : FS := fun _ st => .rt .non st
theorem s_expr (h : PE X e (tE (gx X) Wx fa)) (hs : swapsWith e none pos.line X.env = pure false := by rfl) : PS X (.Expr e pos) (tS (gx X) Wx (fDrop fa)) := (ps_expr h hs).imp fun D s H h => by
  obtain ⟨env, l, st, en, sm, p⟩ := h
  exact ⟨env, l, st, en, sm, (SPo.toS en p).imp fun x l1 H1 g1 ⟨st1, sm1, _, p1⟩ vx rx => p1 l1 H1 s (Grow.refl l1 H1) sm1 (en.grow g1)⟩
theorem s_ret (h : PE X e (tE (gx X) Wx fa)) : PS X (.Return (some e) pos) (tS (gx X) Wx (fRet fa)) := (ps_ret h).imp fun D s H h => by
  obtain ⟨env, l, st, en, sm, p⟩ := h
  exact ⟨env, l, st, en, sm, (SPo.toS en p).imp fun x l1 H1 g1 ⟨st1, sm1, _, p1⟩ vx rx => p1 l1 H1 vx (Grow.refl l1 H1) sm1 rx⟩
theorem s_retN : PS X (.Return none pos) (tS (gx X) Wx fRetN) := ps_retN.imp fun D s H h => by
  obtain ⟨env, l, st, en, sm, p⟩ := h
  exact p l H .non (Grow.refl l H) sm .non
def fIfS (t : FT) (f g : FS) : FS := fun env st => (t env st).toS env fun k st1 => if k = true then f env st1 else g env st1
theorem s_if (h : PT X c (tT (gx X) Wx ta)) (h1 : PSs X body (tS (gx X) Wx sa)) (h2 : PSs X orelse (tS (gx X) Wx sb)) : PS X (.If c body orelse pos) (tS (gx X) Wx (fIfS ta sa sb)) := (ps_if h h1 h2).imp fun D s H h => by
  obtain ⟨env, l, st, en, sm, p⟩ := h
  refine ⟨env, l, st, en, sm, (SPo.toS en p).imp fun x l1 H1 g1 ⟨st1, sm1, _, p1⟩ => ?_⟩
  cases x with
  | true => exact iteT ⟨env, l1, st1, en.grow g1, sm1, by simpa using p1⟩
  | false => exact iteF ⟨env, l1, st1, en.grow g1, sm1, by simpa using p1⟩

/-! ### targets -/
abbrev FG := W → En → Sto → SA
abbrev W0 : WX := fun _ _ _ _ => False
def nxE (Q : L2.St → Hp → Prop) : Ends := { nx := Q, rt := fun _ _ => False }
def tG (G : Gx) (f : FG) : TG := fun v s H Q => ∃ w env r st, Rep G r H w v ∧ EnR G r H env s ∧ Sim G r H st ∧ SPo G W0 (nxE Q) r H (f w env st)
theorem _root_.L2.PG.imp {X : Cx} {e : Expr} {t t' : TG} (h : PG X e t) (k : ∀ v s H Q, t' v s H Q → t v s H Q) : PG X e t' := ⟨fun pins s σ H v u Q I r q => h.run pins s σ H v u Q I r (k _ _ _ _ q)⟩
theorem _root_.L2.PGs.imp {X : Cx} {e : List Expr} {t t' : TGs} (h : PGs X e t) (k : ∀ v s H Q, t' v s H Q → t v s H Q) : PGs X e t' := ⟨fun pins s σ H v u Q I r q => h.run pins s σ H v u Q I r (k _ _ _ _ q)⟩
def gN (i : Nat) : FG := fun w env st => .nx (env.set i (some w)) st
theorem g_name {i : Nat} {x : Str} (hN : X.N.Nodup) (hi : X.N[i]? = some x := by rfl) (hx : Loc X.env.scope x := by first | exact Or.inl rfl | exact Or.inr rfl) (hf : X.fn x = true ∨ X.env.scope.names.lookup x = some .local := by first | exact .inl rfl | exact .inr rfl | assumption) : PG X (.Name x pos) (tG (gx X) (gN i)) := (pg_name hN hi hx hf).imp fun v s H Q h => by
  obtain ⟨w, env, r, st, rw', en, sm, p⟩ := h
  exact p r H _ (Grow.refl r H) sm (en.set rw')
abbrev FGs := List W → En → Sto → SA
def tGs (G : Gx) (f : FGs) : TGs := fun vs s H Q => ∃ ws env r st, RepL G r H ws vs ∧ EnR G r H env s ∧ Sim G r H st ∧ SPo G W0 (nxE Q) r H (f ws env st)
def gsNil : FGs := fun ws env st => match ws with
  | [] => .nx env st
  | _ => .bad
def gsCons (g : FG) (gs : FGs) : FGs := fun ws env st => match ws with
  | w :: ws => match g w env st with
    | .nx env1 st1 => gs ws env1 st1
    | _ => .bad
  | [] => .bad
theorem gs_nil : PGs X [] (tGs (gx X) gsNil) := pgs_nil.imp fun vs s H Q h => by
  obtain ⟨ws, env, r, st, rw', en, sm, p⟩ := h
  cases rw' with
  | nil => exact ⟨rfl, p r H s (Grow.refl r H) sm en⟩
  | cons _ _ => exact p.elim
theorem gs_cons {f : FG} {g : FGs} (h1 : PG X e (tG (gx X) f)) (h2 : PGs X es (tGs (gx X) g)) (hs : (assignEach (e :: es) X.env).map (·.2) = assign e X.env :: (assignEach es X.env).map (·.2) := by rfl) : PGs X (e :: es) (tGs (gx X) (gsCons f g)) := (pgs_cons h1 h2 hs).imp fun vs s H Q h => by
  obtain ⟨ws, env, r, st, rw', en, sm, p⟩ := h
  cases rw' with
  | nil => exact p.elim
  | cons q k =>
    refine ⟨_, _, rfl, _, env, r, st, q, en, sm, ?_⟩
    simp only [gsCons] at p
    split at p
    · rename_i env1 st1 e1
      rw [e1]
      exact fun r' H' s' g sm' en' => ⟨_, env1, r', st1, k.grow g, en', sm', SPo.grow g p⟩
    · exact p.elim
def gTupW (n : Nat) (gs : FGs) : FG := fun w env st => match w with
  | .tup l => if l.length = n then gs l env st else .bad
  | _ => .bad
theorem g_tup {k : Nat} {g : FGs} {n : Nat} (h : PGs X es (tGs (gx X) g)) (hc : X.calm = true := by rfl) (hn : (assignEach es X.env).length = n := by rfl) (hst : (assignEach es X.env).findIdx? (·.1) = none := by rfl) : PG X (.Tuple es k pos) (tG (gx X) (gTupW n g)) := (pg_tup hc h hn hst).imp fun v s H Q h => by
  obtain ⟨w, env, r, st, rw', en, sm, p⟩ := h
  cases rw' with
  | @tup l a vs h k =>
    simp only [gTupW] at p
    split at p
    · rename_i hl
      exact ⟨a, vs, rfl, h, by rw [← k.length]; exact hl, l, env, r, st, k, en, sm, p⟩
    · exact p.elim
  | _ => exact p.elim
/-- x[i] = w -/
def wSet (o i w : W) (st : Sto) : Option Sto := match o, i with
  | .ref n, .int k => match st[n]? with
    | some (.lst l) => (ixN l.length k).map fun j => st.set n (.lst (l.set j w))
    | _ => none
  | _, _ => none
def gSubW (fo fi : FE) : FG := fun w env st => match (fo env st).bind fun o st1 => (fi env st1).bind fun i st2 => optB ((wSet o i w st2)) st2 with
  | .ok st' _ => .nx env st'
  | _ => .bad
theorem wSet_rep {G : Gx} {r : List Addr} {H : Hp} {st st' : Sto} (sm : Sim G r H st) {o i w : W} {vo vi v : V} (ro : Rep G r H o vo) (ri : Rep G r H i vi) (rw' : Rep G r H w v) (e : wSet o i w st = some st') {Q : Hp → Prop}
    (q : ∀ H', Stay H H' → Sim G r H' st' → Q H') : rSetL vo vi v H Q := by
  cases ro with
  | @ref n a h =>
    cases ri with
    | int k =>
      simp only [wSet] at e
      split at e
      · rename_i l hl
        obtain ⟨j, e1, rfl⟩ := Option.map_eq_some_iff.mp e
        obtain ⟨vs, e2, kk⟩ := sm.got hl h
        have sy : Stay H (upd H a (.lst (vs.set j v))) := Stay.lst e2
        refine ⟨a, vs, k, j, rfl, rfl, e2, by rw [← kk.length]; exact e1, q _ sy (sm.put h e2 (fun _ z => by cases z) (fun _ z => by cases z) sy ⟨_, upd_same, ?_⟩)⟩
        exact (RepL.set rw' j kk).grow (Grow.same sy)
      · cases e
    | _ => cases e
  | _ => cases e
theorem g_sub (ho : PE X a (tE (gx X) Wx fa)) (hi : PE X b (tE (gx X) Wx fb))
    (ha : ∀ v, assign (.Subscript a b pos) X.env v = (do
      let ov ← holding [v] (eval a X.env)
      let iv ← holding [v, ov] (eval b X.env)
      standAt pos
      holding [v, ov, iv] (setItem ov iv v)
      release [v, ov, iv] []) := by intro _; rfl) : PG X (.Subscript a b pos) (tG (gx X) (gSubW fa fb)) := (pg_sub ho hi set_list ha).imp fun v s H Q h => by
  obtain ⟨w, env, r, st, rw', en, sm, p⟩ := h
  unfold gSubW at p
  cases e1 : fa env st with
  | ex C fs st1 => rw [e1] at p; exact p.elim
  | bad => rw [e1] at p; exact p.elim
  | ok o st1 =>
    rw [e1] at p
    cases e2 : fb env st1 with
    | ex C fs st2 => simp only [An.bind_ok, e2, An.bind_ex] at p; exact p.elim
    | bad => simp only [An.bind_ok, e2, An.bind_bad] at p; exact p.elim
    | ok i st2 =>
      simp only [An.bind_ok, e2] at p
      cases e3 : wSet o i w st2 with
      | none => simp only [e3, optB_none] at p; exact p.elim
      | some st' =>
        simp only [e3, optB_some] at p
        refine ⟨env, r, st, en, sm, ?_⟩
        rw [e1]
        intro r1 H1 g1 sm1 vo ro
        refine ⟨env, r1, st1, en.grow g1, sm1, ?_⟩
        rw [e2]
        intro r2 H2 g2 sm2 vi ri
        exact wSet_rep sm2 (ro.grow g2) ri ((rw'.grow g1).grow g2) e3 fun H' sy sm' => p r2 H' s ((g1.trans g2).trans (Grow.same sy)) sm' (((en.grow g1).grow g2).grow (Grow.same sy))
def fAsg (f : FE) (g : FG) : FS := fun env st => (f env st).toS env fun w st1 => match g w env st1 with
  | .nx env2 st2 => .nx env2 st2
  | _ => .bad
theorem s_asg {g : FG} {tg : Expr} (h : PE X e (tE (gx X) Wx fa)) (hg : PG X tg (tG (gx X) g)) (hs : swapsWithSole [tg] e pos.line X.env = pure false := by rfl) (hw : swappedStores [tg] e X.env = pure none := by rfl)
    (h1 : (assignEach [tg] X.env).map (·.2) = [assign tg X.env] := by rfl) : PS X (.Assign [tg] e pos) (tS (gx X) Wx (fAsg fa g)) := (ps_asg h hg hs hw h1).imp fun D s H h => by
  obtain ⟨env, l, st, en, sm, p⟩ := h
  refine ⟨env, l, st, en, sm, (SPo.toS en p).imp fun x l1 H1 g1 ⟨st1, sm1, _, p1⟩ vx rx => ?_⟩
  refine ⟨x, env, l1, st1, rx, en.grow g1, sm1, ?_⟩
  split at p1
  · rename_i e1
    rw [e1]
    exact p1
  · exact p1.elim
def fSet (i : Nat) (f : FE) : FS := fun env st => (f env st).toS env fun w st1 => .nx (env.set i (some w)) st1
theorem s_set {i : Nat} {x : Str} {p' : Pos} (hN : X.N.Nodup) (h : PE X e (tE (gx X) Wx fa)) (hi : X.N[i]? = some x := by rfl) (hx : Loc X.env.scope x := by first | exact Or.inl rfl | exact Or.inr rfl) (hs : swapsWith e (some (.Name x p')) pos.line X.env = pure false := by rfl) (hf : X.fn x = true ∨ X.env.scope.names.lookup x = some .local := by first | exact .inl rfl | exact .inr rfl | assumption) :
    PS X (.Assign [.Name x p'] e pos) (tS (gx X) Wx (fSet i fa)) := (ps_set hN hi hx h hs hf).imp fun D s H h => by
  obtain ⟨env, l, st, en, sm, p⟩ := h
  exact ⟨env, l, st, en, sm, (SPo.toS en p).imp fun x l1 H1 g1 ⟨st1, sm1, _, p1⟩ vx rx => p1 l1 H1 _ (Grow.refl l1 H1) sm1 ((en.grow g1).set rx)⟩
/-- x op= e -/
def fAug (i : Nat) (g : W → W → Sto → An W) (f : FE) : FS := fun env st => (fVar i env st).toS env fun x st0 => ((f env st0).bind fun y st1 => g x y st1).toS env fun z st2 => .nx (env.set i (some z)) st2
theorem s_aug {i : Nat} {x : Str} {p' : Pos} {op : Operator} {r : R2} {g : W → W → Sto → An W} (hN : X.N.Nodup) (ho : OpR X (inplaceOp op) r) (hg : OpRf (gx X) r g) (h : PE X e (tE (gx X) Wx fa)) (hi : X.N[i]? = some x := by rfl) (hx : Loc X.env.scope x := by first | exact Or.inl rfl | exact Or.inr rfl)
    (hf : X.fn x = true ∨ X.env.scope.names.lookup x = some .local := by first | exact .inl rfl | exact .inr rfl | assumption) : PS X (.AugAssign (.Name x p') op e pos) (tS (gx X) Wx (fAug i g fa)) := (ps_aug (ti := r) hN hi hx h ho hf).imp fun D s H h => by
  obtain ⟨env, l, st, en, sm, p⟩ := h
  unfold fAug fVar at p
  cases e1 : env[i]? with
  | none => rw [e1] at p; exact p.elim
  | some o =>
    cases o with
    | none => rw [e1] at p; exact p.elim
    | some w =>
      rw [e1] at p
      obtain ⟨v, h1, h2⟩ := en.2 i w e1
      refine ⟨v, h1, env, l, st, en, sm, (Po.bind (SPo.toS en p)).imp fun y l1 H1 g1 ⟨st1, sm1, _, p1⟩ vy ry => ?_⟩
      refine hg w y st1 l1 H1 v vy _ Wx s sm1 (h2.grow g1) ry (p1.imp fun z l2 H2 g2 ⟨st2, sm2, _, p2⟩ vz rz => ?_)
      exact p2 l2 H2 _ (Grow.refl l2 H2) sm2 (((en.grow g1).grow g2).set rz)
end
end Sw
/-! SwE: enumerate of a tuple. -/
namespace PySem
theorem sw_enum_new1 {v : Value} {o : Obj} {H : Heap → Prop} (B : Begins v o H) :
    Meets (Builtin.«enumerate.__new__» ⟨[.type "enumerate", v], []⟩) (fun _ R s => H s.heap ∧
      R (.ok (.ret (.ref (s.heap.push o).objs.size))) { s with heap := (s.heap.push o).push { cls := .type "enumerate", data := .fields #[.none, .bool false, .ref s.heap.objs.size, rawInt 0, .none, .none] } }) :=
  .of_wp fun prog w A R s h => by
    obtain ⟨hp, g, d, tk, os⟩ := s; obtain ⟨h1, h⟩ := h
    have hsub := sub_enumerate
    have q1 : ∀ {A' : Around} {E : Value → Shared → Prop} {Q : Value → Shared → Prop}, Q (.ref hp.objs.size) ⟨hp.push o, g, d, tk, os⟩ → wpAny (model prog w) A' (pyIter v) Q E ⟨hp, g, d, tk, os⟩ :=
      fun q => B.iter prog w _ _ ⟨hp, g, d, tk, os⟩ _ h1 q
    wp_walk using q1
    refine wpAny_stack_any fun st => wpAny_pure ?_
    split
    · rename_i c _ _ _ _ _
      cases (c == Value.type "enumerate")
      · wp_walk using q1
        exact ⟨_, rfl, h⟩
      · wp_walk using q1
        exact ⟨_, rfl, h⟩
    · wp_walk using q1
      exact ⟨_, rfl, h⟩
section
variable {prog : Program} {w : World} {A : Around} {E : Value → Shared → Prop} {s : Shared}
theorem sw_enum_begins {v : Value} {o : Obj} {H : Heap → Prop} {Q : Value → Shared → Prop} (B : Begins v o H) (h1 : H s.heap)
    (h : ∀ h', IsEnum h' (s.heap.objs.size + 1) s.heap.objs.size 0 .none → h'.get? s.heap.objs.size = some o → h'.objs.size = s.heap.objs.size + 2 →
      (∀ b o, s.heap.get? b = some o → h'.get? b = some o) → Q (.ref (s.heap.objs.size + 1)) { s with heap := h' }) :
    wpAny (model prog w) A (call (.type "enumerate") [v]) Q E s := by
  refine callType_new F.called_enumerate (by decide) (F.typeCall_enumerate_1 _) (F.newCall_enumerate_1 _) (fun obj => F.args_object_init_2 obj _) F.entry_enumerate_new
    (sw_enum_new1 B) ⟨h1, ?_⟩
  have hz : (s.heap.push o).objs.size = s.heap.objs.size + 1 := Heap.size_push ..
  show _ ∧ _
  rw [hz]
  have he : IsEnum ((s.heap.push o).push { cls := .type "enumerate", data := .fields #[.none, .bool false, .ref s.heap.objs.size, rawInt 0, .none, .none] }) (s.heap.objs.size + 1) s.heap.objs.size 0 .none := by
    have := Heap.get?_push_size (s.heap.push o) (o := { cls := .type "enumerate", data := .fields #[.none, .bool false, .ref s.heap.objs.size, rawInt 0, .none, .none] }) rfl
    rw [hz] at this; exact this
  refine ⟨⟨_, he, rfl⟩, h _ he (Heap.get?_push_of_some _ (Heap.get?_push_size _ B.free)) (by rw [Heap.size_push, hz]) fun b o x => Heap.get?_push_of_some _ (Heap.get?_push_of_some _ x)⟩
end
end PySem
namespace Sw
open PySem PySem.Spec PyProof.Rows L2
/-- enumerate of the tuple at a -/
def IteT (K : PySem.W.Frag) (a : Addr) : It :=
  ⟨fun i H => ∃ (xs : List V) (x : V), SqT K H a xs ∧ xs[i]? = some x, fun i H v H' => ∃ T x, v = .ref T ∧ H T = none ∧ H' = upd H T (.tup [.int (i : Nat), x]) ∧ ∀ xs, SqT K H a xs → xs[i]? = some x, fun i H => ∃ xs : List V, SqT K H a xs ∧ xs.length = i⟩
theorem ne_tupIter {h : Heap} {a it : Addr} {items : Array Value} {i : Nat} (ht : IsTup h a items) (hit : h.IsTupleIter it a i) : a ≠ it := fun z => by
  obtain ⟨o, e1, c1, _⟩ := ht
  obtain ⟨o2, e2, c2, _⟩ := hit
  rw [z, e2] at e1
  cases e1
  rw [c1] at c2
  exact absurd (Value.type.inj c2) (by decide)
theorem ne_tupEnum {h : Heap} {a e it : Addr} {items : Array Value} {i : Int} {old : Value} (ht : IsTup h a items) (he : IsEnum h e it i old) : e ≠ a := fun z => by
  obtain ⟨o, e1, c1, _⟩ := ht
  have he' : h.get? e = some _ := he
  rw [z, e1] at he'
  cases he'
  exact absurd (Value.type.inj c1) (by decide)
theorem turn_enumT {P : Program} {w : World} {K : PySem.W.Frag} {elts : List Expr} {kk : Nat} {tpos : Pos} (a e it : Addr) :
    Turn P w K (.Tuple elts kk tpos) (IteT K a) [e, it] e (fun i h => (∃ old, IsEnum h e it ((i : Nat) : Int) old) ∧ h.IsTupleIter it a i ∧ e ≠ it) where
  mem := by simp
  obj := fun i h st b hb => by
    obtain ⟨⟨old, he⟩, ⟨o, ho, hc, hd⟩, _⟩ := st
    have e' : b = e ∨ b = it := by simpa using hb
    rcases e' with z | z
    · rw [z]; exact ⟨_, he, fun v q => nomatch q⟩
    · rw [z]; exact ⟨o, ho, fun v q => by rw [hd] at q; cases q⟩
  keep := fun i h h' st k => let ⟨⟨old, he⟩, hi, hne⟩ := st; ⟨⟨old, k e (by simp) _ he⟩, hi.at fun o q => k it (by simp) o q, hne⟩
  item := by
    intro X hP hw hK hc i pins s σ H E I hf st hg
    subst hP hw hK
    obtain ⟨⟨old, he⟩, hit, hne⟩ := st
    obtain ⟨xs, x, hq, hx⟩ := hg
    obtain ⟨its, rv, p, hz⟩ := I.tuple hq
    have hel : e < s.heap.objs.size := Heap.lt_size he
    have hil : it < s.heap.objs.size := by obtain ⟨_, q, _⟩ := hit; exact Heap.lt_size q
    have hx' : i < its.toArray.size := by
      have h1 := (List.getElem?_eq_some_iff.mp hx).1
      have h2 := rv.length
      simp; omega
    have nai := ne_tupIter p hit
    have nea := ne_tupEnum p he
    refine wpAny_pyNext_enum_itemD (Draws.tuple (show X.A.in1.handled = none from I.ok.hd hc) it a nai its.toArray) he ⟨hit, p⟩ hx' hne (by simp [hne, nea]) fun u h' tk hP ho hit' hT hsz hk => ?_
    obtain ⟨u', hu, ru⟩ := rv.get hx
    have eu : u = u' := by
      have q : its[i]? = some u := by simpa using hP
      rw [hu] at q
      exact (Option.some.inj q).symm
    subst eu
    refine ⟨_, rfl, wpAny_letOwnedTupleGo_enum (s := { s with heap := h', toks := tk + 1 }) ho fun h'' he' sb => ?_⟩
    have hT2 : h''.get? s.heap.objs.size = some { cls := .type "tuple", data := .seq #[.int i tk, u] } := (sb.2 _ (Nat.ne_of_gt hel)).trans hT
    have new : ObjOk X.prog X.w (upd H s.heap.objs.size (.tup [.int (i : Nat), x])) h'' s.heap.objs.size (.tup [.int (i : Nat), x]) :=
      ⟨by show 2 ≤ sizeLine; decide, [.int i tk, u], .cons ⟨_, rfl⟩ (.cons ru .nil), ⟨_, hT2, rfl, _, rfl⟩⟩
    have I1 : Inv X pins σ (upd H s.heap.objs.size (.tup [.int (i : Nat), x])) { s with heap := h'', toks := tk + 1 } :=
      I.turnedNew (ch := [e, it]) (fun b ob hb q => (sb.2 b (fun z => hb (by simp [z]))).trans (hk b ob (fun z => hb (by simp [z])) (fun z => hb (by simp [z])) q)) hf (Nat.le_refl _) new
    refine ⟨.ref s.heap.objs.size, _, I1, rfl, ⟨_, x, rfl, I.hok.fresh (Nat.le_refl _), rfl, fun ys hy => by rw [I.tuple_inj hy hq]; exact hx⟩, ⟨⟨u, ?_⟩, hit'.1.at fun o q => (sb.2 it (Ne.symm hne)).trans q, hne⟩, fun b hb => ?_⟩
    · have e1 : ((i + 1 : Nat) : Int) = (i : Int) + 1 := by omega
      rw [e1]; exact he'
    · have hb' : b < s.heap.objs.size := by
        have e' : b = e ∨ b = it := by simpa using hb
        rcases e' with z | z
        · rw [z]; exact hel
        · rw [z]; exact hil
      rw [upd_ne (Nat.ne_of_lt hb')]
      exact (hf b hb).1
  done := by
    intro X hP hw hK hc i pins s σ H E I hf st hg
    subst hP hw hK
    obtain ⟨⟨old, he⟩, hit, hne⟩ := st
    obtain ⟨xs, hq, hx⟩ := hg
    obtain ⟨its, rv, p, hz⟩ := I.tuple hq
    obtain ⟨f0, f1, f2, f3, f4, f5⟩ := hf it (by simp)
    have hl := rv.length
    have nai := ne_tupIter p hit
    have en : i = its.toArray.size := by simp; omega
    have hit' : s.heap.IsTupleIter it a its.toArray.size := en ▸ hit
    exact wpAny_pyNext_enum_endD (Draws.tuple (show X.A.in1.handled = none from I.ok.hd hc) it a nai its.toArray) he ⟨hit', p⟩ fun h' eb => ⟨rfl, I.turned (t' := s.toks) (fun b o hb q => eb b o hb q) f0 f1 f3 f4 f5⟩
  self := fun A i s Q E st h => let ⟨⟨_, he⟩, _⟩ := st; wpAny_pyIter_enum he h
end Sw
/-! Sw7: what is walked; for, while, comprehensions. -/
namespace Sw
open PySem PySem.Spec PyProof.Rows L2

/-- a list that must stay as it is while it is walked -/
abbrev GD := Option (Nat × List W)
def gdOk (gd : GD) (st : Sto) : Prop := match gd with
  | none => True
  | some (n, l) => st[n]? = some (.lst l)
structure ItR (G : Gx) (J : It) (items : List W) (gd : GD) (r0 : List Addr) (H0 : Hp) : Prop where
  go : ∀ i r H st, Grow r0 H0 r H → Sim G r H st → gdOk gd st → i < items.length → J.go i H
  yld : ∀ i r H st x H' w, Grow r0 H0 r H → Sim G r H st → gdOk gd st → items[i]? = some w → J.yld i H x H' → Stay H H' ∧ Sim G r H' st ∧ Rep G r H' w x
  stop : ∀ r H st, Grow r0 H0 r H → Sim G r H st → gdOk gd st → J.stop items.length H
abbrev FI := En → Sto → An (List W × GD)
def tI (G : Gx) (Wx : WX) (f : FI) : TI := fun s H R => ∃ env r st, EnR G r H env s ∧ Sim G r H st ∧ Po G Wx s (fun p r' H' => ∀ J, ItR G J p.1 p.2 r' H' → R J H') r H (f env st)
theorem _root_.L2.PI.imp {X : Cx} {tg e : Expr} {t t' : TI} (h : PI X tg e t) (k : ∀ s H R, t' s H R → t s H R) : PI X tg e t' := ⟨fun pins s σ H R I q => h.run pins s σ H R I (k _ _ _ q)⟩
/-- a list, a tuple -/
def seqI (st : Sto) : W → Option (List W × GD)
  | .tup l => some (l, none)
  | .rol l => some (l, none)
  | .ref n => match st[n]? with
    | some (.lst l) => some (l, some (n, l))
    | _ => none
  | _ => none
/-- .. a text too -/
def seqJ (st : Sto) : W → Option (List W × GD)
  | .str z => some (z.cps.toList.map fun c => .str ⟨#[c]⟩, none)
  | x => seqI st x
def fSeqI (f : FE) : FI := fun env st => (f env st).bind fun x st1 => optB (seqJ st1 x) st1
theorem itl_rol {G : Gx} {l : List W} {a : Addr} {vs : List V} {r : List Addr} {H : Hp} (h : Rol G.K H a vs) (k : RepL G r H l vs) : ItR G (Itl G.K a) l none r H where
  go := fun i r1 H1 st g sm _ hi => by
    obtain ⟨v, h1, _⟩ := k.get (List.getElem?_eq_getElem hi)
    exact ⟨vs, v, (g.stay.rol h).sq, h1⟩
  yld := fun i r1 H1 st x H' w g sm _ hw y => by
    obtain ⟨e, y⟩ := y
    subst e
    obtain ⟨v, h1, h2⟩ := k.get hw
    have e := y vs (g.stay.rol h).sq
    rw [h1] at e
    cases e
    exact ⟨Stay.refl _, sm, h2.grow g⟩
  stop := fun r1 H1 st g sm _ => ⟨vs, (g.stay.rol h).sq, Nat.le_of_eq k.length.symm⟩
theorem itl_ref {G : Gx} {l : List W} {n : Nat} {a : Addr} {r : List Addr} {H : Hp} (h : r[n]? = some a) : ItR G (Itl G.K a) l (some (n, l)) r H where
  go := fun i r1 H1 st g sm hg hi => by
    obtain ⟨vs, e, k⟩ := sm.got (show st[n]? = some (.lst l) from hg) (g.at h)
    obtain ⟨v, h1, _⟩ := k.get (List.getElem?_eq_getElem hi)
    exact ⟨vs, v, .inl (.inl e), h1⟩
  yld := fun i r1 H1 st x H' w g sm hg hw y => by
    obtain ⟨e, y⟩ := y
    subst e
    obtain ⟨vs, e, k⟩ := sm.got (show st[n]? = some (.lst l) from hg) (g.at h)
    obtain ⟨v, h1, h2⟩ := k.get hw
    have e := y vs (.inl (.inl e))
    rw [h1] at e
    cases e
    exact ⟨Stay.refl _, sm, h2⟩
  stop := fun r1 H1 st g sm hg => by
    obtain ⟨vs, e, k⟩ := sm.got (show st[n]? = some (.lst l) from hg) (g.at h)
    exact ⟨vs, .inl (.inl e), Nat.le_of_eq k.length.symm⟩
theorem itt_tup {G : Gx} {l : List W} {a : Addr} {vs : List V} {r : List Addr} {H : Hp} (h : SqT G.K H a vs) (k : RepL G r H l vs) : ItR G (Itt G.K a) l none r H where
  go := fun i r1 H1 st g sm _ hi => by
    obtain ⟨v, h1, _⟩ := k.get (List.getElem?_eq_getElem hi)
    exact ⟨vs, v, g.stay.sqt h, h1⟩
  yld := fun i r1 H1 st x H' w g sm _ hw y => by
    obtain ⟨e, y⟩ := y
    subst e
    obtain ⟨v, h1, h2⟩ := k.get hw
    have e := y vs (g.stay.sqt h)
    rw [h1] at e
    cases e
    exact ⟨Stay.refl _, sm, h2.grow g⟩
  stop := fun r1 H1 st g sm _ => ⟨vs, g.stay.sqt h, Nat.le_of_eq k.length.symm⟩
section
variable {X : Cx} {Wx : WX} {pos : Pos} {a b c e tg : Expr} {fa fb fc : FE} {ta tb : FT} {es : List Expr} {sa sb : FS} {body : List Stmt}
theorem its_str {G : Gx} {z : Str} {r : List Addr} {H : Hp} : ItR G (Its z) (z.cps.toList.map fun c => .str ⟨#[c]⟩) none r H where
  go := fun i r1 H1 st g sm _ hi => by
    show i < z.cps.size
    simpa using hi
  yld := fun i r1 H1 st x H' w g sm _ hw y => by
    obtain ⟨e, c, hc, rfl⟩ := y
    subst e
    rw [List.getElem?_map, Array.getElem?_toList, hc] at hw
    cases hw
    exact ⟨Stay.refl _, sm, .str _⟩
  stop := fun r1 H1 st g sm _ => by
    show z.cps.size ≤ _
    simp
theorem i_seq (h : PE X e (tE (gx X) Wx fa)) : PI X tg e (tI (gx X) Wx (fSeqI fa)) := by
  refine ⟨fun pins s σ H R I h1 => ?_⟩
  obtain ⟨env, l, st, en, sm, p⟩ := h1
  refine thn (h.run pins s σ H (fun x H1 => (∃ a, x = .ref a ∧ (∃ xs, SqL X.K H1 a xs) ∧ R (Itl X.K a) H1) ∨ (∃ a, x = .ref a ∧ (∃ xs, SqT X.K H1 a xs) ∧ R (Itt X.K a) H1) ∨ ∃ z, x = .str z ∧ R (Its z) H1) I
    ⟨env, l, st, en, sm, (Po.bind p).imp fun x l1 H1 g1 ⟨st1, sm1, _, p1⟩ vx rx => ?_⟩) fun v s1 ⟨x, H1, I1, r1, q1⟩ => ?_
  · obtain ⟨⟨l', gd⟩, e1, q⟩ := Po.optB p1 sm1
    cases rx with
    | @tup l2 a vs h k =>
      cases e1
      exact .inr (.inl ⟨a, rfl, ⟨vs, h⟩, q _ (itt_tup h k)⟩)
    | str z =>
      cases e1
      exact .inr (.inr ⟨z, rfl, q _ its_str⟩)
    | @rol l2 a vs h k =>
      cases e1
      exact .inl ⟨a, rfl, ⟨vs, h.sq⟩, q _ (itl_rol h k)⟩
    | @ref n a h =>
      simp only [seqJ, seqI] at e1
      split at e1
      · rename_i l2 e2
        cases e1
        obtain ⟨vs, e3, k⟩ := sm1.got e2 h
        exact .inl ⟨a, rfl, ⟨vs, .inl (.inl e3)⟩, q _ (itl_ref h)⟩
      · cases e1
    | _ => cases e1
  · have fresh : ∀ b ∈ [s1.heap.objs.size], FpOk X pins H1 b := fun b hb => by
      have e : b = s1.heap.objs.size := by simpa using hb
      subst e
      exact I1.fpOk (Nat.le_refl _) (I1.hok.fresh (Nat.le_refl _))
    rcases q1 with ⟨a, e, ⟨xs, hq⟩, q⟩ | ⟨a, e, ⟨xs, hq⟩, q⟩ | ⟨z, e, q⟩
    · subst e
      cases r1
      obtain ⟨its, rv, p, hz⟩ := I1.list hq
      refine wpAny_pyIter_list p.isList ?_
      exact ⟨s1.heap.objs.size, [s1.heap.objs.size], _, _, H1, rfl, I1.kept (t' := s1.toks) fun b o e => Heap.get?_push_of_some _ e, turn_list a _, ⟨_, Heap.get?_push_size _ rfl, rfl, rfl⟩, fresh, q⟩
    · subst e
      cases r1
      obtain ⟨its, rv, p, hz⟩ := I1.tuple hq
      refine wpAny_pyIter_tuple (show s1.heap.IsTuple a its.toArray from p) ?_
      exact ⟨s1.heap.objs.size, [s1.heap.objs.size], _, _, H1, rfl, I1.kept (t' := s1.toks) fun b o e => Heap.get?_push_of_some _ e, turn_tuple a _, ⟨_, Heap.get?_push_size _ rfl, rfl, rfl⟩, fresh, q⟩
    · subst e
      obtain ⟨t, rfl⟩ := r1
      cases ha : z.cps.all (· < 128)
      · refine wpAny_pyIter_wide ha ?_
        exact ⟨s1.heap.objs.size, [s1.heap.objs.size], _, _, H1, rfl, I1.kept (t' := s1.toks) fun b o e => Heap.get?_push_of_some _ e, turn_str _ z t "str_iterator" (.inr rfl), ⟨_, Heap.get?_push_size _ rfl, rfl, rfl⟩, fresh, q⟩
      · refine wpAny_pyIter_ascii ha ?_
        exact ⟨s1.heap.objs.size, [s1.heap.objs.size], _, _, H1, rfl, I1.kept (t' := s1.toks) fun b o e => Heap.get?_push_of_some _ e, turn_str _ z t "str_ascii_iterator" (.inl rfl), ⟨_, Heap.get?_push_size _ rfl, rfl, rfl⟩, fresh, q⟩
/-- range(n), range(a, b) -/
def rngW (a b : Int) : List W := (List.range (b - a).toNat).map fun i => .int (a + (i : Nat))
theorem rngW_at {a b : Int} {i : Nat} (h : i < (b - a).toNat) : (rngW a b)[i]? = some (.int (a + (i : Nat))) := by
  unfold rngW
  rw [List.getElem?_map, List.getElem?_range h]
  rfl
theorem rngW_length {a b : Int} : (rngW a b).length = (b - a).toNat := by simp [rngW]
theorem itr_rng {G : Gx} {a b : Int} {r : List Addr} {H : Hp} : ItR G (Itr a (b - a).toNat) (rngW a b) none r H where
  go := fun i r1 H1 st g sm _ hi => by rw [rngW_length] at hi; exact hi
  yld := fun i r1 H1 st x H' w g sm _ hw y => by
    obtain ⟨e, y⟩ := y
    subst e y
    have hi : i < (b - a).toNat := by have := (List.getElem?_eq_some_iff.mp hw).1; rwa [rngW_length] at this
    rw [rngW_at hi] at hw
    cases hw
    exact ⟨Stay.refl _, sm, .int _⟩
  stop := fun r1 H1 st g sm _ => by rw [rngW_length]; exact Nat.le_refl _
def okR (a b : Int) : Prop := -(2 ^ 62) ≤ a ∧ a < 2 ^ 62 ∧ -(2 ^ 62) ≤ b ∧ b < 2 ^ 62
@[irreducible] def okB (a b : Int) : Bool := decide (-(2 ^ 62) ≤ a ∧ a < 2 ^ 62 ∧ -(2 ^ 62) ≤ b ∧ b < 2 ^ 62)
theorem okB_iff {a b : Int} : okB a b = true ↔ okR a b := by
  unfold okB okR
  exact decide_eq_true_iff
instance (a b : Int) : Decidable (okR a b) := decidable_of_iff _ okB_iff
def wRng1 : List W → Sto → An (List W × GD)
  | [.int b], st => if okR 0 b then .ok (rngW 0 b, none) st else .bad
  | _, _ => .bad
def wRng2 : List W → Sto → An (List W × GD)
  | [.int a, .int b], st => if okR a b then .ok (rngW a b, none) st else .bad
  | _, _ => .bad
def fIt (g : List W → Sto → An (List W × GD)) (f : FA) : FI := fun env st => (f env st).bind g
theorem one_int {G : Gx} {r : List Addr} {H : Hp} {ws : List W} {vs : List V} (k : RepL G r H ws vs) : (∃ i, ws = [.int i] ∧ vs = [.int i]) ∨ ∀ i, ws ≠ [.int i] := by
  cases k with
  | nil => exact .inr (fun i z => by cases z)
  | cons h k =>
    cases k with
    | nil => cases h <;> first | exact .inl ⟨_, rfl, rfl⟩ | exact .inr (fun i z => by cases z)
    | cons _ _ => exact .inr (fun i z => by cases z)
theorem two_int {G : Gx} {r : List Addr} {H : Hp} {ws : List W} {vs : List V} (k : RepL G r H ws vs) : (∃ i j, ws = [.int i, .int j] ∧ vs = [.int i, .int j]) ∨ ∀ i j, ws ≠ [.int i, .int j] := by
  cases k with
  | nil => exact .inr (fun i j z => by cases z)
  | cons h k =>
    cases k with
    | nil => exact .inr (fun i j z => by cases z)
    | cons h2 k =>
      cases k with
      | nil => cases h <;> cases h2 <;> first | exact .inl ⟨_, _, rfl, rfl⟩ | exact .inr (fun i j z => by cases z)
      | cons _ _ => exact .inr (fun i j z => by cases z)
theorem i_rng1 {f : FA} {p : Pos} (hg : Gl X "range") (hm : X.mg "range" = none) (ha : PA X [a] (tL (gx X) Wx f)) (hs : starEach [a] X.env = [(false, eval a X.env)] := by rfl) : PI X tg (.Call (.Name "range" p) [a] [] pos) (tI (gx X) Wx (fIt wRng1 f)) := (pi_range1 hg hm ha hs).imp fun s H R h => by
  obtain ⟨env, l, st, en, sm, p⟩ := h
  refine ⟨env, l, st, en, sm, (Po.bind p).imp fun x l1 H1 g1 ⟨st1, sm1, _, p1⟩ vx rx => ?_⟩
  rcases one_int rx with ⟨j, rfl, rfl⟩ | hn
  · obtain ⟨hk, p1⟩ := ite_bad p1
    refine ⟨j, rfl, hk.2.2.1, hk.2.2.2, ?_⟩
    have := Po.ok p1 sm1 _ (itr_rng (G := gx X) (a := 0) (b := j) (r := l1) (H := H1))
    rwa [Int.sub_zero] at this
  · unfold wRng1 at p1
    split at p1
    · exact absurd rfl (hn _)
    · exact p1.elim
theorem i_rng2 {f : FA} {p : Pos} (hg : Gl X "range") (hm : X.mg "range" = none) (ha : PA X [a, b] (tL (gx X) Wx f)) (hs : starEach [a, b] X.env = [(false, eval a X.env), (false, eval b X.env)] := by rfl) (hs2 : starEach [b] X.env = [(false, eval b X.env)] := by rfl) : PI X tg (.Call (.Name "range" p) [a, b] [] pos) (tI (gx X) Wx (fIt wRng2 f)) := (pi_range2 hg hm ha hs hs2).imp fun s H R h => by
  obtain ⟨env, l, st, en, sm, p⟩ := h
  refine ⟨env, l, st, en, sm, (Po.bind p).imp fun x l1 H1 g1 ⟨st1, sm1, _, p1⟩ vx rx => ?_⟩
  rcases two_int rx with ⟨i, j, rfl, rfl⟩ | hn
  · obtain ⟨hk, p1⟩ := ite_bad p1
    exact ⟨i, j, rfl, hk, Po.ok p1 sm1 _ itr_rng⟩
  · unfold wRng2 at p1
    split at p1
    · exact absurd rfl (hn _ _)
    · exact p1.elim
/-- reversed(range(n)) -/
def wRevR : W → Sto → An (List W × GD)
  | .int b, st => if okR 0 b then .ok ((rngW 0 b).reverse, none) st else .bad
  | _, _ => .bad
def fI1 (g : W → Sto → An (List W × GD)) (f : FE) : FI := fun env st => (f env st).bind g
theorem rev_at {b : Int} {i : Nat} (h : i < (b - 0).toNat) : (rngW 0 b).reverse[i]? = some (.int (0 + (((b - 0).toNat : Nat) : Int) - 1 + (i : Nat) * (-1))) := by
  have hl : (rngW 0 b).length = (b - 0).toNat := rngW_length
  rw [List.getElem?_reverse (by rw [hl]; exact h), rngW_at (by rw [hl]; omega)]
  rw [hl]
  congr 2
  omega
theorem i_revr {p p2 q : Pos} (hg : Gl X "reversed") (hm : X.mg "reversed" = none) (hg2 : Gl X "range") (hm2 : X.mg "range" = none) (ha : PE X a (tE (gx X) Wx fa)) (na : starEach [a] X.env = (false, eval a X.env) :: starEach [] X.env := by rfl)
    (hs : starEach [.Call (.Name "range" p2) [a] [] q] X.env = (false, eval (.Call (.Name "range" p2) [a] [] q) X.env) :: starEach [] X.env := by rfl) : PI X tg (.Call (.Name "reversed" p) [.Call (.Name "range" p2) [a] [] q] [] pos) (tI (gx X) Wx (fI1 wRevR fa)) := (pi_revR hg hm (prg_1 hg2 hm2 ha na) hs).imp fun s H R h => by
  obtain ⟨env, l, st, en, sm, p⟩ := h
  refine ⟨env, l, st, en, sm, (Po.bind p).imp fun x l1 H1 g1 ⟨st1, sm1, _, p1⟩ vx rx => ?_⟩
  cases rx with
  | int b =>
    obtain ⟨hk, p1⟩ := ite_bad p1
    refine ⟨b, rfl, by decide, by decide, hk.2.2.1, hk.2.2.2, Po.ok p1 sm1 _ ?_⟩
    refine ⟨fun i r1 H1 st g sm _ hi => ?_, fun i r1 H1 st x H' w g sm _ hw y => ?_, fun r1 H1 st g sm _ => ?_⟩
    · rw [List.length_reverse, rngW_length] at hi
      exact hi
    · obtain ⟨e, y⟩ := y
      subst e y
      have hi : i < (b - 0).toNat := by have := (List.getElem?_eq_some_iff.mp hw).1; rwa [List.length_reverse, rngW_length] at this
      rw [rev_at hi] at hw
      cases hw
      exact ⟨Stay.refl _, sm, .int _⟩
    · show (b - 0).toNat ≤ _
      rw [List.length_reverse, rngW_length]
      exact Nat.le_refl _
  | _ => exact p1.elim
/-- enumerate(x), zip(x, y) -/
def enumW : Nat → List W → List W
  | _, [] => []
  | k, x :: l => .tup [.int (k : Nat), x] :: enumW (k + 1) l
theorem enumW_at : ∀ {l : List W} {k i : Nat} {x : W}, l[i]? = some x → (enumW k l)[i]? = some (.tup [.int ((k + i : Nat) : Int), x])
  | [], _, _, _, h => by simp at h
  | x :: l, k, 0, y, h => by simp at h; subst h; rfl
  | x :: l, k, i + 1, y, h => by
    have := enumW_at (l := l) (k := k + 1) (i := i) (by simpa using h)
    simp only [enumW, List.getElem?_cons_succ]
    rw [this, show k + 1 + i = k + (i + 1) by omega]
theorem enumW_length : ∀ {l : List W} {k : Nat}, (enumW k l).length = l.length
  | [], _ => rfl
  | x :: l, k => by simp [enumW, enumW_length (l := l)]
theorem new_pair {G : Gx} {r : List Addr} {H : Hp} {st : Sto} {T : Addr} {x y : V} {w u : W} (sm : Sim G r H st) (hT : H T = none) (h1 : Rep G r H w x) (h2 : Rep G r H u y) : Stay H (upd H T (.tup [x, y])) ∧ Sim G r (upd H T (.tup [x, y])) st ∧ Rep G r (upd H T (.tup [x, y])) (.tup [w, u]) (.ref T) := by
  have g : Grow r H r (upd H T (.tup [x, y])) := Grow.same (Stay.new hT)
  exact ⟨g.stay, sm.tup hT, .tup (.inl (.inl upd_same)) (.cons (h1.grow g) (.cons (h2.grow g) .nil))⟩
theorem ite_list {G : Gx} {l : List W} {gd : GD} {a : Addr} {r : List Addr} {H : Hp} (h : ∀ r1 H1 st, Grow r H r1 H1 → Sim G r1 H1 st → gdOk gd st → ∃ vs, SqL G.K H1 a vs ∧ RepL G r1 H1 l vs) : ItR G (Ite G.K a) (enumW 0 l) gd r H where
  go := fun i r1 H1 st g sm hg hi => by
    obtain ⟨vs, q, k⟩ := h r1 H1 st g sm hg
    rw [enumW_length] at hi
    obtain ⟨v, h1, _⟩ := k.get (List.getElem?_eq_getElem hi)
    exact ⟨vs, v, q, h1⟩
  yld := fun i r1 H1 st x H' w g sm hg hw y => by
    obtain ⟨T, x', e, hT, eH, y⟩ := y
    subst e eH
    obtain ⟨vs, q, k⟩ := h r1 H1 st g sm hg
    have hi : i < l.length := by have := (List.getElem?_eq_some_iff.mp hw).1; rwa [enumW_length] at this
    rw [enumW_at (List.getElem?_eq_getElem hi)] at hw
    cases hw
    obtain ⟨v, h1, h2⟩ := k.get (List.getElem?_eq_getElem hi)
    have e := y vs q
    rw [h1] at e
    cases e
    rw [Nat.zero_add]
    exact new_pair sm hT (.int _) h2
  stop := fun r1 H1 st g sm hg => by
    obtain ⟨vs, q, k⟩ := h r1 H1 st g sm hg
    exact ⟨vs, q, by rw [enumW_length, k.length]; exact Nat.le_refl _⟩
theorem ite_tup {G : Gx} {l : List W} {gd : GD} {a : Addr} {r : List Addr} {H : Hp} (h : ∀ r1 H1 st, Grow r H r1 H1 → Sim G r1 H1 st → gdOk gd st → ∃ vs, SqT G.K H1 a vs ∧ RepL G r1 H1 l vs) : ItR G (IteT G.K a) (enumW 0 l) gd r H where
  go := fun i r1 H1 st g sm hg hi => by
    obtain ⟨vs, q, k⟩ := h r1 H1 st g sm hg
    rw [enumW_length] at hi
    obtain ⟨v, h1, _⟩ := k.get (List.getElem?_eq_getElem hi)
    exact ⟨vs, v, q, h1⟩
  yld := fun i r1 H1 st x H' w g sm hg hw y => by
    obtain ⟨T, x', e, hT, eH, y⟩ := y
    subst e eH
    obtain ⟨vs, q, k⟩ := h r1 H1 st g sm hg
    have hi : i < l.length := by have := (List.getElem?_eq_some_iff.mp hw).1; rwa [enumW_length] at this
    rw [enumW_at (List.getElem?_eq_getElem hi)] at hw
    cases hw
    obtain ⟨v, h1, h2⟩ := k.get (List.getElem?_eq_getElem hi)
    have e := y vs q
    rw [h1] at e
    cases e
    rw [Nat.zero_add]
    exact new_pair sm hT (.int _) h2
  stop := fun r1 H1 st g sm hg => by
    obtain ⟨vs, q, k⟩ := h r1 H1 st g sm hg
    exact ⟨vs, q, by rw [enumW_length, k.length]⟩
/-- what seqI tells stands while the guard stands -/
theorem seqI_stands {G : Gx} {r : List Addr} {H : Hp} {st : Sto} {x : W} {v : V} {l : List W} {gd : GD} (sm : Sim G r H st) (h : Rep G r H x v) (e : seqI st x = some (l, gd)) :
    (∃ a, v = .ref a ∧ (∃ vs, SqT G.K H a vs) ∧ ∀ r1 H1 st, Grow r H r1 H1 → Sim G r1 H1 st → gdOk gd st → ∃ vs, SqT G.K H1 a vs ∧ RepL G r1 H1 l vs) ∨
    (∃ a, v = .ref a ∧ (∃ vs, SqL G.K H a vs) ∧ ∀ r1 H1 st, Grow r H r1 H1 → Sim G r1 H1 st → gdOk gd st → ∃ vs, SqL G.K H1 a vs ∧ RepL G r1 H1 l vs) := by
  cases h with
  | @tup l2 a vs h k =>
    cases e
    exact .inl ⟨a, rfl, ⟨vs, h⟩, fun r1 H1 st g _ _ => ⟨vs, g.stay.sqt h, k.grow g⟩⟩
  | @rol l2 a vs h k =>
    cases e
    exact .inr ⟨a, rfl, ⟨vs, h.sq⟩, fun r1 H1 st g _ _ => ⟨vs, (g.stay.rol h).sq, k.grow g⟩⟩
  | @ref n a h =>
    simp only [seqI] at e
    split at e
    · rename_i l2 e2
      cases e
      obtain ⟨vs, e3, k⟩ := sm.got e2 h
      refine .inr ⟨a, rfl, ⟨vs, .inl (.inl e3)⟩, fun r1 H1 st g sm hg => ?_⟩
      obtain ⟨vs, e4, k⟩ := sm.got (show st[n]? = some (.lst l) from hg) (g.at h)
      exact ⟨vs, .inl (.inl e4), k⟩
    · cases e
  | _ => cases e
def wEnum : W → Sto → An (List W × GD) := fun x st => (optB (seqI st x) st).bind fun p _ => .ok (enumW 0 p.1, p.2) st
theorem i_enum {elts : List Expr} {kk : Nat} {tpos p : Pos} (hg : Gl X "enumerate") (hm : X.mg "enumerate" = none) (ha : PE X a (tE (gx X) Wx fa)) (hs : starEach [a] X.env = [(false, eval a X.env)] := by rfl) (hs' : starEach [a] X.env = (false, eval a X.env) :: starEach [] X.env := by rfl) : PI X (.Tuple elts kk tpos) (.Call (.Name "enumerate" p) [a] [] pos) (tI (gx X) Wx (fI1 wEnum fa)) := by
  refine ⟨fun pins s σ H R I h1 => ?_⟩
  obtain ⟨env, l, st, en, sm, p⟩ := h1
  refine Call_ (ld_blt I hg hm boot_enumerate (PyProof.Rows.callWith_type1 (thn ((pa_cons ha pa_nil hs').run pos pins s σ H (fun vs H1 => (∃ a, vs = [.ref a] ∧ (∃ xs, SqL X.K H1 a xs) ∧ R (Ite X.K a) H1) ∨ ∃ a, vs = [.ref a] ∧ (∃ xs, SqT X.K H1 a xs) ∧ R (IteT X.K a) H1) I
    ⟨env, l, st, en, sm, (Po.bind p).imp fun x l1 H1 g1 ⟨st1, sm1, _, p1⟩ vx rx => ?_⟩) fun us s1 ⟨vs, H1, I1, r1, q1⟩ => ?_) hs rfl))
  · unfold wEnum at p1
    cases e1 : seqI st1 x with
    | none => rw [e1] at p1; exact p1.elim
    | some pr =>
      obtain ⟨l', gd⟩ := pr
      rw [e1] at p1
      have q := Po.ok p1 sm1
      rcases seqI_stands sm1 rx e1 with ⟨a, rfl, h1, h2⟩ | ⟨a, rfl, h1, h2⟩
      · exact .inr ⟨a, rfl, h1, q _ (ite_tup h2)⟩
      · exact .inl ⟨a, rfl, h1, q _ (ite_list h2)⟩
  · have fresh : ∀ b ∈ [s1.heap.objs.size + 1, s1.heap.objs.size], FpOk X pins H1 b := fun b hb => by
      have e' : b = s1.heap.objs.size + 1 ∨ b = s1.heap.objs.size := by simpa using hb
      have hle : s1.heap.objs.size ≤ b := by
        rcases e' with z | z
        · rw [z]; exact Nat.le_add_right _ _
        · rw [z]; exact Nat.le_refl _
      exact I1.fpOk hle (I1.hok.fresh hle)
    rcases q1 with ⟨a, e, ⟨xs, hq⟩, q⟩ | ⟨a, e, ⟨xs, hq⟩, q⟩
    · subst e
      cases r1 with
      | cons r rr =>
        cases rr
        cases r
        obtain ⟨its, rv, p', hz⟩ := I1.list hq
        refine call_enumerate_list p'.isList fun h' he hit hsz hk => wpAny_pyIter_enum he ?_
        exact ⟨s1.heap.objs.size + 1, [s1.heap.objs.size + 1, s1.heap.objs.size], _, _, H1, rfl, I1.kept (t' := s1.toks) hk, turn_enum a (s1.heap.objs.size + 1) s1.heap.objs.size, ⟨⟨.none, he⟩, hit, Nat.succ_ne_self _⟩, fresh, q⟩
    · subst e
      cases r1 with
      | cons r rr =>
        cases rr
        cases r
        obtain ⟨its, rv, p', hz⟩ := I1.tuple hq
        refine sw_enum_begins (begins_tuple a its.toArray) p' fun h' he hit hsz hk => wpAny_pyIter_enum he ?_
        exact ⟨s1.heap.objs.size + 1, [s1.heap.objs.size + 1, s1.heap.objs.size], _, _, H1, rfl, I1.kept (t' := s1.toks) hk, turn_enumT a (s1.heap.objs.size + 1) s1.heap.objs.size, ⟨⟨.none, he⟩, ⟨_, hit, rfl, rfl⟩, Nat.succ_ne_self _⟩, fresh, q⟩
end
end Sw
/-! Sw8: for, while, comprehensions. -/
namespace Sw
open PySem PySem.Spec PyProof.Rows L2 RZ
open Classical in
/-- the turns of a for -/
noncomputable def forS (gd : GD) (g : FG) (body : FS) : List W → FS
  | [], env, st => if gdOk gd st then .nx env st else .bad
  | w :: ws, env, st => if gdOk gd st then (match g w env st with
    | .nx env1 st1 => (match body env1 st1 with
      | .nx env2 st2 => forS gd g body ws env2 st2
      | .ct env2 st2 => forS gd g body ws env2 st2
      | .bk env2 st2 => .nx env2 st2
      | o => o)
    | _ => .bad) else .bad
noncomputable def fFor (it : FI) (g : FG) (body : FS) : FS := fun env st => (it env st).toS env fun p st1 => forS p.2 g body p.1 env st1
theorem spo_ite {G : Gx} {Wx : WX} {D : Ends} {r : List Addr} {H : Hp} {c : Prop} {inst : Decidable c} {a : SA} (p : SPo G Wx D r H (if c then a else .bad)) : c ∧ SPo G Wx D r H a := by
  by_cases h : c
  · rw [if_pos h] at p
    exact ⟨h, p⟩
  · rw [if_neg h] at p
    exact p.elim
section
variable {X : Cx} {Wx : WX} {pos : Pos} {a b c e tg : Expr} {fa fb fc : FE} {ta tb : FT} {es : List Expr} {sa sb : FS} {body : List Stmt}
theorem s_for {iter : Expr} {fi : FI} {g : FG} (hp : PassesOwn (model X.prog X.w) X.A X.env X.xe) (hi : PI X tg iter (tI (gx X) Wx fi)) (hg : PG X tg (tG (gx X) g)) (hb : PSs X body (tS (gx X) Wx sa)) (hc : X.calm = true := by rfl)
    (hs : ∀ x, foldedSetIterable iter X.env x = pure x := by intro _; rfl) : PS X (.For tg iter body [] pos) (tS (gx X) Wx (fFor fi g sa)) := (ps_for hp hc hi hg hb hs).imp fun D s H h => by
  obtain ⟨env, l, st, en, sm, p⟩ := h
  refine ⟨env, l, st, en, sm, (SPo.toS en p).imp fun pr l1 H1 g1 ⟨st1, sm1, _, p1⟩ J it => ?_⟩
  obtain ⟨items, gd⟩ := pr
  refine ⟨fun i m σ H => ∃ env r st, m + i = items.length ∧ Grow l1 H1 r H ∧ EnR (gx X) r H env σ ∧ Sim (gx X) r H st ∧ SPo (gx X) Wx D r H (forS gd g sa (items.drop i) env st), ⟨items.length, env, l1, st1, rfl, Grow.refl _ _, en.grow g1, sm1, p1⟩, ?_⟩
  rintro i m σ H ⟨env, r, st, em, gr, en, sm, p⟩
  by_cases hi : i < items.length
  · rw [List.drop_eq_getElem_cons hi] at p
    simp only [forS] at p
    obtain ⟨hgd, p⟩ := spo_ite p
    refine .inr ⟨it.go i r H st gr sm hgd hi, fun σ H => ∃ env r st, Grow l1 H1 r H ∧ EnR (gx X) r H env σ ∧ Sim (gx X) r H st ∧ SPo (gx X) Wx D r H (forS gd g sa (items.drop (i + 1)) env st), fun σ' H' hN => ?_, fun x H' y => ?_⟩
    · obtain ⟨env, r, st, gr, en, sm, p⟩ := hN
      exact ⟨m - 1, by omega, env, r, st, by omega, gr, en, sm, p⟩
    · obtain ⟨sy, sm', rx⟩ := it.yld i r H st x H' items[i] gr sm hgd (List.getElem?_eq_getElem hi) y
      have g2 : Grow r H r H' := Grow.same sy
      refine ⟨items[i], env, r, st, rx, en.grow g2, sm', ?_⟩
      cases eg : g items[i] env st with
      | nx env1 st1 =>
        simp only [eg] at p
        intro r2 H2 σ2 g3 sm2 en2
        refine ⟨env1, r2, st1, en2, sm2, ?_⟩
        have gr2 : Grow l1 H1 r2 H2 := (gr.trans g2).trans g3
        have p := SPo.grow (g2.trans g3) p
        cases eb : sa env1 st1 with
        | nx env2 st2 =>
          simp only [eb] at p
          exact fun r3 H3 σ3 g4 sm3 en3 => ⟨env2, r3, st2, gr2.trans g4, en3, sm3, SPo.grow g4 p⟩
        | ct env2 st2 =>
          simp only [eb] at p
          exact fun r3 H3 σ3 g4 sm3 en3 => ⟨env2, r3, st2, gr2.trans g4, en3, sm3, SPo.grow g4 p⟩
        | bk env2 st2 => simp only [eb] at p; exact p
        | rt w st2 => simp only [eb] at p; exact p
        | ex C fs env2 st2 => simp only [eb] at p; exact p
        | bad => simp only [eb] at p; exact p
      | _ => simp only [eg] at p; exact p.elim
  · have ed : items.drop i = [] := List.drop_eq_nil_of_le (by omega)
    rw [ed] at p
    simp only [forS] at p
    obtain ⟨hgd, p⟩ := spo_ite p
    have ei : i = items.length := by omega
    subst ei
    exact .inl ⟨it.stop r H st gr sm hgd, p r H σ (Grow.refl _ _) sm en⟩
/-- while, of so many turns at most -/
def whS (t : FT) (body : FS) : Nat → FS
  | 0, _, _ => .bad
  | n + 1, env, st => (t env st).toS env fun k st1 => if k = true then (match body env st1 with
    | .nx env2 st2 => whS t body n env2 st2
    | .ct env2 st2 => whS t body n env2 st2
    | .bk env2 st2 => .nx env2 st2
    | o => o) else .nx env st1
theorem s_while {n : Nat} (hp : PassesOwn (model X.prog X.w) X.A X.env X.xe) (hc : PT X c (tT (gx X) Wx ta)) (hb : PSs X body (tS (gx X) Wx sa)) : PS X (.While c body [] pos) (tS (gx X) Wx (whS ta sa n)) := (ps_while hp hc hb).imp fun D s H h => by
  obtain ⟨env, l, st, en, sm, p⟩ := h
  refine ⟨fun m σ H => ∃ env r st, EnR (gx X) r H env σ ∧ Sim (gx X) r H st ∧ SPo (gx X) Wx D r H (whS ta sa m env st), ⟨n, env, l, st, en, sm, p⟩, ?_⟩
  rintro m σ H ⟨env, r, st, en, sm, p⟩
  cases m with
  | zero => exact p.elim
  | succ m =>
    refine ⟨env, r, st, en, sm, (SPo.toS en p).imp fun k r1 H1 g1 ⟨st1, sm1, _, p1⟩ => ?_⟩
    cases k with
    | false => exact iteF (by simp only [Bool.false_eq_true, if_false] at p1; exact p1 r1 H1 σ (Grow.refl _ _) sm1 (en.grow g1))
    | true =>
      simp only [if_true] at p1
      refine iteT ⟨fun σ H => ∃ env r st, EnR (gx X) r H env σ ∧ Sim (gx X) r H st ∧ SPo (gx X) Wx D r H (whS ta sa m env st), fun σ' H' hN => ⟨m, Nat.lt_succ_self m, hN⟩, env, r1, st1, en.grow g1, sm1, ?_⟩
      cases eb : sa env st1 with
      | nx env2 st2 =>
        simp only [eb] at p1
        exact fun r3 H3 σ3 g4 sm3 en3 => ⟨env2, r3, st2, en3, sm3, SPo.grow g4 p1⟩
      | ct env2 st2 =>
        simp only [eb] at p1
        exact fun r3 H3 σ3 g4 sm3 en3 => ⟨env2, r3, st2, en3, sm3, SPo.grow g4 p1⟩
      | bk env2 st2 => simp only [eb] at p1; exact p1
      | rt w st2 => simp only [eb] at p1; exact p1
      | ex C fs env2 st2 => simp only [eb] at p1; exact p1
      | bad => simp only [eb] at p1; exact p1

/-! ### zip of two lists, of two tuples -/
def zipW (l m : List W) : List W := (l.zip m).map fun p => .tup [p.1, p.2]
theorem zipW_at {l m : List W} {i : Nat} {x y : W} (h1 : l[i]? = some x) (h2 : m[i]? = some y) : (zipW l m)[i]? = some (.tup [x, y]) := by
  unfold zipW
  rw [List.getElem?_map, (List.getElem?_zip_eq_some (z := (x, y))).mpr ⟨h1, h2⟩]
  rfl
theorem zipW_length {l m : List W} : (zipW l m).length = min l.length m.length := by simp [zipW]
def wZip : List W → Sto → An (List W × GD)
  | [.tup l, .tup m], st => .ok (zipW l m, none) st
  | _, _ => .bad
theorem itz_tup {G : Gx} {l m : List W} {a b : Addr} {vs us : List V} {r : List Addr} {H : Hp} (h : SqT G.K H a vs) (k : RepL G r H l vs) (h' : SqT G.K H b us) (k' : RepL G r H m us) : ItR G (ItzT G.K a b) (zipW l m) none r H where
  go := fun i r1 H1 st g sm hg hi => by
    rw [zipW_length] at hi
    obtain ⟨v, h1, _⟩ := k.get (List.getElem?_eq_getElem (show i < l.length by omega))
    obtain ⟨u, h2, _⟩ := k'.get (List.getElem?_eq_getElem (show i < m.length by omega))
    exact ⟨vs, us, v, u, g.stay.sqt h, g.stay.sqt h', h1, h2⟩
  yld := fun i r1 H1 st x H' w g sm hg hw y => by
    obtain ⟨T, x', y', e, hT, eH, y1, y2⟩ := y
    subst e eH
    have hi : i < min l.length m.length := by have := (List.getElem?_eq_some_iff.mp hw).1; rwa [zipW_length] at this
    have hl := List.getElem?_eq_getElem (show i < l.length by omega)
    have hm := List.getElem?_eq_getElem (show i < m.length by omega)
    rw [zipW_at hl hm] at hw
    cases hw
    obtain ⟨v, h1, h2⟩ := k.get hl
    obtain ⟨u, h3, h4⟩ := k'.get hm
    have e1 := y1 vs (g.stay.sqt h)
    have e2 := y2 us (g.stay.sqt h')
    rw [h1] at e1
    rw [h3] at e2
    cases e1
    cases e2
    exact new_pair sm hT (h2.grow g) (h4.grow g)
  stop := fun r1 H1 st g sm hg => ⟨vs, us, g.stay.sqt h, g.stay.sqt h', by rw [zipW_length, k.length, k'.length]; omega⟩
theorem i_zip {elts : List Expr} {kk : Nat} {tpos p : Pos} {f : FA} (hg : Gl X "zip") (hm : X.mg "zip" = none) (ha : PA X [a, b] (tL (gx X) Wx f)) (hs : starEach [a, b] X.env = (false, eval a X.env) :: starEach [b] X.env := by rfl) (hpl : (backTo pos (starEach [b] X.env)).any (·.1) = false := by rfl) :
    PI X (.Tuple elts kk tpos) (.Call (.Name "zip" p) [a, b] [] pos) (tI (gx X) Wx (fIt wZip f)) := (pi_zipA hg hm ha hs hpl).imp fun s H R h => by
  obtain ⟨env, l, st, en, sm, p⟩ := h
  refine ⟨env, l, st, en, sm, (Po.bind p).imp fun x l1 H1 g1 ⟨st1, sm1, _, p1⟩ vx rx => ?_⟩
  cases rx with
  | nil => exact p1.elim
  | cons h k =>
    cases k with
    | nil => cases h <;> exact p1.elim
    | cons h2 k2 =>
      cases k2 with
      | cons _ _ => cases h <;> cases h2 <;> exact p1.elim
      | nil =>
        cases h with
        | @tup l2 a vs q k =>
          cases h2 with
          | @tup l3 b us q' k' => exact ⟨a, b, vs, us, rfl, .inr ⟨q, q', Po.ok p1 sm1 _ (itz_tup q k q' k')⟩⟩
          | _ => exact p1.elim
        | _ => cases h2 <;> exact p1.elim

/-! ### comprehensions -/
def An.noex {α : Type} (m : An α) : An α := match m with
  | .ok a st => .ok a st
  | _ => .bad
@[simp] theorem An.noex_ok {α : Type} (a : α) (st : Sto) : (An.ok a st).noex = .ok a st := rfl
theorem Po.noex {G : Gx} {Wx : WX} {s s' : L2.St} {α : Type} {P : α → List Addr → Hp → Prop} {r : List Addr} {H : Hp} {m : An α} (h : Po G Wx s P r H m.noex) : Po G W0 s' P r H m := by
  cases m with
  | ok a st => exact h
  | ex C fs st => exact h.elim
  | bad => exact h
def wipeW (env : En) : List Nat → En
  | [] => env
  | v :: vs => (wipeW env vs).set v none
theorem EnR.wipe {G : Gx} {r : List Addr} {H : Hp} {env : En} {s : L2.St} (h : EnR G r H env s) : ∀ vs : List Nat, EnR G r H (wipeW env vs) (wipe s vs)
  | [] => h
  | v :: vs => (EnR.wipe h vs).forget
open Classical in
/-- the turns of a comprehension whose list lies at n: bind sets the block's names -/
noncomputable def lcS (gd : GD) (bind : W → En → Option En) (t : FT) (f : FE) (n : Nat) (env : En) : List W → Sto → An Unit
  | [], st => if gdOk gd st then .ok () st else .bad
  | w :: ws, st => if gdOk gd st then (match bind w env with
    | some env1 => (t env1 st).noex.bind fun k st2 => if k = true then (f env1 st2).noex.bind fun y st3 => match st3[n]? with
        | some (.lst acc) => if acc.length < 100000 then lcS gd bind t f n env ws (st3.set n (.lst (acc ++ [y]))) else .bad
        | _ => .bad
      else lcS gd bind t f n env ws st2
    | none => .bad) else .bad
noncomputable def fLc (own : List Nat) (it : FI) (bind : W → En → Option En) (t : FT) (f : FE) : FE := fun env st => (it env st).bind fun p st1 => (lcS p.2 bind t f st1.length (wipeW env own) p.1 (st1 ++ [.lst []])).bind fun _ st2 => .ok (.ref st1.length) st2
/-- what a target of the block does -/
def BindOk (G : Gx) (own : List Nat) (g : TG) (bind : W → En → Option En) : Prop := ∀ (w : W) (v : V) (s : L2.St) (env env1 : En) (r : List Addr) (H : Hp) (Q : L2.St → Hp → Prop), Rep G r H w v → EnR G r H (wipeW env own) (wipe s own) → bind w (wipeW env own) = some env1 →
  (∀ s2, EnR G r H env1 s2 → wipe s2 own = wipe s own → Q s2 H) → g v (wipe s own) H Q
theorem lc_imp {G : Gx} {own : List Nat} {fi : FI} {g : TG} {bind : W → En → Option En} {t : FT} {f : FE} (hb : BindOk G own g bind) {s : L2.St} {H : Hp} {Q : VK} (h : tE G Wx (fLc own fi bind t f) s H Q) :
    tLc (tI G Wx fi) g (tT G W0 t) (tE G W0 f) own s H Q := by
  obtain ⟨env, l, st, en, sm, p⟩ := h
  refine ⟨env, l, st, en, sm, (Po.bind p).imp fun pr l1 H1 g1 ⟨st1, sm1, _, p1⟩ J it => ?_⟩
  obtain ⟨items, gd⟩ := pr
  intro D hD
  have gD : Grow l1 H1 (l1 ++ [D]) (upd H1 D (.lst [])) := Grow.one (Stay.new hD)
  have smD : Sim G (l1 ++ [D]) (upd H1 D (.lst [])) (st1 ++ [.lst []]) := sm1.newU hD ⟨[], upd_same, .nil⟩
  have hDn : (l1 ++ [D])[st1.length]? = some D := by rw [← sm1.len, List.getElem?_append_right (Nat.le_refl _)]; simp
  have p2 := (Po.bind (Po.grow gD p1))
  refine ⟨fun i m H => ∃ r st, m + i = items.length ∧ Grow (l1 ++ [D]) (upd H1 D (.lst [])) r H ∧ Sim G r H st ∧ Po G Wx s (fun _ r1 H1' => ∃ st2, Sim G r1 H1' st2 ∧ Grow r H r1 H1' ∧ Po G Wx s (fun w r' H' => ∀ v, Rep G r' H' w v → Q v H') r1 H1' (.ok (.ref st1.length) st2)) r H (lcS gd bind t f st1.length (wipeW env own) (items.drop i) st),
    ⟨items.length, l1 ++ [D], _, rfl, Grow.refl _ _, smD, p2.imp fun _ r' H' g' ⟨st2, q1, q2, q3⟩ => ⟨st2, q1, g', q3⟩⟩, ?_⟩
  rintro i m H ⟨r, st, em, gr, sm, p⟩
  by_cases hi : i < items.length
  · rw [List.drop_eq_getElem_cons hi] at p
    simp only [lcS] at p
    obtain ⟨hgd, p⟩ := ite_bad p
    have gr1 := gD.trans gr
    refine .inr ⟨it.go i r H st gr1 sm hgd hi, fun H => ∃ r st, Grow (l1 ++ [D]) (upd H1 D (.lst [])) r H ∧ Sim G r H st ∧ Po G Wx s (fun _ r1 H1' => ∃ st2, Sim G r1 H1' st2 ∧ Grow r H r1 H1' ∧ Po G Wx s (fun w r' H' => ∀ v, Rep G r' H' w v → Q v H') r1 H1' (.ok (.ref st1.length) st2)) r H (lcS gd bind t f st1.length (wipeW env own) (items.drop (i + 1)) st), fun H' hN => ?_, fun x H' y => ?_⟩
    · obtain ⟨r, st, gr, sm, p⟩ := hN
      exact ⟨m - 1, by omega, r, st, by omega, gr, sm, p⟩
    · obtain ⟨sy, sm', rx⟩ := it.yld i r H st x H' items[i] gr1 sm hgd (List.getElem?_eq_getElem hi) y
      have g2 : Grow r H r H' := Grow.same sy
      cases eg : bind items[i] (wipeW env own) with
      | none => simp only [eg] at p; exact p.elim
      | some env1 =>
        simp only [eg] at p
        have p := Po.grow g2 p
        have lift : ∀ {r1 : List Addr} {H1' : Hp} {m : An Unit}, Grow r H' r1 H1' → Po G Wx s (fun _ r2 H2 => ∃ st2, Sim G r2 H2 st2 ∧ Grow r H r2 H2 ∧ Po G Wx s (fun w r' H' => ∀ v, Rep G r' H' w v → Q v H') r2 H2 (.ok (.ref st1.length) st2)) r1 H1' m →
          Po G Wx s (fun _ r2 H2 => ∃ st2, Sim G r2 H2 st2 ∧ Grow r1 H1' r2 H2 ∧ Po G Wx s (fun w r' H' => ∀ v, Rep G r' H' w v → Q v H') r2 H2 (.ok (.ref st1.length) st2)) r1 H1' m := fun g3 q => q.imp fun _ r2 H2 g4 ⟨st2, q1, q2, q3⟩ => ⟨st2, q1, g4, q3⟩
        refine hb items[i] x s env env1 r H' _ rx (EnR.wipe (((en.grow g1).grow gr1).grow g2) own) eg fun s2 en2 ew => ⟨ew, env1, r, st, en2, sm', ?_⟩
        refine Po.noex ((Po.bind p).imp fun k r3 H3 g3 ⟨st3, sm3, _, p3⟩ => ?_)
        cases k with
        | false =>
          simp only [Bool.false_eq_true, if_false] at p3
          exact iteF ⟨r3, st3, (gr.trans g2).trans g3, sm3, lift g3 p3⟩
        | true =>
          simp only [if_true] at p3
          refine iteT ⟨env1, r3, st3, en2.grow g3, sm3, Po.noex ((Po.bind p3).imp fun yv r4 H4 g4 ⟨st4, sm4, _, p4⟩ vy ry => ?_)⟩
          have grD : Grow (l1 ++ [D]) (upd H1 D (.lst [])) r4 H4 := ((gr.trans g2).trans g3).trans g4
          split at p4
          · rename_i acc eacc
            obtain ⟨hz, p4⟩ := ite_bad p4
            obtain ⟨vs, e4, k4⟩ := sm4.got eacc (grD.at hDn)
            have sy4 : Stay H4 (upd H4 D (.lst (vs ++ [vy]))) := Stay.lst e4
            have g5 : Grow r4 H4 r4 (upd H4 D (.lst (vs ++ [vy]))) := Grow.same sy4
            have smn : Sim G r4 (upd H4 D (.lst (vs ++ [vy]))) (st4.set st1.length (.lst (acc ++ [yv]))) := sm4.put (grD.at hDn) e4 (fun _ z => by cases z) (fun _ z => by cases z) sy4 ⟨_, upd_same, (k4.append (.cons ry .nil)).grow g5⟩
            refine ⟨vs, e4, ?_, r4, _, grD.trans g5, smn, lift ((g3.trans g4).trans g5) (Po.grow g5 p4)⟩
            rw [← k4.length]
            exact Nat.lt_of_lt_of_le hz (by decide)
          · exact p4.elim
  · have ed : items.drop i = [] := List.drop_eq_nil_of_le (by omega)
    rw [ed] at p
    simp only [lcS] at p
    obtain ⟨hgd, p⟩ := ite_bad p
    have ei : i = items.length := by omega
    subst ei
    obtain ⟨st2, q1, q2, q3⟩ := Po.ok p sm
    exact .inl ⟨it.stop r H st (gD.trans gr) sm hgd, Po.ok q3 q1 _ (.ref (gr.at hDn))⟩
def bN (i : Nat) : W → En → Option En := fun w env => some (env.set i (some w))
theorem wipe_set1 (s : L2.St) (i : Nat) (v : V) : wipe ((wipe s [i]).set i (some v)) [i] = wipe s [i] := by
  simp [wipe]
theorem bind_name {G : Gx} {i : Nat} : BindOk G [i] (gName i) (bN i) := fun w v s env env1 r H Q rw' en e q => by
  cases e
  exact q _ (en.set rw') (wipe_set1 s i v)
def b2 (i j : Nat) : W → En → Option En := fun w env => match w with
  | .tup [x, y] => some ((env.set i (some x)).set j (some y))
  | _ => none
theorem wipe_set2 (s : L2.St) (i j : Nat) (v u : V) : wipe (((wipe s [i, j]).set i (some v)).set j (some u)) [i, j] = wipe s [i, j] := by
  simp only [wipe]
  apply List.ext_getElem?
  intro k
  simp only [List.getElem?_set, List.length_set]
  split <;> split <;> (try split) <;> (try split) <;> simp_all
theorem bind_two {G : Gx} {i j : Nat} : BindOk G [i, j] (gTup G.K 2 (gCons (gName i) (gCons (gName j) gNil))) (b2 i j) := fun w v s env env1 r H Q rw' en e q => by
  cases rw' with
  | tup h k =>
    cases k with
    | nil => cases e
    | cons h1 k =>
      cases k with
      | nil => cases e
      | cons h2 k =>
        cases k with
        | cons _ _ => cases e
        | nil =>
          cases e
          exact ⟨_, _, rfl, h, rfl, _, _, rfl, _, _, rfl, rfl, q _ ((en.set h1).set h2) (wipe_set2 s i j _ _)⟩
  | _ => cases e
def fYes : FT := fun _ st => .ok true st
theorem ts_nil {X : Cx} {Wx : WX} : PTs X [] (tT (gx X) Wx fYes) := ⟨fun pins s σ H Q I h => by
  obtain ⟨env, l, st, en, sm, p⟩ := h
  exact pts_nil.run pins s σ H Q I (Po.ok p sm)⟩
theorem ts_one {X : Cx} {Wx : WX} {c : Expr} {t : FT} (h : PT X c (tT (gx X) Wx t)) : PTs X [c] (tT (gx X) Wx t) := pts_one h
/-- [elt for x in iter if ..] -/
theorem e_lc {elt iter : Expr} {ifs : List Expr} {scope : Scope} {i : Nat} {x : Str} {fi : FI} {t : FT} {f : FE} {p : Pos} (hN : X.N.Nodup) (hi : PI X (.Name x p) iter (tI (gx X) Wx fi)) (ok : BlkOk X.N X.env.scope scope [(x, i)])
    (hg : ∀ (s : Shared) (H : Hp) (C : Addr) (cl : List (Str × Addr)) (fp : List Addr), PG (X.blk s H scope (compEnvC scope cl C X.env) fp) (.Name x p) (gName i)) (ht : ∀ (s : Shared) (H : Hp) (C : Addr) (cl : List (Str × Addr)) (fp : List Addr), PTs (X.blk s H scope (compEnvC scope cl C X.env) fp) ifs (tT (gx (X.blk s H scope (compEnvC scope cl C X.env) fp)) W0 t))
    (he : ∀ (s : Shared) (H : Hp) (C : Addr) (cl : List (Str × Addr)) (fp : List Addr), PE (X.blk s H scope (compEnvC scope cl C X.env) fp) elt (tE (gx (X.blk s H scope (compEnvC scope cl C X.env) fp)) W0 f)) (hc : X.calm = true := by rfl) (hs : ∀ x, foldedSetIterable iter X.env x = pure x := by intro _; rfl) :
    PE X (.ListComp elt [⟨.Name x p, iter, ifs, 0⟩] scope pos) (tE (gx X) Wx (fLc [i] fi (bN i) t f)) := (pe_lc hc hN hi ok hg ht he hs).imp fun s H Q h => lc_imp bind_name h
theorem e_lc2 {elt iter : Expr} {ifs : List Expr} {scope : Scope} {i j k : Nat} {x y : Str} {fi : FI} {t : FT} {f : FE} {p q u : Pos} (hN : X.N.Nodup) (hi : PI X (.Tuple [.Name x p, .Name y q] k u) iter (tI (gx X) Wx fi)) (ok : BlkOk X.N X.env.scope scope [(x, i), (y, j)])
    (hg : ∀ (s : Shared) (H : Hp) (C : Addr) (cl : List (Str × Addr)) (fp : List Addr), PG (X.blk s H scope (compEnvC scope cl C X.env) fp) (.Tuple [.Name x p, .Name y q] k u) (gTup X.K 2 (gCons (gName i) (gCons (gName j) gNil)))) (ht : ∀ (s : Shared) (H : Hp) (C : Addr) (cl : List (Str × Addr)) (fp : List Addr), PTs (X.blk s H scope (compEnvC scope cl C X.env) fp) ifs (tT (gx (X.blk s H scope (compEnvC scope cl C X.env) fp)) W0 t))
    (he : ∀ (s : Shared) (H : Hp) (C : Addr) (cl : List (Str × Addr)) (fp : List Addr), PE (X.blk s H scope (compEnvC scope cl C X.env) fp) elt (tE (gx (X.blk s H scope (compEnvC scope cl C X.env) fp)) W0 f)) (hc : X.calm = true := by rfl) (hs : ∀ x, foldedSetIterable iter X.env x = pure x := by intro _; rfl) :
    PE X (.ListComp elt [⟨.Tuple [.Name x p, .Name y q] k u, iter, ifs, 0⟩] scope pos) (tE (gx X) Wx (fLc [i, j] fi (b2 i j) t f)) := (pe_lc hc hN hi ok hg ht he hs).imp fun s H Q h => lc_imp bind_two h
/-- y = [elt for x in iter if ..] -/
theorem s_setLc {elt iter : Expr} {ifs : List Expr} {scope : Scope} {i n : Nat} {x y : Str} {fi : FI} {t : FT} {f : FE} {p py spos : Pos} (hN : X.N.Nodup) (hi : PI X (.Name x p) iter (tI (gx X) Wx fi)) (ok : BlkOk X.N X.env.scope scope [(x, i)])
    (hg : ∀ (s : Shared) (H : Hp) (C : Addr) (cl : List (Str × Addr)) (fp : List Addr), PG (X.blk s H scope (compEnvC scope cl C X.env) fp) (.Name x p) (gName i)) (ht : ∀ (s : Shared) (H : Hp) (C : Addr) (cl : List (Str × Addr)) (fp : List Addr), PTs (X.blk s H scope (compEnvC scope cl C X.env) fp) ifs (tT (gx (X.blk s H scope (compEnvC scope cl C X.env) fp)) W0 t))
    (he : ∀ (s : Shared) (H : Hp) (C : Addr) (cl : List (Str × Addr)) (fp : List Addr), PE (X.blk s H scope (compEnvC scope cl C X.env) fp) elt (tE (gx (X.blk s H scope (compEnvC scope cl C X.env) fp)) W0 f)) (hy : X.N[n]? = some y := by rfl) (hyl : X.env.scope.names.lookup y = some .local := by rfl)
    (hsw : swapsWith (.ListComp elt [⟨.Name x p, iter, ifs, 0⟩] scope pos) (some (.Name y py)) spos.line X.env = pure true := by exact sw_true rfl rfl rfl (by decide +kernel)) (hc : X.calm = true := by rfl) (hs : ∀ x, foldedSetIterable iter X.env x = pure x := by intro _; rfl) :
    PS X (.Assign [.Name y py] (.ListComp elt [⟨.Name x p, iter, ifs, 0⟩] scope pos) spos) (tS (gx X) Wx (fSet n (fLc [i] fi (bN i) t f))) := (ps_setLc hc hN hy hyl hsw hi ok hg ht he hs).imp fun D s H h => by
  obtain ⟨env, l, st, en, sm, p⟩ := h
  exact lc_imp bind_name ⟨env, l, st, en, sm, (SPo.toS en p).imp fun w l1 H1 g1 ⟨st1, sm1, _, p1⟩ v rv => p1 l1 H1 _ (Grow.refl _ _) sm1 ((en.grow g1).set rv)⟩
theorem s_setLc2 {elt iter : Expr} {ifs : List Expr} {scope : Scope} {i j n kk : Nat} {x x2 y : Str} {fi : FI} {t : FT} {f : FE} {p q u py spos : Pos} (hN : X.N.Nodup) (hi : PI X (.Tuple [.Name x p, .Name x2 q] kk u) iter (tI (gx X) Wx fi)) (ok : BlkOk X.N X.env.scope scope [(x, i), (x2, j)])
    (hg : ∀ (s : Shared) (H : Hp) (C : Addr) (cl : List (Str × Addr)) (fp : List Addr), PG (X.blk s H scope (compEnvC scope cl C X.env) fp) (.Tuple [.Name x p, .Name x2 q] kk u) (gTup X.K 2 (gCons (gName i) (gCons (gName j) gNil)))) (ht : ∀ (s : Shared) (H : Hp) (C : Addr) (cl : List (Str × Addr)) (fp : List Addr), PTs (X.blk s H scope (compEnvC scope cl C X.env) fp) ifs (tT (gx (X.blk s H scope (compEnvC scope cl C X.env) fp)) W0 t))
    (he : ∀ (s : Shared) (H : Hp) (C : Addr) (cl : List (Str × Addr)) (fp : List Addr), PE (X.blk s H scope (compEnvC scope cl C X.env) fp) elt (tE (gx (X.blk s H scope (compEnvC scope cl C X.env) fp)) W0 f)) (hy : X.N[n]? = some y := by rfl) (hyl : X.env.scope.names.lookup y = some .local := by rfl)
    (hsw : swapsWith (.ListComp elt [⟨.Tuple [.Name x p, .Name x2 q] kk u, iter, ifs, 0⟩] scope pos) (some (.Name y py)) spos.line X.env = pure true := by exact sw_true rfl rfl rfl (by decide +kernel)) (hc : X.calm = true := by rfl) (hs : ∀ x, foldedSetIterable iter X.env x = pure x := by intro _; rfl) :
    PS X (.Assign [.Name y py] (.ListComp elt [⟨.Tuple [.Name x p, .Name x2 q] kk u, iter, ifs, 0⟩] scope pos) spos) (tS (gx X) Wx (fSet n (fLc [i, j] fi (b2 i j) t f))) := (ps_setLc hc hN hy hyl hsw hi ok hg ht he hs).imp fun D s H h => by
  obtain ⟨env, l, st, en, sm, p⟩ := h
  exact lc_imp bind_two ⟨env, l, st, en, sm, (SPo.toS en p).imp fun w l1 H1 g1 ⟨st1, sm1, _, p1⟩ v rv => p1 l1 H1 _ (Grow.refl _ _) sm1 ((en.grow g1).set rv)⟩
end
end Sw
/-! Sw9: defs, calls of defs, raise, methods. -/
namespace Sw
open PySem PySem.Spec PyProof.Rows L2
abbrev FF := List W → Sto → An W
/-- what a def promises: it does as F says -/
def spF (G : Gx) (n : Nat) (F : FF) : Sp := fun vs H Q E => vs.length = n ∧ ∃ ws r st, RepL G r H ws vs ∧ Sim G r H st ∧ Po G (fun c d _ H' => E c d H') [] (fun w r' H' => ∀ v, Rep G r' H' w v → Q v H') r H (F ws st)
theorem Po.wx {G : Gx} {Wx Wx' : WX} {s s' : L2.St} {α : Type} {P : α → List Addr → Hp → Prop} {r : List Addr} {H : Hp} {m : An α} (h : Po G Wx s P r H m) (k : ∀ c d H', Wx c d s H' → Wx' c d s' H') : Po G Wx' s' P r H m := by
  cases m with
  | ok a st => exact h
  | ex C fs st => exact fun r' H' ca d g q x => k _ _ _ (h r' H' ca d g q x)
  | bad => exact h
def start (n : Nat) (ws : List W) : En := ws.map some ++ List.replicate (n - ws.length) none
def fRun (n : Nat) (f : FS) : FF := fun ws st => match f (start n ws) st with
  | .nx _ s => .ok .non s
  | .rt w s => .ok w s
  | .ex C fs _ s => .ex C fs s
  | _ => .bad
theorem start_at {G : Gx} {r : List Addr} {H : Hp} : ∀ {ws : List W} {vs : List V} (k : RepL G r H ws vs) (n : Nat) (i : Nat) (w : W), (ws.map some ++ List.replicate n none)[i]? = some (some w) → ∃ v, (vs.map some ++ List.replicate n none)[i]? = some (some v) ∧ Rep G r H w v
  | _, _, .nil, n, i, w, e => by
    simp only [List.map_nil, List.nil_append] at e
    rw [List.getElem?_replicate] at e
    split at e <;> cases e
  | _, _, .cons h k, n, 0, w, e => by
    cases e
    exact ⟨_, rfl, h⟩
  | _, _, .cons h k, n, i + 1, w, e => start_at k n i w (by simpa using e)
theorem en_start {G : Gx} {r : List Addr} {H : Hp} {ws : List W} {vs : List V} (k : RepL G r H ws vs) (N : List Str) : EnR G r H (start N.length ws) (L2.start N vs) := by
  refine ⟨?_, fun i w e => ?_⟩
  · unfold start L2.start
    simp [k.length]
  · unfold start at e
    unfold L2.start
    rw [← k.length]
    exact start_at k _ i w e
theorem fn_read {G : Gx} {N : List Str} {f : FS} {vs : List V} {H : Hp} {Q : VK} {E : XK} {n : Nat} (h : spF G n (fRun N.length f) vs H Q E) : tS G (fun c d _ H' => E c d H') f { nx := fun _ H' => Q .non H', rt := Q } (L2.start N vs) H := by
  obtain ⟨_, ws, r, st, k, sm, p⟩ := h
  refine ⟨start N.length ws, r, st, en_start k N, sm, ?_⟩
  unfold fRun at p
  cases e : f (start N.length ws) st with
  | nx env s => rw [e] at p; exact fun r' H' s' g q _ => p r' H' g q _ .non
  | rt w s => rw [e] at p; exact fun r' H' v g q x => p r' H' g q v x
  | ex C fs env s => rw [e] at p; exact fun r' H' s' ca d g q _ x => p r' H' ca d g q x
  | _ => rw [e] at p; exact p.elim
section
variable {P : Program} {w : World} {K : PySem.W.Frag} {mg : Str → Option Value} {base : Heap}
abbrev FnW (P : Program) (w : World) (K : PySem.W.Frag) (mg : Str → Option Value) (base : Heap) (k : Nat) (f : Addr) (fd : FuncData) (ps : List Str) (F : FF) : Prop := FnOk P w K mg base (L2.CX P w) k f fd ps (spF ⟨K, mg⟩ ps.length F)
/-- the context of a def's body -/
abbrev bx (P : Program) (w : World) (K : PySem.W.Frag) (mg : Str → Option Value) (base : Heap) (N : List Str) (qual : Str) (scope : Scope) (f : Addr) (cd : Value) (A : Around) (outer : List Env) (s : Shared) (H : Hp) (E : XK) : Cx := cxOf (L2.CX P w) P w K mg base N qual scope f cd A outer s H E
theorem fn_W {x qual : Str} {st : Stmt} {f : Addr} {fd : FuncData} {N ps : List Str} {k : Nat} {b : FS} (F : Fun K x qual st f fd) (S : FnScope N ps (defScope st))
    (h : ∀ (cdv : Value) (A : Around) (outer : List Env) (s : Shared) (H : Hp) (E : XK), Room k (A.deeper (envOfC qual (defScope st) s.heap.objs.size f cdv)) → Takes (bx P w K mg base N qual (defScope st) f cdv A outer s H E) (fun c d _ H' => E c d H') →
      PassesOwn (model P w) (bx P w K mg base N qual (defScope st) f cdv A outer s H E).A (bx P w K mg base N qual (defScope st) f cdv A outer s H E).env (bx P w K mg base N qual (defScope st) f cdv A outer s H E).xe →
      PSs (bx P w K mg base N qual (defScope st) f cdv A outer s H E) (defBody st) (tS ⟨K, mg⟩ (fun c d _ H' => E c d H') b)) : FnW P w K mg base (k + 1) f fd ps (fRun N.length b) :=
  F.okX S (fun vs H Q E h => h.1) fun cdv A outer s H vs Q E hr hs => ⟨_, h cdv A outer s H E hr (takes_of rfl rfl rfl rfl) (passes_of rfl), fn_read hs⟩
theorem fn_WD {x qual : Str} {params : Arguments} {body : List Stmt} {scope : Scope} {dvs : List V} {kws : List (Str × V)} {f : Addr} {fd : FuncData} {N ps : List Str} {k : Nat} {b : FS} (F : FunD K x qual params body scope dvs kws f fd) (S : FnScope N ps scope)
    (h : ∀ (cdv : Value) (A : Around) (outer : List Env) (s : Shared) (H : Hp) (E : XK), Room k (A.deeper (envOfC qual scope s.heap.objs.size f cdv)) → Takes (bx P w K mg base N qual scope f cdv A outer s H E) (fun c d _ H' => E c d H') →
      PassesOwn (model P w) (bx P w K mg base N qual scope f cdv A outer s H E).A (bx P w K mg base N qual scope f cdv A outer s H E).env (bx P w K mg base N qual scope f cdv A outer s H E).xe →
      PSs (bx P w K mg base N qual scope f cdv A outer s H E) body (tS ⟨K, mg⟩ (fun c d _ H' => E c d H') b)) : FnW P w K mg base (k + 1) f fd ps (fRun N.length b) :=
  F.ok S (fun vs H Q E h => h.1) fun cdv A outer s H vs Q E hr hs => ⟨_, h cdv A outer s H E hr (takes_of rfl rfl rfl rfl) (passes_of rfl), fn_read hs⟩
/-- another function that says the same where it says something -/
theorem FnW.imp {k : Nat} {f : Addr} {fd : FuncData} {ps : List Str} {F F' : FF} (h : FnW P w K mg base k f fd ps F) (e : ∀ ws st, F' ws st = F ws st ∨ F' ws st = .bad) : FnW P w K mg base k f fd ps F' := FnOk.imp h fun vs H Q E ⟨hl, ws, r, st, a, b, c⟩ => by
  refine ⟨hl, ws, r, st, a, b, ?_⟩
  rcases e ws st with q | q
  · rw [← q]; exact c
  · rw [q] at c; exact c.elim
end

/-! ### what was made within a call and isn't handed out is forgotten -/
mutual
/-- no object at n or later is named -/
def closedW (n : Nat) : W → Bool
  | .tup l => closedL n l
  | .rol l => closedL n l
  | .ref m => decide (m < n)
  | _ => true
def closedL (n : Nat) : List W → Bool
  | [] => true
  | w :: l => closedW n w && closedL n l
end
def closedO (n : Nat) : Ob → Bool
  | .lst l => closedL n l
  | .dct l => l.all fun p => closedW n p.2
  | .ins _ fs => fs.all fun p => closedW n p.2
  | .exc _ fs => fs.all fun p => closedW n p.2
  | .tab _ _ => true
mutual
theorem Rep.closed {G : Gx} {r : List Addr} {H : Hp} : ∀ {w : W} {v : V}, Rep G r H w v → closedW r.length w = true
  | _, _, .tup h k => by simp only [closedW]; exact RepL.closed k
  | _, _, .rol h k => by simp only [closedW]; exact RepL.closed k
  | _, _, .ref h => by simp only [closedW]; exact decide_eq_true (List.getElem?_eq_some_iff.mp h).1
  | _, _, .non => rfl
  | _, _, .bl _ => rfl
  | _, _, .int _ => rfl
  | _, _, .str _ => rfl
  | _, _, .ty _ => rfl
  | _, _, .gl _ => rfl
theorem RepL.closed {G : Gx} {r : List Addr} {H : Hp} : ∀ {w : List W} {v : List V}, RepL G r H w v → closedL r.length w = true
  | _, _, .nil => rfl
  | _, _, .cons h k => by simp only [closedL, Rep.closed h, RepL.closed k]; rfl
end
mutual
theorem Rep.back {G : Gx} {r t : List Addr} {H : Hp} : ∀ {w : W} {v : V}, Rep G (r ++ t) H w v → closedW r.length w = true → Rep G r H w v
  | _, _, .tup h k, c => .tup h (RepL.back k (by simpa only [closedW] using c))
  | _, _, .rol h k, c => .rol h (RepL.back k (by simpa only [closedW] using c))
  | _, _, .ref h, c => .ref (by rw [List.getElem?_append_left (by simpa only [closedW, decide_eq_true_eq] using c)] at h; exact h)
  | _, _, .non, _ => .non
  | _, _, .bl _, _ => .bl _
  | _, _, .int _, _ => .int _
  | _, _, .str _, _ => .str _
  | _, _, .ty _, _ => .ty _
  | _, _, .gl h, _ => .gl h
theorem RepL.back {G : Gx} {r t : List Addr} {H : Hp} : ∀ {w : List W} {v : List V}, RepL G (r ++ t) H w v → closedL r.length w = true → RepL G r H w v
  | _, _, .nil, _ => .nil
  | _, _, .cons h k, c => by
    simp only [closedL, Bool.and_eq_true] at c
    exact .cons (Rep.back h c.1) (RepL.back k c.2)
end
theorem RepD.closed {G : Gx} {r : List Addr} {H : Hp} {l : List (Key × W)} {vs : List (Key × V)} (h : RepD G r H l vs) : (l.all fun p => closedW r.length p.2) = true := by
  induction h with
  | nil => rfl
  | cons h _ ih => rw [List.all_cons, ih, h.closed]; rfl
theorem RepF.closed {G : Gx} {r : List Addr} {H : Hp} {l : Flds} {vs : List (Str × V)} (h : RepF G r H l vs) : (l.all fun p => closedW r.length p.2) = true := by
  induction h with
  | nil => rfl
  | cons h _ ih => rw [List.all_cons, ih, h.closed]; rfl
theorem RepD.back {G : Gx} {r t : List Addr} {H : Hp} {l : List (Key × W)} {vs : List (Key × V)} (h : RepD G (r ++ t) H l vs) (c : (l.all fun p => closedW r.length p.2) = true) : RepD G r H l vs := by
  induction h with
  | nil => exact .nil
  | cons h _ ih =>
    rw [List.all_cons, Bool.and_eq_true] at c
    exact .cons (h.back c.1) (ih c.2)
theorem RepF.back {G : Gx} {r t : List Addr} {H : Hp} {l : Flds} {vs : List (Str × V)} (h : RepF G (r ++ t) H l vs) (c : (l.all fun p => closedW r.length p.2) = true) : RepF G r H l vs := by
  induction h with
  | nil => exact .nil
  | cons h _ ih =>
    rw [List.all_cons, Bool.and_eq_true] at c
    exact .cons (h.back c.1) (ih c.2)
theorem ObR.closed {G : Gx} {r : List Addr} {H : Hp} {a : Addr} {o : Ob} (h : ObR G r H a o) : closedO r.length o = true := by
  cases o with
  | lst l => obtain ⟨vs, _, k⟩ := h; exact k.closed
  | dct l => obtain ⟨vs, _, k⟩ := h; exact k.closed
  | ins C fs => obtain ⟨_, _, _, _, _, k⟩ := h; exact k.closed
  | exc C fs =>
    obtain ⟨_, _, _, _, k⟩ := h
    rcases k with ⟨rfl, _⟩ | ⟨_, _, _, _, k⟩
    · rfl
    · exact k.closed
  | tab x q => rfl
theorem ObR.back {G : Gx} {r t : List Addr} {H : Hp} {a : Addr} {o : Ob} (h : ObR G (r ++ t) H a o) (c : closedO r.length o = true) : ObR G r H a o := by
  cases o with
  | lst l => obtain ⟨vs, e, k⟩ := h; exact ⟨vs, e, k.back c⟩
  | dct l => obtain ⟨vs, e, k⟩ := h; exact ⟨vs, e, k.back c⟩
  | ins C fs => obtain ⟨a, b, d, e, f, k⟩ := h; exact ⟨a, b, d, e, f, k.back c⟩
  | exc C fs =>
    obtain ⟨a, b, d, e, k⟩ := h
    refine ⟨a, b, d, e, ?_⟩
    rcases k with k | ⟨da, vs, e1, e2, k⟩
    · exact .inl k
    · exact .inr ⟨da, vs, e1, e2, k.back c⟩
  | tab x q => exact h
/-- the first n objects are enough -/
def Shut (n : Nat) (st st' : Sto) : Prop := n ≤ st'.length ∧ ∀ (i : Nat) (o : Ob), i < n → st'[i]? = some o → st[i]? = some o ∨ closedO n o = true
theorem Sim.cut {G : Gx} {r r' : List Addr} {H H' : Hp} {st st' : Sto} (s : Sim G r H st) (g : Grow r H r' H') (s' : Sim G r' H' st') (h : Shut st.length st st') : Sim G r H' (st'.take st.length) := by
  obtain ⟨t, rfl⟩ := g.pre
  refine ⟨by rw [List.length_take, s.len, Nat.min_eq_left h.1], s.nd, fun n o a e1 e2 => ?_⟩
  have hn : n < st.length := by rw [← s.len]; exact (List.getElem?_eq_some_iff.mp e2).1
  rw [List.getElem?_take_of_lt hn] at e1
  have e3 : (r ++ t)[n]? = some a := g.at e2
  have q := s'.ob n o a e1 e3
  refine q.back ?_
  rcases h.2 n o hn e1 with z | z
  · have := (s.ob n o a z e2).closed
    exact this
  · rw [s.len]; exact z
open Classical in
/-- F, all forgotten that is made within and named by nothing -/
noncomputable def clean (F : FF) : FF := fun ws st => match F ws st with
  | .ok w st' => if Shut st.length st st' ∧ closedW st.length w = true then .ok w (st'.take st.length) else .ok w st'
  | o => o
theorem clean_eq {F : FF} {ws : List W} {st st' : Sto} {w : W} (h : F ws st = .ok w st') (h1 : Shut st.length st st') (h2 : closedW st.length w = true) : clean F ws st = .ok w (st'.take st.length) := by
  unfold clean
  rw [h]
  exact if_pos ⟨h1, h2⟩
theorem clean_app {F : FF} {ws : List W} {st g : Sto} {w : W} (h : F ws st = .ok w (st ++ g)) (h2 : closedW st.length w = true) : clean F ws st = .ok w st := by
  rw [clean_eq h ⟨by simp, fun i o hi e => .inl (by rw [List.getElem?_append_left hi] at e; exact e)⟩ h2, List.take_left]
theorem clean_set {F : FF} {ws : List W} {st st1 g : Sto} {w : W} (h : F ws st = .ok w (st1 ++ g)) (hl : st1.length = st.length) (h1 : ∀ (i : Nat) (o : Ob), st1[i]? = some o → st[i]? = some o ∨ closedO st.length o = true) (h2 : closedW st.length w = true) : clean F ws st = .ok w st1 := by
  rw [clean_eq h ⟨by simp [hl], fun i o hi e => h1 i o (by rw [List.getElem?_append_left (by omega)] at e; exact e)⟩ h2, ← hl, List.take_left]
theorem clean_ex {F : FF} {ws : List W} {st st' : Sto} {C : Str} {fs : Flds} (h : F ws st = .ex C fs st') : clean F ws st = .ex C fs st' := by
  unfold clean
  rw [h]
section
variable {P : Program} {w : World} {K : PySem.W.Frag} {mg : Str → Option Value} {base : Heap}
theorem FnW.clean {k : Nat} {f : Addr} {fd : FuncData} {ps : List Str} {F : FF} (h : FnW P w K mg base k f fd ps F) : FnW P w K mg base k f fd ps (clean F) := FnOk.imp h fun vs H Q E ⟨hl, ws, r, st, a, b, c⟩ => by
  refine ⟨hl, ws, r, st, a, b, ?_⟩
  unfold Sw.clean at c
  cases e : F ws st with
  | ex C fs st' => rw [e] at c; exact c
  | bad => rw [e] at c; exact c
  | ok x st' =>
    rw [e] at c
    by_cases hs : Shut st.length st st' ∧ closedW st.length x = true
    · simp only [if_pos hs] at c
      intro r' H' g s' v rv
      have s2 := b.cut g s' hs.1
      refine c r H' (Grow.same g.stay) s2 v ?_
      obtain ⟨t, rfl⟩ := g.pre
      exact rv.back (by rw [b.len]; exact hs.2)
    · simp only [if_neg hs] at c
      exact c
end
section
variable {X : Cx} {Wx : WX} {pos p : Pos} {a b c e : Expr} {fa fb fc : FE} {es : List Expr} {k : Nat} {f : Addr} {fd : FuncData} {ps : List Str} {F : FF} {x : Str}
def fFn (n : Nat) (F : FF) (f : FA) : FE := fun env st => (f env st).bind fun ws st1 => if ws.length = n then F ws st1 else .bad
theorem fn_arg {s : L2.St} {H : Hp} {Q : VK} {f : FA} {n : Nat} (h : tE (gx X) Wx (fFn n F f) s H Q) : tL (gx X) Wx f s H fun vs H1 => spF (gx X) n F vs H1 Q (WE Wx s) := by
  obtain ⟨env, l, st, en, sm, p⟩ := h
  refine ⟨env, l, st, en, sm, (Po.bind p).imp fun ws l1 H1 g1 ⟨st1, sm1, _, p1⟩ vs rx => ?_⟩
  obtain ⟨hl, p1⟩ := ite_bad p1
  exact ⟨by rw [← rx.length]; exact hl, ws, l1, st1, rx, sm1, Po.wx p1 fun _ _ _ q => q⟩
theorem e_fn {g : FA} (Fk : FnW X.prog X.w X.K X.mg X.base k f fd ps F) (hr : Room k X.A) (hm : X.mg x = some (.ref f)) (hk : PySem.W.keepIn X.K (.ref f) = true) (hb : Binds X.K fd ps []) (tk : Takes X Wx) (ha : PA X (e :: es) (tL (gx X) Wx g)) (hg : Gl X x := by rfl) (hdb : (x == ("__debug__" : Str)) = false := by decide)
    (he : starEach (e :: es) X.env = (false, eval e X.env) :: starEach es X.env := by rfl) (hpl : (backTo pos (starEach es X.env)).any (·.1) = false := by rfl) : PE X (.Call (.Name x p) (e :: es) [] pos) (tE (gx X) Wx (fFn ps.length F g)) :=
  (pe_callS (E := WE Wx) Fk hr hg hm hk hb (fun σ => passAt tk σ) ha hdb he hpl).imp fun s H Q h => fn_arg h
/-- .. where defaults fill up -/
theorem e_fnD {g : FA} {dvs : List V} {dws : List W} {ds : List Value} (Fk : FnW X.prog X.w X.K X.mg X.base k f fd ps F) (hr : Room k X.A) (hm : X.mg x = some (.ref f)) (hk : PySem.W.keepIn X.K (.ref f) = true) (hb : Binds X.K fd ps ds) (hd : Vals dvs ds) (hdw : ∀ r H, RepL (gx X) r H dws dvs) (tk : Takes X Wx) (ha : PA X (e :: es) (tL (gx X) Wx g)) (hg : Gl X x := by rfl) (hdb : (x == ("__debug__" : Str)) = false := by decide)
    (he : starEach (e :: es) X.env = (false, eval e X.env) :: starEach es X.env := by rfl) (hpl : (backTo pos (starEach es X.env)).any (·.1) = false := by rfl) : PE X (.Call (.Name x p) (e :: es) [] pos) (tE (gx X) Wx (fFn ps.length F fun env st => (g env st).bind fun ws st1 => .ok (ws ++ dws) st1)) :=
  (pe_callSD (E := WE Wx) Fk hr hg hm hk hb hd (fun σ => passAt tk σ) ha hdb he hpl).imp fun s H Q h => by
    obtain ⟨env, l, st, en, sm, p⟩ := fn_arg h
    refine ⟨env, l, st, en, sm, (Po.bind p).imp fun ws l1 H1 g1 ⟨st1, sm1, _, p1⟩ vs rx => ?_⟩
    exact Po.ok p1 sm1 _ (rx.append (hdw _ _))
/-! ### raise C("..") -/
structure XCls (K : PySem.W.Frag) (mg : Str → Option Value) (x : Str) (C : Addr) : Prop where
  gC : mg x = some (.ref C)
  ex : PySem.W.excIn K C [.type "ValueError", .type "Exception", .type "BaseException", .type "object"] "ValueError.__new__" = true
  kp : PySem.W.keepIn K (.ref C) = true
  sb : PySem.W.subIn K (.ref C) (.type "BaseException") = some true
  ty : PySem.W.typeIn K (.ref C) = some (.type "type")
def fRaise (C : Str) : FS := fun env st => .ex C [] env st
theorem s_raise {m : Str} {j : Nat} {C : Addr} {p2 p3 : Pos} (xc : XCls X.K X.mg x C) (tk : Takes X Wx) (hg : Gl X x := by rfl) (hc : X.calm = true := by rfl) (hdb : (x == ("__debug__" : Str)) = false := by decide) : PS X (.Raise (some (.Call (.Name x p) [.Constant (.str m) j p2] [] p3)) none pos) (tS (gx X) Wx (fRaise x)) :=
  (ps_raise hc tk (pmk_own PySem.F.excBase_ValueError xc.ex xc.gC xc.kp (raises_own xc.sb xc.ty) hg hdb)).imp fun D s H h => by
    obtain ⟨env, l, st, en, sm, p⟩ := h
    exact p l H s (.ref C) none (Grow.refl _ _) sm en ⟨C, rfl, xc.gC, .inl ⟨rfl, rfl⟩⟩

/-! ### methods -/
/-- x.append(e) -/
def isLst (st : Sto) : W → Bool
  | .ref n => match st[n]? with
    | some (.lst _) => true
    | _ => false
  | _ => false
theorem isLst_rep {G : Gx} {r : List Addr} {H : Hp} {st : Sto} {x : W} {v : V} (sm : Sim G r H st) (h : Rep G r H x v) (e : isLst st x = true) : tyV G.K "list" v H := by
  cases h with
  | ref h =>
    simp only [isLst] at e
    split at e
    · rename_i hl
      obtain ⟨vs, e2, _⟩ := sm.got hl h
      exact .inl ⟨rfl, _, .inl (.inl e2)⟩
    · cases e
  | _ => cases e
def fMt (q : Sto → W → Bool) (g : W → List W → Sto → An W) (fo : FE) (fa : FA) : FE := fun env st => (fo env st).bind fun o st1 => if q st1 o = true then (fa env st1).bind fun ws st2 => g o ws st2 else .bad
def MtRf (G : Gx) (r : V → List V → Hp → VK → Prop) (g : W → List W → Sto → An W) : Prop := ∀ (o : W) (ws : List W) (st : Sto) (l : List Addr) (H : Hp) (vo : V) (vs : List V) (Q : VK) (Wx : WX) (s : L2.St), Sim G l H st → Rep G l H o vo → RepL G l H ws vs →
  Po G Wx s (fun w r' H' => ∀ v, Rep G r' H' w v → Q v H') l H (g o ws st) → r vo vs H Q
theorem mt_imp {T : String} {q : Sto → W → Bool} {g : W → List W → Sto → An W} {r : V → List V → Hp → VK → Prop} {f : FA} (hq : ∀ {l : List Addr} {H : Hp} {st : Sto} {o : W} {v : V}, Sim (gx X) l H st → Rep (gx X) l H o v → q st o = true → tyV X.K T v H) (hg : MtRf (gx X) r g) {s : L2.St} {H : Hp} {Q : VK}
    (h : tE (gx X) Wx (fMt q g fa f) s H Q) : tBM X.K T r (tE (gx X) Wx fa) (tL (gx X) Wx f) s H Q := by
  obtain ⟨env, l, st, en, sm, p⟩ := h
  refine ⟨env, l, st, en, sm, (Po.bind p).imp fun o l1 H1 g1 ⟨st1, sm1, _, p1⟩ vo ro => ?_⟩
  obtain ⟨hl, p1⟩ := ite_bad p1
  refine ⟨hq sm1 ro hl, env, l1, st1, en.grow g1, sm1, (Po.bind p1).imp fun ws l2 H2 g2 ⟨st2, sm2, _, p2⟩ vs rx => ?_⟩
  exact hg o ws st2 l2 H2 vo vs Q Wx s sm2 (ro.grow g2) rx p2
def wApp : W → List W → Sto → An W
  | .ref n, [w], st => match st[n]? with
    | some (.lst l) => if l.length < 100000 then .ok .non (st.set n (.lst (l ++ [w]))) else .bad
    | _ => .bad
  | _, _, _ => .bad
theorem rf_app {G : Gx} : MtRf G rAppend wApp := by
  intro o ws st l H vo vs Q Wx s sm ro rx p
  cases ro with
  | @ref n a h =>
    cases rx with
    | nil => exact p.elim
    | cons h1 k1 =>
      cases k1 with
      | cons _ _ => exact p.elim
      | nil =>
        simp only [wApp] at p
        split at p
        · rename_i l' hl
          obtain ⟨hz, p⟩ := ite_bad p
          obtain ⟨us, e2, kk⟩ := sm.got hl h
          have sy : ∀ v, Stay H (upd H a (.lst (us ++ [v]))) := fun v => Stay.lst e2
          refine ⟨a, us, _, rfl, rfl, e2, ?_, p l _ (Grow.same (sy _)) (sm.put h e2 (fun _ z => by cases z) (fun _ z => by cases z) (sy _) ⟨_, upd_same, (kk.append (.cons h1 .nil)).grow (Grow.same (sy _))⟩) _ .non⟩
          rw [← kk.length]
          exact Nat.lt_of_lt_of_le hz (by decide)
        · exact p.elim
  | _ => exact p.elim
theorem e_app {o : Expr} {apos : Pos} {g : FA} {pl : Sem Bool} (ho : PE X o (tE (gx X) Wx fa)) (ha : PA X (e :: es) (tL (gx X) Wx g)) (h : PE X (.Call (.Attribute o "append" apos) (e :: es) [] pos) (tBM X.K "list" rAppend (tE (gx X) Wx fa) (tL (gx X) Wx g))) : PE X (.Call (.Attribute o "append" apos) (e :: es) [] pos) (tE (gx X) Wx (fMt isLst wApp fa g)) :=
  h.imp fun s H Q h => mt_imp isLst_rep rf_app h
end
end Sw
/-! SwI: isinstance. -/
namespace PySem.W
open PySem PySem.Spec PySem.Calls PyProof.Rows
section
variable {prog : Program} {w : World} {A : Around} {E : Value → Shared → Prop} {s : Shared} {K : Frag} {x D : Addr} {ox : Obj} {od : Option Obj}
theorem sw_findObj {C : Addr} {name : Str} {a g : Value} (hc : (clsIn K C).isSome = true) (ha : findIn K (.ref C) name = some (some a)) (hg : specialIn K a "__get__" = some (some g)) (ht : takesIn K a = some true) : findObj K C od name = some (.bind g a) := by
  obtain ⟨cd, hc⟩ := Option.isSome_iff_exists.mp hc
  unfold findObj
  rw [hc, Option.bind_some, ha, Option.bind_some]
  simp [hg, ht]
/-- __class__ of an exception of an own class, with or without fields -/
theorem sw_kin {Q : Option Value → Shared → Prop} (C : L2.ExcC K D) (X : K.In s.heap) (I : InstAt s.heap x ox D od) (h : Q (some (.ref D)) { s with toks := s.toks + 1 }) : wpAny (model prog w) A (getAttr? (.ref x) "__class__") Q E s := by
  obtain ⟨hga, hgt, hsub, hdct, ha, hn, htk, hm⟩ := C
  have hf : findObj K D od "__class__" = some (.bind (.builtin "getset_descriptor.__get__") (.builtin "object.__class__")) := sw_findObj (by obtain ⟨cd, hc, _⟩ := any_some hdct; rw [hc]; rfl) ha hn htk
  obtain ⟨hp, g, d, t, os⟩ := s
  have L0 := I.type (M := model prog w)
  have L1 := looks_findIn (M := model prog w) X hga
  have L2 := looks_findIn (M := model prog w) X hgt
  have L3 := looks_find (M := model prog w) X I hf
  have sub : Looks (model prog w) hp (isInstance (.ref x) (.type "BaseException")) true := L0.andThen (looks_subIn X hsub)
  have hx0 : (false && onTheHeap (Value.builtin "BaseException.__getattribute__")) = false := rfl
  have hx2 : (Value.builtin "BaseException.__getattribute__" == Value.builtin "object.__getattribute__") = false := by decide +kernel
  have hx1 : (onTheHeap (Value.ref D) && Value.builtin "BaseException.__getattribute__" == Value.builtin "object.__getattribute__") = false := by rw [hx2]; rfl
  unfold getAttr? getAttrBy? getAttrBy
  refine wpAny_bind (wpAny_mkText (wpAny_bind (wpAny_attempt (wpAny_holding (wpAny_bind (L0.at (wpAny_bind (L1.at ?_))))))))
  show wpAny _ _ (if (onTheHeap (Value.ref D) && Value.builtin "BaseException.__getattribute__" == Value.builtin "object.__getattribute__") = true then _ else _) _ _ _
  rw [hx1, if_neg Bool.false_ne_true]
  unfold getAttrByItsOwn hookBefore
  refine wpAny_bind ?_
  rw [if_pos (show onTheHeap (Value.ref D) = true from rfl)]
  refine L2.at ?_
  refine wpAny_bind (wpAny_attempt (wpAny_holding ?_))
  unfold callGetattribute
  rw [hx0, if_neg Bool.false_ne_true]
  unfold boundAndCalled
  rw [PySem.F.excAttr_ValueError.ga.bind (.ref x)]
  refine wpAny_bind (wpAny_pure ?_)
  show wpAny _ _ (call (.builtin "BaseException.__getattribute__") [.ref x, .str "__class__" t]) _ _ _
  refine wpAny_call (codeAny_call_builtin PySem.F.excAttr_ValueError.ga.plain PySem.F.entry_bexc_ga ?_)
  refine @check_slot (model prog w) _ _ ⟨hp, g, d, t + 1, os⟩ "BaseException.__getattribute__" "BaseException" "__getattribute__" (.ref x) [.str "__class__" t] [] _ (by decide +kernel) (by decide +kernel) sub (PySem.F.args_bexc_ga (.ref x) (.str "__class__" t)) ?_
  unfold Builtin.«object.__getattribute__»
  refine wpAny_bind (wpAny_of_eq (a := ((Value.ref x : Value), [Value.str "__class__" t])) (by first | rfl | (simp only [slotArgs]; rfl)) ?_)
  refine wpAny_bind (wpAny_pure (wpAny_bind (L0.at (wpAny_bind (L3.at ?_)))))
  show wpAny _ _ (holding [Value.builtin "object.__class__"] (call (.builtin "getset_descriptor.__get__") [.builtin "object.__class__", .ref x, .ref D]) >>= ret) _ _ _
  refine wpAny_bind (wpAny_holding (wpAny_call (class_get (s := ⟨hp, g, d, t + 1, os⟩) (ox := ox) (od := od) X I hm ?_)))
  refine wpAny_pure ?_
  show wpAny _ _ (handedOut (.ref D)) _ _ _
  rw [handedOut_of (v := .ref D) rfl]
  first
    | exact wpAny_pure (wpAny_pure h)
    | exact wpAny_pure h
    | exact wpAny_pure (wpAny_bind (wpAny_pure (wpAny_pure h)))
theorem sw_kitx (C : L2.ExcC K D) : KitX K (.ref x) (.ref D) (fun h => ∃ ox od, InstAt h x ox D od) where
  ty := fun _ _ _ ⟨_, _, I⟩ => I.type
  it := fun _ _ X _ => by
    obtain ⟨cdD, hcD, _⟩ := any_some C.hd
    unfold clsIn at hcD
    split at hcD
    · rename_i c' d' cd' sl' ho
      intro A' Q' E' s' k q
      unfold isType loadHead
      exact wpAny_bind (wpAny_loadPart (k _ _ (X _ _ ho)) (wpAny_pure q))
    · cases hcD
  ne := fun h tp dd its n sl X htp => by
    obtain ⟨cdD, hcD, _⟩ := any_some C.hd
    refine Bool.eq_false_iff.mpr fun q => ?_
    have e : D = tp := Value.ref.inj (beq_iff_eq.mp q)
    subst e
    unfold clsIn at hcD
    split at hcD
    · rename_i c' d' cd' sl' ho
      have z := (X _ _ ho).symm.trans htp
      cases z
    · cases hcD
  ca := fun X ⟨_, _, I⟩ k => sw_kin C X I k
end
end PySem.W
namespace Sw
open PySem PySem.Spec PyProof.Rows L2
/-- a value's type -/
inductive TyW (K : PySem.W.Frag) (H : Hp) : V → Value → Prop where
  | base {x : V} {t : Value} (h : TyX K H x t) : TyW K H x t
  | exc {a C : Addr} {d : Option Addr} (e : H a = some (.ext (excAt (.ref C) d a))) (k : d = none ∨ ∃ da vs, d = some da ∧ H da = some (.xd vs)) (c : ExcC K C) : TyW K H (.ref a) (.ref C)
section
variable {X : Cx} {pins : List (Addr × Obj)} {σ : L2.St} {H : Hp} {s : Shared}
theorem kitW_of {x : V} {u t : Value} (I : Inv X pins σ H s) (rx : RelV x u) (ty : TyW X.K H x t) : ∃ P : Heap → Prop, PySem.W.KitX X.K u t P ∧ P s.heap ∧ u ≠ .builtin "__main__.__loader__#opaque" := by
  cases ty with
  | base h => exact kit_of I rx h
  | @exc a C d e k c =>
    cases (show u = Value.ref a from rx)
    refine ⟨_, PySem.W.sw_kitx c, ?_, fun z => nomatch z⟩
    obtain ⟨o, vs, h1, h2, h3, h4⟩ := (I.hok a _ e).1
    rcases k with rfl | ⟨da, fs, rfl, e2⟩
    · exact ⟨o, none, h1, h2, by unfold PySem.W.notCls; rw [h4] <;> rfl, by rw [h3] <;> trivial⟩
    · obtain ⟨mA, hns, hr⟩ := (show ObjOk X.prog X.w H s.heap da (.xd fs) from I.hok da _ e2)
      obtain ⟨od, es, ep, ho, _⟩ := hns
      exact ⟨o, some od, h1, h2, by unfold PySem.W.notCls; rw [h4] <;> rfl, by rw [h3]; exact ho⟩
end
def rIsiW (K : PySem.W.Frag) : List V → Hp → VK → Prop := fun xs H Q =>
  (∃ (x c : V) (t u : Value) (b : Bool), xs = [x, c] ∧ ClsV c u ∧ TyW K H x t ∧ PySem.W.kitOne K t u = some b ∧ Q (.bl b) H) ∨
  ∃ (x : V) (tp : Addr) (cs : List V) (t : Value) (us : List Value) (b : Bool), xs = [x, .ref tp] ∧ SqT K H tp cs ∧ Paired ClsV cs us ∧ TyW K H x t ∧ PySem.W.kitAny K t us = some b ∧ Q (.bl b) H
theorem cr_isiW {X : Cx} : CallR X (.builtin "isinstance") (rIsiW X.K) := by
  intro pins s σ H xs us Q I r h
  rcases h with ⟨x, c, t, u, b, rfl, k, ty, e, q⟩ | ⟨x, tp, cs, t, ws, b, rfl, hT, k, ty, e, q⟩
  · obtain ⟨u1, u2, rfl, r1, r2⟩ := vals2 r
    have e2 := k.eq r2
    subst e2
    obtain ⟨P, Z, p, hx⟩ := kitW_of I r1 ty
    exact PySem.W.kia_one Z I.kIn p e hx fun tk => ⟨.bl b, H, I.tok tk, rfl, q⟩
  · obtain ⟨u1, u2, rfl, r1, r2⟩ := vals2 r
    cases (show u2 = Value.ref tp from r2)
    obtain ⟨P, Z, p, hx⟩ := kitW_of I r1 ty
    obtain ⟨its, rv, ⟨o, h1, h2, n, h3⟩, _⟩ := I.tuple hT
    have e3 := ClsV.all k rv
    subst e3
    obtain ⟨oc, od, dt, sl⟩ := o
    simp only at h2 h3
    subst h2 h3
    exact PySem.W.kia_tup Z I.kIn p h1 e hx fun tk => ⟨.bl b, H, I.tok tk, rfl, q⟩

/-! ### the plain side -/
/-- a type: a built-in one, an own class -/
inductive Tg where
  | b (n : String) | c (C : Str)
def tgOf (xc : Str → Bool) (st : Sto) : W → Option Tg
  | .non => some (.b "NoneType")
  | .bl _ => some (.b "bool")
  | .int _ => some (.b "int")
  | .str _ => some (.b "str")
  | .tup _ => some (.b "tuple")
  | .rol _ => some (.b "list")
  | .ref n => match st[n]? with
    | some (.lst _) => some (.b "list")
    | some (.dct _) => some (.b "dict")
    | some (.exc C _) => if xc C = true then some (.c C) else none
    | _ => none
  | _ => none
def tgT : W → Option Tg
  | .ty n => some (.b n)
  | .gl x => some (.c x)
  | _ => none
inductive TgV (G : Gx) : Tg → Value → Prop where
  | b (n : String) : TgV G (.b n) (.type n)
  | c {C : Str} {a : Addr} (h : G.mg C = some (.ref a)) : TgV G (.c C) (.ref a)
structure Isi (G : Gx) (tab : Tg → Tg → Option Bool) (xc : Str → Bool) : Prop where
  one : ∀ t c b, tab t c = some b → ∀ tv cv, TgV G t tv → TgV G c cv → PySem.W.kitOne G.K tv cv = some b
  exc : ∀ C, xc C = true → ∀ Ca, G.mg C = some (.ref Ca) → ExcC G.K Ca
def anyTab (tab : Tg → Tg → Option Bool) (t : Tg) : List W → Option Bool
  | [] => some false
  | c :: r => match tgT c with
    | none => none
    | some cc => match tab t cc with
      | some true => some true
      | some false => anyTab tab t r
      | none => none
def wIsi (tab : Tg → Tg → Option Bool) (xc : Str → Bool) : List W → Sto → An W
  | [x, .tup l], st => if l.all (fun c => (tgT c).isSome) = true then (match tgOf xc st x with
    | some t => (match anyTab tab t l with
      | some b => .ok (.bl b) st
      | none => .bad)
    | none => .bad) else .bad
  | [x, c], st => match tgOf xc st x, tgT c with
    | some t, some cc => (match tab t cc with
      | some b => .ok (.bl b) st
      | none => .bad)
    | _, _ => .bad
  | _, _ => .bad
theorem tgT_rep {G : Gx} {r : List Addr} {H : Hp} {c : W} {v : V} {t : Tg} (h : Rep G r H c v) (e : tgT c = some t) : ∃ u, ClsV v u ∧ TgV G t u := by
  cases h with
  | ty n => cases e; exact ⟨_, .ty n, .b n⟩
  | gl q => cases e; exact ⟨_, .own _, .c q⟩
  | _ => cases e
theorem tgOf_rep {G : Gx} {tab : Tg → Tg → Option Bool} {xc : Str → Bool} (T : Isi G tab xc) {r : List Addr} {H : Hp} {st : Sto} {x : W} {v : V} {t : Tg} (sm : Sim G r H st) (h : Rep G r H x v) (e : tgOf xc st x = some t) : ∃ u, TyW G.K H v u ∧ TgV G t u := by
  cases h with
  | non => cases e; exact ⟨_, .base (.base .non), .b _⟩
  | bl b => cases e; exact ⟨_, .base (.base (.bl b)), .b _⟩
  | int b => cases e; exact ⟨_, .base (.base (.int b)), .b _⟩
  | str b => cases e; exact ⟨_, .base (.base (.str b)), .b _⟩
  | ty b => cases e
  | gl b => cases e
  | tup q k =>
    cases e
    rcases q with (q | ⟨o, q⟩) | ⟨o, its, n, q, c, _⟩
    · exact ⟨_, .base (.base (.tup q)), .b _⟩
    · exact ⟨_, .base (.fTuple q), .b _⟩
    · exact ⟨_, .base (.kTuple q c), .b _⟩
  | rol q k =>
    cases e
    rcases q with ⟨o, q⟩ | ⟨o, its, n, q, c, _⟩
    · exact ⟨_, .base (.base (.frz q)), .b _⟩
    · exact ⟨_, .base (.kList q c), .b _⟩
  | ref q =>
    simp only [tgOf] at e
    split at e
    · rename_i l hl
      cases e
      obtain ⟨vs, e2, _⟩ := sm.got hl q
      exact ⟨_, .base (.base (.lst e2)), .b _⟩
    · rename_i l hl
      cases e
      obtain ⟨vs, e2, _⟩ := sm.got hl q
      exact ⟨_, .base (.base (.dK e2)), .b _⟩
    · rename_i C fs hl
      split at e
      · rename_i hx
        cases e
        obtain ⟨Ca, d, m, e2, k⟩ := sm.got hl q
        refine ⟨_, .exc e2 ?_ (T.exc C hx Ca m), .c m⟩
        rcases k with ⟨_, k⟩ | ⟨da, vs, k1, k2, _⟩
        · exact .inl k
        · exact .inr ⟨da, vs, k1, k2⟩
      · cases e
    · cases e
theorem anyTab_ok {G : Gx} {tab : Tg → Tg → Option Bool} {xc : Str → Bool} (T : Isi G tab xc) {t : Tg} {tv : Value} (ht : TgV G t tv) {us : List Value} : ∀ {l : List W} {b : Bool}, anyTab tab t l = some b → Paired (fun c u => ∀ cc, tgT c = some cc → TgV G cc u) l us → PySem.W.kitAny G.K tv us = some b
  | [], b, e, .nil => by cases e; rfl
  | c :: r, b, e, .cons h k => by
    simp only [anyTab] at e
    split at e
    · cases e
    · rename_i cc hc
      split at e
      · rename_i hb
        cases e
        exact kitAny_cons (T.one _ _ _ hb _ _ ht (h _ hc)) (fun z => nomatch z) (fun _ => rfl)
      · rename_i hb
        exact kitAny_cons (T.one _ _ _ hb _ _ ht (h _ hc)) (fun _ => anyTab_ok T ht e k) (fun z => nomatch z)
      · cases e
theorem tgTs_rep {G : Gx} {r : List Addr} {H : Hp} : ∀ {l : List W} {vs : List V}, RepL G r H l vs → l.all (fun c => (tgT c).isSome) = true → ∃ us, Paired ClsV vs us ∧ Paired (fun c u => ∀ cc, tgT c = some cc → TgV G cc u) l us
  | _, _, .nil, _ => ⟨[], .nil, .nil⟩
  | _, _, .cons h k, e => by
    rw [List.all_cons, Bool.and_eq_true] at e
    obtain ⟨t, ht⟩ := Option.isSome_iff_exists.mp e.1
    obtain ⟨u, a, b⟩ := tgT_rep h ht
    obtain ⟨us, c, d⟩ := tgTs_rep k e.2
    exact ⟨u :: us, .cons a c, .cons (fun cc hc => by rw [ht] at hc; cases hc; exact b) d⟩
theorem rf_isi {G : Gx} {tab : Tg → Tg → Option Bool} {xc : Str → Bool} (T : Isi G tab xc) : CaRf G (rIsiW G.K) (wIsi tab xc) := by
  intro ws st l H vs Q Wx s sm rx p
  cases rx with
  | nil => exact p.elim
  | @cons w1 v1 _ _ h k =>
    cases k with
    | nil => exact absurd p (by unfold wIsi; exact id)
    | @cons w2 v2 _ _ h2 k2 =>
      cases k2 with
      | @cons w3 v3 ws3 _ _ _ =>
        have e0 : wIsi tab xc (w1 :: w2 :: w3 :: ws3) st = .bad := by unfold wIsi; cases w2 <;> rfl
        rw [e0] at p
        exact p.elim
      | nil =>
        by_cases ht : ∃ l, w2 = .tup l
        · obtain ⟨cs, rfl⟩ := ht
          simp only [wIsi] at p
          split at p
          · rename_i hall
            split at p
            · rename_i t e1
              split at p
              · rename_i b e2
                cases h2 with
                | tup q kk =>
                  obtain ⟨us, a, b'⟩ := tgTs_rep kk hall
                  obtain ⟨tv, ty, tg⟩ := tgOf_rep T sm h e1
                  exact .inr ⟨_, _, _, tv, us, b, rfl, q, a, ty, anyTab_ok T tg e2 b', Po.ok p sm _ (.bl b)⟩
              · exact p.elim
            · exact p.elim
          · exact p.elim
        · have e0 : wIsi tab xc [w1, w2] st = (match tgOf xc st w1, tgT w2 with
            | some t, some cc => (match tab t cc with
              | some b => .ok (.bl b) st
              | none => .bad)
            | _, _ => .bad) := by
            unfold wIsi
            cases w2 with
            | tup l => exact absurd ⟨l, rfl⟩ ht
            | _ => rfl
          rw [e0] at p
          split at p
          · rename_i t cc e1 e2
            split at p
            · rename_i b e3
              obtain ⟨tv, ty, tg⟩ := tgOf_rep T sm h e1
              obtain ⟨u, a, b'⟩ := tgT_rep h2 e2
              exact .inl ⟨_, _, tv, u, b, rfl, a, ty, T.one _ _ _ e3 _ _ tg b', Po.ok p sm _ (.bl b)⟩
            · exact p.elim
          · exact p.elim
end Sw
/-! SwX: exceptions as values; classes with fields; try. -/
namespace Sw
open PySem PySem.Spec PyProof.Rows L2
/-- what is new beside all else -/
theorem Sim.more {G : Gx} {r : List Addr} {H H' : Hp} {st : Sto} (s : Sim G r H st) (k : ∀ c u, H c = some u → H' c = some u) : Sim G r H' st := by
  have g : Grow r H r H' := Grow.same fun a => ⟨fun xs e => k _ _ e, fun o u e => k _ _ e⟩
  exact ⟨s.len, s.nd, fun n ob a e1 e2 => (s.ob n ob a e1 e2).keep g fun c u _ e => k c u e⟩
theorem Grow.more {r : List Addr} {H H' : Hp} (k : ∀ c u, H c = some u → H' c = some u) : Grow r H r H' := Grow.same fun a => ⟨fun xs e => k _ _ e, fun o u e => k _ _ e⟩
theorem Stay.more {H H' : Hp} (k : ∀ c u, H c = some u → H' c = some u) : Stay H H' := fun a => ⟨fun xs e => k _ _ e, fun o u e => k _ _ e⟩
theorem excAt_ok {P : Program} {w : World} {H : Hp} {h : Heap} {a : Addr} {cls : Value} {d : Option Addr} {oe : Obj} {vs : Array Value} (e : h.get? a = some oe) (z : Zc cls d oe) (q : oe.data = .fields vs) : ObjOk P w H h a (.ext (excAt cls d a)) :=
  ⟨⟨oe, vs, e, z.1, z.2, q⟩, ⟨oe, e⟩, fun _ _ ⟨o, v, p, r⟩ k => ⟨o, v, k o p, r⟩⟩
section
variable {X : Cx} {Wx : WX} {pos p : Pos} {x : Str} {e : Expr} {es : List Expr} {fa : FE} {C : Addr}
/-! ### C(e) -/
theorem pe_excA {bmB : List Value} {B newId initId : String} {ta : TE} (F : ExcBaseFacts B newId initId bmB) (q : PySem.W.excIn X.K C bmB newId = true) (gC : X.mg x = some (.ref C)) (kC : PySem.W.keepIn X.K (.ref C) = true) (hg : Gl X x)
    (he : PE X e ta) (hs : starEach [e] X.env = (false, eval e X.env) :: starEach [] X.env := by rfl) (hdb : (x == ("__debug__" : Str)) = false := by decide) :
    PE X (.Call (.Name x p) [e] [] pos) (fun σ H Q => ta σ H fun _ H1 => ∀ a, H1 a = none → Q (.ref a) (upd H1 a (.ext (excAt (.ref C) none a)))) := by
  refine ⟨fun pins s σ H Q I h => ?_⟩
  refine wpAny_Call_Name_kw (ld_glob I hg gC ?_ hdb)
  refine PySem.W.callWith_K (h₀ := X.base) I.ok.mod.kin kC ?_ hs (by rfl)
  rw [hs]
  show wpAny _ _ (spliced ((false, eval e X.env) :: backTo pos (starEach [] X.env))) _ _ s
  refine Calls.spliced_cons (thn (he.run pins s σ H _ I h) fun u s1 ⟨v, H1, I1, r1, q1⟩ => ?_)
  refine Calls.spliced_nil ⟨I1.kIn, ?_⟩
  show wpAny _ _ (call (.ref C) [u]) _ _ _
  obtain ⟨bm, N, nm, qn, bs, hdct, sn, sub, ab, col, dd, k0, k1, k2, k3, k5, mN, hC, hN, hni, T⟩ := exc_obj I1.kIn q
  refine wpAny_call_exc_subT F T hC hN hni (fun h' a hm => ?_) (by show 1 ≤ sizeLine; rw [sizeLine_eq]; omega)
  have hn : H1 a = none := I1.hok.gone hm.new
  obtain ⟨t, ht, _, _⟩ := hm.there
  exact ⟨.ref a, upd H1 a (.ext (excAt (.ref C) none a)), I1.laidN hm.keeps hm.new hn (excAt_ok ht ⟨rfl, rfl⟩ rfl), rfl, q1 a hn⟩
def fMk (C : Str) (f : FE) : FE := fun env st => (f env st).bind fun _ st1 => .ok (.ref st1.length) (st1 ++ [.exc C []])
theorem e_mk (xc : XCls X.K X.mg x C) (he : PE X e (tE (gx X) Wx fa)) (hg : Gl X x := by rfl) (hs : starEach [e] X.env = (false, eval e X.env) :: starEach [] X.env := by rfl) (hdb : (x == ("__debug__" : Str)) = false := by decide) : PE X (.Call (.Name x p) [e] [] pos) (tE (gx X) Wx (fMk x fa)) :=
  (pe_excA PySem.F.excBase_ValueError xc.ex xc.gC xc.kp hg he hs hdb).imp fun s H Q h => by
    obtain ⟨env, l, st, en, sm, p⟩ := h
    refine ⟨env, l, st, en, sm, (Po.bind p).imp fun w l1 H1 g1 ⟨st1, sm1, _, p1⟩ vx rx a ha => ?_⟩
    have sy : Stay H1 (upd H1 a (.ext (excAt (.ref C) none a))) := Stay.new ha
    refine p1 (l1 ++ [a]) _ (Grow.one sy) (sm1.newU ha ⟨C, none, xc.gC, upd_same, .inl ⟨rfl, rfl⟩⟩) _ (.ref ?_)
    rw [List.getElem?_append_right (by rw [sm1.len]; exact Nat.le_refl _), sm1.len]
    simp

/-! ### a class whose __init__ calls the base's and keeps one field -/
/-- what its __init__ promises -/
def spXi (f : Str) (C : Addr) : Sp := fun vs H Q E => ∃ a v, vs = [.ref a, v] ∧ H a = some (exo a C none) ∧ ∀ dx, H dx = none → dx ≠ a → Q .non (upd (upd H dx (exd dx [(f, v)])) a (exo a C (some dx)))
/-- B.__init__(e, ..), B an own class over ValueError -/
theorem pe_winit {B : Addr} {y : Str} {ta : TA} {p1 p2 : Pos} {pl : Sem Bool} (hg : Gl X y) (hm : X.mg y = some (.ref B)) (r : ClX.CRead X.K B (.type "type")) (k : PySem.W.findCls X.K (.ref B) (.type "type") "__init__" = some (.val (.builtin "ValueError.__init__"))) (ha : PA X (e :: es) ta)
    (hdb : (y == ("__debug__" : Str)) = false := by decide)
    (hc : eval (.Call (.Attribute (.Name y p1) "__init__" p2) (e :: es) [] pos) X.env = (do
      let ov ← eval (.Name y p1) X.env
      standAt p2.atName
      let (f, first) ← holding [ov] (getMethod ov "__init__" pl)
      callWith pos f first (backTo pos (starEach (e :: es) X.env)) (backToKw pos (keywordEach [] X.env))) := by rfl)
    (he : starEach (e :: es) X.env = (false, eval e X.env) :: starEach es X.env := by rfl) (hpl : (backTo pos (starEach es X.env)).any (·.1) = false := by rfl) :
    PE X (.Call (.Attribute (.Name y p1) "__init__" p2) (e :: es) [] pos) (tVeI X.K ta) := by
  refine ⟨fun pins s σ H Q I h => ?_⟩
  refine PySem.W.methodCall_KW (ld_glob I hg hm ?_ hdb) hc
  refine PySem.W.method_cls I.kIn r.ga (PySem.W.cls_value I.kIn r.rd k rfl ?_)
  show wpAny _ _ (callWith pos (Value.builtin "ValueError.__init__") [] (backTo pos (starEach (e :: es) X.env)) []) _ _ _
  refine PyProof.Rows.callWith_method1 (thn (ha.run pos pins _ σ H _ (I.tok _) h) fun us s1 ⟨vs, H1, I1, r1, a, C, ws, ev, hl, T, ea, q⟩ => ?_) he hpl
  subst ev
  cases r1 with
  | @cons _ u0 _ ur ra rw' =>
    obtain rfl : u0 = Value.ref a := ra
    have hlen : ur.length ≤ sizeLine := by
      rw [← Paired.length rw', sizeLine_eq]
      omega
    exact oinit_ok T I1 ea hlen fun s' J => ⟨.non, H1, J, rfl, q⟩
/-- what the written part says of such a class -/
structure XdCls (K : PySem.W.Frag) (mg : Str → Option Value) (base : Heap) (P : Program) (w : World) (x f : Str) (C fI : Addr) (fd : FuncData) (ps : List Str) (k : Nat) : Prop where
  gC : mg x = some (.ref C)
  ox : OexC K C
  iC : PySem.W.findIn K (.ref C) "__init__" = some (some (.ref fI))
  tI : PySem.W.typeIn K (.ref fI) = some (.type "function")
  fn : FnOk P w K mg base (L2.CX P w) k fI fd ps (spXi f C)
  bI : Binds K fd ps []
/-- C(e, ..) as a value -/
theorem pe_oexV {fI : Addr} {k : Nat} {fd : FuncData} {ps : List Str} {sp : Sp} {ta : TA} (T : OexC X.K C) (iC : PySem.W.findIn X.K (.ref C) "__init__" = some (some (.ref fI))) (tI : PySem.W.typeIn X.K (.ref fI) = some (.type "function"))
    (F1 : FnOk X.prog X.w X.K X.mg X.base (L2.CX X.prog X.w) k fI fd ps sp) (hr : Room (k + 1) X.A) (hb : Binds X.K fd ps []) (hx : Passes (L2.CX X.prog X.w) X (fun _ _ _ => False)) (hg : Gl X x) (hm : X.mg x = some (.ref C)) (ha : PA X (e :: es) ta)
    (hdb : (x == ("__debug__" : Str)) = false := by decide) (he : starEach (e :: es) X.env = (false, eval e X.env) :: starEach es X.env := by rfl) (hpl : (backTo pos (starEach es X.env)).any (·.1) = false := by rfl) :
    PE X (.Call (.Name x p) (e :: es) [] pos) (fun σ H Q => ta σ H fun vs H1 => vs.length ≤ 1000 ∧ ∀ a, H1 a = none → sp (.ref a :: vs) (upd H1 a (exo a C none))
  (fun v H2 => v = .non ∧ ∃ (d : Addr) (fs : List (Str × V)), H2 a = some (exo a C (some d)) ∧ H2 d = some (exd d fs) ∧ H1 d = none ∧ Q (.ref a) (upd (upd (del H2 a) d (.xd fs)) a (.ext (excAt (.ref C) (some d) a)))) (fun _ _ _ => False)) := by
  refine ⟨fun pins s σ H Q I h => ?_⟩
  obtain ⟨nm, q, N, bs, bm, sn, sub, ab, col, dd, k0, k1, k2, k3, k5, hC, hbm⟩ := T.cls
  refine wpAny_Call_Name_kw (ld_glob I hg hm ?_ hdb)
  refine PySem.W.callWith_K (h₀ := X.base) I.ok.mod.kin T.kC (thn (ha.run pos pins s σ H _ I h) fun us s1 ⟨vs, H1, I1, r1, hz, q1⟩ => ⟨I1.kIn, ?_⟩) he hpl
  show wpAny _ _ (call (.ref C) us) _ _ _
  obtain ⟨hp, g, dr, tk, os⟩ := s1
  have hsz : hp.objs.size ≤ hp.objs.size + 1 := Nat.le_succ _
  have hn : H1 (hp.objs.size + 1) = none := I1.hok.fresh hsz
  have hq := q1 (hp.objs.size + 1) hn
  have kk : ∀ b o, hp.get? b = some o → ((hp.push (PySem.W.kdv_tup us)).push (PySem.HandSPX.excO C hp.objs.size)).get? b = some o := fun b o e => Heap.get?_push_of_some _ (Heap.get?_push_of_some _ e)
  have hget : ((hp.push (PySem.W.kdv_tup us)).push (PySem.HandSPX.excO C hp.objs.size)).get? (hp.objs.size + 1) = some (PySem.HandSPX.excO C hp.objs.size) := by heap_get
  have I2 : Inv X pins σ (upd H1 (hp.objs.size + 1) (exo (hp.objs.size + 1) C none)) ⟨(hp.push (PySem.W.kdv_tup us)).push (PySem.HandSPX.excO C hp.objs.size), g, dr, tk, os⟩ :=
    I1.laid (t' := tk) (a := hp.objs.size + 1) (o := exo (hp.objs.size + 1) C none) (h' := (hp.push (PySem.W.kdv_tup us)).push (PySem.HandSPX.excO C hp.objs.size)) kk hsz (exo_ok hget)
  have r2 : Vals (V.ref (hp.objs.size + 1) :: vs) (Value.ref (hp.objs.size + 1) :: us) := .cons rfl r1
  have hl : (Value.ref (hp.objs.size + 1) :: us ++ ([] : List Value)).length = ps.length := by
    have e := r2.length
    rw [F1.len _ _ _ _ hq] at e
    rw [List.append_nil]
    exact e.symm
  have hus : us.length ≤ sizeLine := by
    rw [← Paired.length r1, sizeLine_eq]
    omega
  refine wpAny_call (PySem.HandSPX.call_own F.excBase_ValueError (fun Y => PySem.HandSPX.refsVE_contains Y bm hbm) (I1.kIn _ _ hC) (PySem.W.looks_findIn I1.kIn iC) (fun self => PySem.W.bind_fn I1.kIn self tI) hus
    (codeAny_mono (F1.run _ X.stack _ _ ⟨Value.ref (hp.objs.size + 1) :: us, []⟩ (Value.ref (hp.objs.size + 1) :: us) _ _ (fun _ _ _ => False) (hr.make C us []) (I2.env0.make C us []) (by simpa using hb _ (Value.ref (hp.objs.size + 1) :: us) I2.kIn hl) r2 hq) fun r s' hq' => ?_))
  cases r with
  | error er => exact hx pins σ _ _ er s' I2 hq'
  | ok fl =>
    cases fl with
    | ret u =>
      obtain ⟨v, H2, os2, bare2, un2, hok2, rv, ev, d, fs, ea, ed, hd1, q2⟩ := hq'
      subst ev
      obtain ⟨h2, g2, d2, t2, os'⟩ := s'
      obtain ⟨t0, G, J, kG, ge, hoe, na⟩ := mk_end0 (d2 := d2) (t2 := t2) I1 hsz kk un2 hok2 os2 bare2 ea ed hd1
      exact ⟨rv, ⟨.ref _, _, J.laidN (t' := t2) kG ge na (excAt_ok hoe ⟨rfl, rfl⟩ rfl), rfl, q2⟩⟩
    | next => exact False.elim hq'
    | brk => exact False.elim hq'
    | cont => exact False.elim hq'
def fMkD (C f : Str) (g : FE) : FE := fun env st => (g env st).bind fun w st1 => .ok (.ref st1.length) (st1 ++ [.exc C [(f, w)]])
/-- one argument -/
theorem xi_heap {H1 : Hp} {a dx : Addr} {v : V} {f : Str} (ha : H1 a = none) (hd : upd H1 a (exo a C none) dx = none) (hne : dx ≠ a) :
    (upd (upd (upd H1 a (exo a C none)) dx (exd dx [(f, v)])) a (exo a C (some dx))) a = some (exo a C (some dx)) ∧ (upd (upd (upd H1 a (exo a C none)) dx (exd dx [(f, v)])) a (exo a C (some dx))) dx = some (exd dx [(f, v)]) ∧ H1 dx = none := by
  refine ⟨upd_same, by rw [upd_ne hne, upd_same], ?_⟩
  rw [upd_ne hne] at hd
  exact hd
theorem xi_keep {H1 : Hp} {a dx : Addr} {v : V} {f : Str} (ha : H1 a = none) (hd : H1 dx = none) : ∀ c u, H1 c = some u → (upd (del (upd (upd (upd H1 a (exo a C none)) dx (exd dx [(f, v)])) a (exo a C (some dx))) a) dx (.xd [(f, v)])) c = some u := fun c u e => by
  rw [upd_ne (ne_of_none e hd), del_ne (ne_of_none e ha), upd_ne (ne_of_none e ha), upd_ne (ne_of_none e hd), upd_ne (ne_of_none e ha)]
  exact e
theorem e_mkD {fI : Addr} {k : Nat} {fd : FuncData} {ps : List Str} {f : Str} (xc : XdCls X.K X.mg X.base X.prog X.w x f C fI fd ps k) (hr : Room (k + 1) X.A) (he : PE X e (tE (gx X) Wx fa)) (hx : Passes (L2.CX X.prog X.w) X (fun _ _ _ => False)) (hg : Gl X x := by rfl) (hdb : (x == ("__debug__" : Str)) = false := by decide)
    (h1 : starEach [e] X.env = (false, eval e X.env) :: starEach [] X.env := by rfl) : PE X (.Call (.Name x p) [e] [] pos) (tE (gx X) Wx (fMkD x f fa)) :=
  (pe_oexV xc.ox xc.iC xc.tI xc.fn hr xc.bI hx hg xc.gC (pa_cons he pa_nil h1) hdb h1).imp fun s H Q h => by
    obtain ⟨env, l, st, en, sm, p⟩ := h
    refine ⟨env, l, st, en, sm, (Po.bind p).imp fun w l1 H1 g1 ⟨st1, sm1, _, p1⟩ v rx => ⟨by simp, fun a ha => ⟨a, v, rfl, upd_same, fun dx hd hne => ?_⟩⟩⟩
    obtain ⟨e1, e2, e3⟩ := xi_heap (C := C) (v := v) (f := f) ha hd hne
    refine ⟨rfl, dx, _, e1, e2, e3, ?_⟩
    have kp := xi_keep (C := C) (v := v) (f := f) ha e3
    have kp2 : ∀ c u, H1 c = some u → upd (upd (del (upd (upd (upd H1 a (exo a C none)) dx (exd dx [(f, v)])) a (exo a C (some dx))) a) dx (.xd [(f, v)])) a (.ext (excAt (.ref C) (some dx) a)) c = some u := fun c u q => by
      rw [upd_ne (ne_of_none q ha)]
      exact kp c u q
    have sy := Stay.more kp2
    have gr := Grow.one (r := l1) (a := a) sy
    refine p1 (l1 ++ [a]) _ gr (sm1.new ha kp2 ⟨C, some dx, xc.gC, upd_same, .inr ⟨dx, _, rfl, by rw [upd_ne hne, upd_same], .cons (rx.grow gr) .nil⟩⟩ sy) _ (.ref ?_)
    rw [List.getElem?_append_right (by rw [sm1.len]; exact Nat.le_refl _), sm1.len]
    simp
/-- raise C(e) -/
def fRaiseD (C f : Str) (g : FE) : FS := fun env st => (g env st).toS env fun w st1 => .ex C [(f, w)] env st1
theorem s_raiseD {fI : Addr} {k : Nat} {fd : FuncData} {ps : List Str} {f : Str} {p3 : Pos} (xc : XdCls X.K X.mg X.base X.prog X.w x f C fI fd ps k) (hr : Room (k + 1) X.A) (tk : Takes X Wx) (he : PE X e (tE (gx X) Wx fa)) (hx : Passes (L2.CX X.prog X.w) X (fun _ _ _ => False)) (hg : Gl X x := by rfl) (hc : X.calm = true := by rfl) (hdb : (x == ("__debug__" : Str)) = false := by decide)
    (h1 : starEach [e] X.env = (false, eval e X.env) :: starEach [] X.env := by rfl) : PS X (.Raise (some (.Call (.Name x p) [e] [] p3)) none pos) (tS (gx X) Wx (fRaiseD x f fa)) :=
  (ps_raise hc tk (pmk_oex xc.ox xc.iC xc.tI xc.fn hr xc.bI .nil hx hg xc.gC (pa_cons he pa_nil h1) hdb h1)).imp fun D s H h => by
    obtain ⟨env, l, st, en, sm, p⟩ := h
    refine ⟨env, l, st, en, sm, (SPo.toS en p).imp fun w l1 H1 g1 ⟨st1, sm1, _, p1⟩ v rx => ⟨by simp, fun a ha => ⟨a, v, rfl, upd_same, fun dx hd hne => ?_⟩⟩⟩
    obtain ⟨e1, e2, e3⟩ := xi_heap (C := C) (v := v) (f := f) ha hd hne
    refine ⟨rfl, dx, _, e1, e2, e3, ?_⟩
    have kp := xi_keep (C := C) (v := v) (f := f) ha e3
    exact p1 l1 _ s (.ref C) (some dx) (Grow.more kp) (sm1.more kp) ((en.grow g1).grow (Grow.more kp)) ⟨C, rfl, xc.gC, .inr ⟨dx, _, rfl, upd_same, .cons (rx.grow (Grow.more kp)) .nil⟩⟩

/-! ### e.f, e an exception object -/
/-- the classes of exceptions whose field f may be asked -/
def Xfs (G : Gx) (f : Str) (xa : Str → Bool) : Prop := ∀ C, xa C = true → ∀ Ca, G.mg C = some (.ref Ca) → XfC G.K Ca ∧ PySem.W.findIn G.K (.ref Ca) f = some none
theorem pe_xfV {te : TE} {n : Str} (he : PE X e te) (hb : attributeBase e n X.env (eval e X.env) = eval e X.env := by rfl) :
    PE X (.Attribute e n pos) (fun σ H Q => te σ H fun x H1 => ∃ (a C dd : Addr) (fs : List (Str × V)) (v : V), x = .ref a ∧ H1 a = some (.ext (excAt (.ref C) (some dd) a)) ∧ XfC X.K C ∧ PySem.W.findIn X.K (.ref C) n = some none ∧ H1 dd = some (.xd fs) ∧ fs.lookup n = some v ∧ Q v H1) := by
  refine ⟨fun pins s σ H Q I h => ?_⟩
  refine attr_of hb (thn (he.run pins s σ H _ I h) fun u s1 hh => ?_)
  obtain ⟨x, H1, I1, rx, a, C, dd, fs, v, ex, e1, T, hno, e2, l, q⟩ := hh
  subst ex
  obtain rfl : u = Value.ref a := rx
  obtain ⟨o, vs, ha, hz1, hz2, hd⟩ := (I1.hok a _ e1).1
  have hx : ObjOk X.prog X.w H1 s1.heap dd (.xd fs) := I1.hok dd _ e2
  obtain ⟨mA, hns, hr⟩ := hx
  obtain ⟨od, ho, hl⟩ := lookIn_ns hns
  obtain ⟨u, hu, ru⟩ := RelO.some_of (v := v) (o := mA n) (by rw [← l]; exact hr n)
  have J : PySem.W.InstAt s1.heap a o C (some od) := ⟨ha, hz1, by unfold PySem.W.notCls; rw [hd] <;> rfl, by rw [hz2]; exact ho⟩
  exact HandSPX.exc_get I1.kIn J T.ga T.gg T.exC (PySem.W.findObj_own T.hdC hno rfl (by rw [hl, hu])) (handed_of ru) ⟨v, H1, I1.tok _, ru, q⟩
def fXf (xa : Str → Bool) (f : Str) (g : FE) : FE := fun env st => (g env st).bind fun w st1 => match w with
  | .ref n => (match st1[n]? with
    | some (.exc C fs) => if xa C = true then (match fs.lookup f with
      | some v => .ok v st1
      | none => .bad) else .bad
    | _ => .bad)
  | _ => .bad
theorem RepF.look {G : Gx} {r : List Addr} {H : Hp} {f : Str} {w : W} : ∀ {fs : Flds} {vs : List (Str × V)}, RepF G r H fs vs → fs.lookup f = some w → ∃ v, vs.lookup f = some v ∧ Rep G r H w v := by
  intro fs vs h
  induction h with
  | nil => intro e; cases e
  | @cons g w' v' fs vs h _ ih =>
    intro e
    rw [List.lookup_cons] at e ⊢
    split at e
    · rename_i hb
      cases e
      exact ⟨v', rfl, h⟩
    · rename_i hb
      exact ih e
theorem e_xf {n : Str} {xa : Str → Bool} (T : Xfs (gx X) n xa) (he : PE X e (tE (gx X) Wx fa)) (hb : attributeBase e n X.env (eval e X.env) = eval e X.env := by rfl) : PE X (.Attribute e n pos) (tE (gx X) Wx (fXf xa n fa)) := (pe_xfV he hb).imp fun s H Q h => by
  obtain ⟨env, l, st, en, sm, p⟩ := h
  refine ⟨env, l, st, en, sm, (Po.bind p).imp fun w l1 H1 g1 ⟨st1, sm1, _, p1⟩ v rx => ?_⟩
  cases rx with
  | @ref k a q =>
    dsimp only at p1
    split at p1
    · rename_i C fs e1
      split at p1
      · rename_i hx
        split at p1
        · rename_i w e2
          obtain ⟨Ca, d, m, e3, k⟩ := sm1.got e1 q
          rcases k with ⟨rfl, _⟩ | ⟨da, vs, rfl, e4, rf⟩
          · cases e2
          · obtain ⟨v, e5, rv⟩ := rf.look e2
            obtain ⟨t1, t2⟩ := T C hx Ca m
            exact ⟨a, Ca, da, vs, v, rfl, e3, t1, t2, e4, e5, Po.ok p1 sm1 v rv⟩
        · exact p1.elim
      · exact p1.elim
    · exact p1.elim
  | _ => exact p1.elim

/-! ### try: .. except B as n: return n.f -/
/-- what the clause takes -/
structure XTry (G : Gx) (B : Str) (tab : Str → Option Bool) : Prop where
  at_ : ∃ Ba, G.mg B = some (.ref Ba) ∧ ∀ C b, tab C = some b → ∀ Ca, G.mg C = some (.ref Ca) → PySem.W.exmOne G.K (.ref Ca) (.ref Ba) = some b
def fTryF (tab : Str → Option Bool) (xa : Str → Bool) (f : Str) (g : FS) : FS := fun env st => match g env st with
  | .ex C fs env1 st1 => (match tab C with
    | some true => if xa C = true then (match fs.lookup f with
      | some v => .rt v st1
      | none => .bad) else .bad
    | some false => .ex C fs env1 st1
    | none => .bad)
  | o => o
end
end Sw
/-! SwY: try .. except; __init__ of an exception class. -/
namespace Sw
open PySem PySem.Spec PyProof.Rows L2
/-- which classes a clause `except B` takes -/
def XTryOk (G : Gx) (B : Str) (tab : Str → Option Bool) : Prop := ∃ Ba, G.mg B = some (.ref Ba) ∧ ∀ C b, tab C = some b → ∀ Ca, G.mg C = some (.ref Ca) → PySem.W.exmOne G.K (.ref Ca) (.ref Ba) = some b
section
variable {X : Cx} {Wx : WX}
def fTryR (tab : Str → Option Bool) (i : Nat) (D f : Str) (g : FS) : FS := fun env st => match g env st with
  | .ex C fs env1 st1 => (match tab C with
    | some true => if C = D ∧ i < env1.length then (match fs.lookup f with
      | some v => .rt v st1
      | none => .bad) else .bad
    | some false => .ex C fs env1 st1
    | none => .bad)
  | o => o
theorem s_tryR {x n f D : Str} {i : Nat} {body : List Stmt} {np p1 p2 p3 pos pos' : Pos} {tab : Str → Option Bool} {g : FS} {xa : Str → Bool} (T : XTryOk (gx X) x tab) (TD : Xfs (gx X) f xa) (hD : xa D = true) (gD : ∃ Da, X.mg D = some (.ref Da)) (hs : X.stack = X.env :: X.outer) (hf : X.env.frame = some X.env.locals) (hN : X.N.Nodup) (tk : Takes X Wx)
    (hb : ∀ (W : WX) (pn : List (Addr × Obj)) (xe : Value → Shared → Prop), Takes (X.tr pn xe) W → PassesOwn (model X.prog X.w) X.A X.env xe → PSs (X.tr pn xe) body (tS (gx X) W g))
    (hi : X.N[i]? = some n := by rfl) (hln : X.env.kindOf n = some .local := by rfl) (hg : Gl X x := by rfl) (hdb : (x == ("__debug__" : Str)) = false := by decide)
    (hv : Vis X.env.scope n := by first | exact Or.inl rfl | exact Or.inr (Or.inl rfl) | exact Or.inr (Or.inr rfl)) (hd : (n == ("__debug__" : Str)) = false := by decide)
    (hcd : (n == ("__classdict__" : Str)) = false := by decide) (hat : attributeBase (.Name n p1) f X.env (eval (.Name n p1) X.env) = eval (.Name n p1) X.env := by rfl) :
    PS X (.Try body [.ExceptHandler (some (.Name x np)) (some n) [.Return (some (.Attribute (.Name n p1) f p2)) p3] pos'] [] [] pos) (tS (gx X) Wx (fTryR tab i D f g)) := by
  obtain ⟨Ba, hB, hT⟩ := T
  obtain ⟨Da, hDa⟩ := gD
  obtain ⟨xD, hno⟩ := TD D hD Da hDa
  refine (ps_try_as (c := .ref Ba) (i := i) hs hf hN hi hln ⟨hg, hdb, .inl hB⟩ tk hb (fun a oe cls d pn hz hfl => pss_one (ps_ret (pe_xf (X := X) xD hno hz hfl (pe_var hi hv hd hcd) hat)))).imp fun E s H h => ?_
  obtain ⟨env, l, st, en, sm, p⟩ := h
  refine ⟨env, l, st, en, sm, ?_⟩
  unfold fTryR at p
  cases e : g env st with
  | nx env1 st1 => rw [e] at p; exact p
  | rt w st1 => rw [e] at p; exact p
  | bk env1 st1 => rw [e] at p; exact p
  | ct env1 st1 => rw [e] at p; exact p
  | bad => rw [e] at p; exact p.elim
  | ex C fs env1 st1 =>
    rw [e] at p
    intro r' H' s' ca d gr sm' en' ex
    obtain ⟨Ca, rfl, m, k⟩ := ex
    dsimp only at p
    split at p
    · rename_i hb'
      split at p
      · rename_i hc
        obtain ⟨hc, hl⟩ := hc
        subst hc
        have m' : X.mg C = some (.ref Ca) := m
        rw [hDa] at m'
        cases m'
        split at p
        · rename_i v hv'
          refine ⟨true, hT _ _ hb' _ hDa, fun _ a ha => ?_, fun z => nomatch z⟩
          rcases k with ⟨rfl, _⟩ | ⟨da, vs, rfl, e4, rf⟩
          · cases hv'
          · obtain ⟨u, e5, rv⟩ := rf.look hv'
            refine ⟨.ref a, by rw [List.getElem?_set_self (by rw [en'.1]; exact hl)], rfl, rfl, da, vs, u, rfl, e4, e5, ?_⟩
            exact p r' H' u gr sm' rv
        · exact p.elim
      · exact p.elim
    · rename_i hb'
      exact ⟨false, hT _ _ hb' _ m, fun z => (nomatch z), fun _ => p r' H' s' _ d gr sm' en' ⟨Ca, rfl, m, k⟩⟩
    · exact p.elim
end
end Sw
/-! SwH: the head's facts by one check of one's own; the law's end. -/
namespace Sw
open PySem PySem.Spec PyProof.Rows L2
/-! ### the hook -/
def obsB (chk : PySem.W.Frag → Bool) (fn : List He.DefD) (K : PySem.W.Frag) : He.AlD := (chk K && fn.all fun d => d.ok K, fn.map fun d => He.fnW K d.at_)
def SaysB (chk : PySem.W.Frag → Bool) (fn : List He.DefD) (K : PySem.W.Frag) : Prop := obsB chk fn K = He.valD fn
/-- what the module's names and the statics reach in n steps -/
def asB (g : Addr → Option Obj) : Nat → List Addr
  | 0 => [mainGlobals, cStatics]
  | n + 1 => He.growD g (asB g n)
def obsBG (n : Nat) (chk : PySem.W.Frag → Bool) (fn : List He.DefD) (g : Addr → Option Obj) : He.AlD := obsB chk fn (He.frG g (asB g n))
def hookB (n : Nat) (chk : PySem.W.Frag → Bool) (fn : List He.DefD) : PySem.W.Hook where
  α := He.AlD
  obs := fun s => obsBG n chk fn s.heap.get?
  val := fun _ => He.valD fn
  says := fun _ h => ∃ K : PySem.W.Frag, K.In h ∧ SaysB chk fn K
  of := fun _ _ e => ⟨_, He.frG_in, e⟩
  keeps := fun _ _ _ ⟨K, hK, c⟩ k => ⟨K, PySem.W.Frag.In.keeps hK k, c⟩
theorem obsBG_eq {n : Nat} {chk : PySem.W.Frag → Bool} {fn : List He.DefD} {g : Addr → Option Obj} {s : Shared} (h : ∀ a, g a = s.heap.get? a) : obsBG n chk fn g = (hookB n chk fn).obs s := by
  have e : g = s.heap.get? := funext h
  rw [e] <;> rfl
section
variable {chk : PySem.W.Frag → Bool} {fn : List He.DefD} {K : PySem.W.Frag}
theorem SaysB.checked (c : SaysB chk fn K) : chk K = true := (He.ba (show (chk K && fn.all fun d => d.ok K) = true from congrArg (fun z : He.AlD => z.1) c)).1
theorem SaysB.def_ (c : SaysB chk fn K) (i : Nat) {d : He.DefD} (h : fn[i]? = some d := by rfl) : ∃ fd, FunD K d.name d.qual d.params d.body d.scope (d.dvs K) (d.kws K) (He.fAd K d.at_) fd := by
  have c2 := (He.ba (show (chk K && fn.all fun d => d.ok K) = true from congrArg (fun z : He.AlD => z.1) c)).2
  have e : fn.map (fun d => He.fnW K d.at_) = fn.map He.DefD.val := congrArg (fun z : He.AlD => z.2) c
  have e2 : (fn.map fun d => He.fnW K d.at_)[i]? = (fn.map He.DefD.val)[i]? := by rw [e]
  rw [List.getElem?_map, List.getElem?_map, h] at e2
  exact He.DefD.funD (Option.some.inj e2) (List.all_eq_true.mp c2 d (List.mem_of_getElem? h))
end
/-! ### facts -/
section
variable {K : PySem.W.Frag} {h : Heap} {mg : Str → Option Value}
def gloB (K : PySem.W.Frag) (xs : List Str) : Bool := xs.all fun x => He.eqO (PySem.W.nsIn K mainGlobals x) (some (some (.ref (He.ga K x))))
def freeB (K : PySem.W.Frag) (xs : List Str) : Bool := xs.all fun x => He.eqO (PySem.W.nsIn K mainGlobals x) (some none)
theorem gloB_ok (X : K.In h) (G : h.Ns mainGlobals mg) {xs : List Str} (c : gloB K xs = true) {x : Str} (hx : x ∈ xs) : mg x = some (.ref (He.ga K x)) := PySem.W.mg_of X G (He.eqO_ok (List.all_eq_true.mp c x hx))
theorem freeB_ok (X : K.In h) (G : h.Ns mainGlobals mg) {xs : List Str} (c : freeB K xs = true) {x : Str} (hx : x ∈ xs) : mg x = none := PySem.W.mg_none_of X G (He.eqO_ok (List.all_eq_true.mp c x hx))
/-- an exception class is asked rightly by isinstance -/
def excCB (K : PySem.W.Frag) (D : Addr) : Bool := decide (PySem.W.findIn K (.ref D) "__getattribute__" = some (some (.builtin "BaseException.__getattribute__"))) && (decide (PySem.W.findIn K (.ref D) "__getattr__" = some none) && (decide (PySem.W.subIn K (.ref D) (.type "BaseException") = some true) && (PySem.W.hasDictIn K D && (decide (PySem.W.findIn K (.ref D) "__class__" = some (some (.builtin "object.__class__"))) &&
  (decide (PySem.W.specialIn K (.builtin "object.__class__") "__get__" = some (some (.builtin "getset_descriptor.__get__"))) && (decide (PySem.W.takesIn K (.builtin "object.__class__") = some true) && decide (PySem.W.mroIn K D (.type "object") = some true)))))))
theorem excCB_ok {D : Addr} (c : excCB K D = true) : ExcC K D := by
  obtain ⟨c1, c⟩ := He.ba c
  obtain ⟨c2, c⟩ := He.ba c
  obtain ⟨c3, c⟩ := He.ba c
  obtain ⟨c4, c⟩ := He.ba c
  obtain ⟨c5, c⟩ := He.ba c
  obtain ⟨c6, c⟩ := He.ba c
  obtain ⟨c7, c8⟩ := He.ba c
  exact ⟨of_decide_eq_true c1, of_decide_eq_true c2, of_decide_eq_true c3, c4, of_decide_eq_true c5, of_decide_eq_true c6, of_decide_eq_true c7, of_decide_eq_true c8⟩
/-- an own exception class without __init__ -/
theorem xCls_ok {x : Str} (g : mg x = some (.ref (He.ga K x))) (c : (He.Fa.exc x).ok K = true) : XCls K mg x (He.ga K x) := by
  obtain ⟨a, b, d, e⟩ := He.exc_ok c
  exact ⟨g, a, b, d, e⟩
def oexB (K : PySem.W.Frag) (C : Addr) : Bool := (match K.lookup C with
  | some ⟨.type "type", _, .cls cd, sl⟩ => (match cd.mro, sl.toList with
    | .ref C' :: bm, [_, _, _, _, some (.builtin n), _] => C' == C && (decide (n = "ValueError.__new__") && (!cd.hasDel && (cd.hasDict && PySem.HandSPX.refsVE bm)))
    | _, _ => false)
  | _ => false) && (decide (PySem.W.findIn K (.ref C) "__setattr__" = some (some (.builtin "object.__setattr__"))) && (decide (PySem.W.subIn K (.ref C) (.type "BaseException") = some true) && (decide (PySem.W.typeIn K (.ref C) = some (.type "type")) && PySem.W.keepIn K (.ref C))))
theorem oexB_ok {C : Addr} (c : oexB K C = true) : OexC K C := by
  obtain ⟨c1, c⟩ := He.ba c
  obtain ⟨c2, c⟩ := He.ba c
  obtain ⟨c3, c⟩ := He.ba c
  obtain ⟨c4, c5⟩ := He.ba c
  refine ⟨?_, of_decide_eq_true c2, of_decide_eq_true c3, of_decide_eq_true c4, c5⟩
  split at c1
  · rename_i dd cd sl ho
    split at c1
    · rename_i C' bm k0 k1 k2 k3 n k5 hm hs
      simp only [Bool.and_eq_true, beq_iff_eq, Bool.not_eq_true', decide_eq_true_eq] at c1
      obtain ⟨rfl, rfl, hdel, hdi, hv⟩ := c1
      obtain ⟨nm, bs, mro, ns, qn, hd, sn, sub, ab, col, del⟩ := cd
      dsimp only at hm hdel hdi
      subst hm hdel hdi
      have hsl : sl = #[k0, k1, k2, k3, some (.builtin "ValueError.__new__"), k5] := by
        obtain ⟨l⟩ := sl
        simp only at hs
        rw [hs]
      subst hsl
      exact ⟨nm, qn, ns, bs, bm, sn, sub, ab, col, dd, k0, k1, k2, k3, k5, ho, hv⟩
    · cases c1
  · cases c1
/-- B.__init__ is the built-in one -/
def winitB (K : PySem.W.Frag) (B : Addr) : Bool := PySem.W.readsIn K B (.type "type") && (decide (PySem.W.specialIn K (.ref B) "__getattribute__" = some (some (.builtin "type.__getattribute__"))) && (match PySem.W.findCls K (.ref B) (.type "type") "__init__" with
  | some (.val (.builtin n)) => decide (n = "ValueError.__init__")
  | _ => false))
theorem winitB_ok {B : Addr} (c : winitB K B = true) : ClX.CRead K B (.type "type") ∧ PySem.W.findCls K (.ref B) (.type "type") "__init__" = some (.val (.builtin "ValueError.__init__")) := by
  obtain ⟨c1, c⟩ := He.ba c
  obtain ⟨c2, c3⟩ := He.ba c
  refine ⟨⟨c1, of_decide_eq_true c2⟩, ?_⟩
  split at c3
  · rename_i n e
    rw [e, of_decide_eq_true c3]
  · cases c3
def xfsB (K : PySem.W.Frag) (x f : Str) : Bool := xfB K (He.ga K x) && decide (PySem.W.findIn K (.ref (He.ga K x)) f = some none)
theorem xfsB_ok {x f : Str} (g : mg x = some (.ref (He.ga K x))) (c : xfsB K x f = true) : Xfs ⟨K, mg⟩ f (fun C => C == x) := by
  obtain ⟨c1, c2⟩ := He.ba c
  intro C hC Ca hm
  have e : C = x := eq_of_beq hC
  subst e
  have e2 : (some (Value.ref (He.ga K C))) = some (.ref Ca) := g.symm.trans hm
  cases e2
  exact ⟨xfB_ok c1, of_decide_eq_true c2⟩
/-- which built-in types are which -/
def bTs : List String := ["NoneType", "bool", "int", "str", "tuple", "list", "dict"]
def bIs (m n : String) : Bool := m == n || (m == "bool" && n == "int")
theorem bIs_ok : ∀ m ∈ bTs, ∀ n ∈ bTs, kitB m n = some (bIs m n) := by decide +kernel
/-- a class | a type -/
def xTab (cls : List Str) (base : Str) : Tg → Tg → Option Bool
  | .c C, .c D => if C ∈ cls ∧ D ∈ cls then some (decide (C = D) || decide (D = base)) else none
  | .c C, .b n => if C ∈ cls then (if n = "ValueError" then some true else if n ∈ bTs then some false else none) else none
  | .b n, .c D => if n ∈ bTs ∧ D ∈ cls then some false else none
  | .b m, .b n => if m ∈ bTs ∧ n ∈ bTs then some (bIs m n) else none
def kitT (K : PySem.W.Frag) (t c : Value) (b : Bool) : Bool := decide (PySem.W.kitOne K t c = some b)
def isiB (K : PySem.W.Frag) (cls : List Str) (base : Str) : Bool := (cls.all fun C => excCB K (He.ga K C) && (kitT K (.ref (He.ga K C)) (.type "ValueError") true && ((bTs.all fun n => kitT K (.ref (He.ga K C)) (.type n) false && kitT K (.type n) (.ref (He.ga K C)) false) && cls.all fun D => kitT K (.ref (He.ga K C)) (.ref (He.ga K D)) (decide (C = D) || decide (D = base)))))
theorem isiB_ok {cls : List Str} {base : Str} (g : ∀ x ∈ cls, mg x = some (.ref (He.ga K x))) (c : isiB K cls base = true) : Isi ⟨K, mg⟩ (xTab cls base) (fun C => decide (C ∈ cls)) := by
  have at_ : ∀ C ∈ cls, _ := fun C hC => List.all_eq_true.mp c C hC
  have cv : ∀ C ∈ cls, ∀ v, TgV ⟨K, mg⟩ (.c C) v → v = .ref (He.ga K C) := fun C hC v h => by
    cases h with
    | c h =>
      have e := (g C hC).symm.trans h
      cases e
      rfl
  have bv : ∀ n v, TgV ⟨K, mg⟩ (.b n) v → v = .type n := fun n v h => by cases h; rfl
  refine ⟨fun t c b e tv v ht hc => ?_, fun C hC Ca hm => ?_⟩
  · cases t with
    | c C =>
      cases c with
      | c D =>
        simp only [xTab] at e
        split at e
        · rename_i hh
          cases e
          obtain ⟨_, k⟩ := He.ba (at_ C hh.1)
          obtain ⟨_, k⟩ := He.ba k
          obtain ⟨_, k⟩ := He.ba k
          rw [cv C hh.1 _ ht, cv D hh.2 _ hc]
          exact of_decide_eq_true (List.all_eq_true.mp k D hh.2)
        · cases e
      | b n =>
        simp only [xTab] at e
        split at e
        · rename_i hC
          obtain ⟨_, k⟩ := He.ba (at_ C hC)
          obtain ⟨k1, k⟩ := He.ba k
          obtain ⟨k2, k⟩ := He.ba k
          rw [cv C hC _ ht, bv n _ hc]
          split at e
          · rename_i hn
            cases e
            rw [hn]
            exact of_decide_eq_true k1
          · split at e
            · rename_i hn
              cases e
              exact of_decide_eq_true (He.ba (List.all_eq_true.mp k2 n hn)).1
            · cases e
        · cases e
    | b n =>
      cases c with
      | c D =>
        simp only [xTab] at e
        split at e
        · rename_i hh
          cases e
          obtain ⟨_, k⟩ := He.ba (at_ D hh.2)
          obtain ⟨k1, k⟩ := He.ba k
          obtain ⟨k2, k⟩ := He.ba k
          rw [cv D hh.2 _ hc, bv n _ ht]
          exact of_decide_eq_true (He.ba (List.all_eq_true.mp k2 n hh.1)).2
        · cases e
      | b m =>
        simp only [xTab] at e
        split at e
        · rename_i hh
          cases e
          rw [bv n _ ht, bv m _ hc]
          exact kit_ty (bIs_ok n hh.1 m hh.2)
        · cases e
  · have hC : C ∈ cls := of_decide_eq_true hC
    obtain ⟨k, _⟩ := He.ba (at_ C hC)
    have e : some (Value.ref (He.ga K C)) = some (.ref Ca) := (g C hC).symm.trans hm
    cases e
    exact excCB_ok k
/-- except base -/
def exmB (K : PySem.W.Frag) (cls : List Str) (base : Str) : Bool := cls.all fun C => decide (PySem.W.exmOne K (.ref (He.ga K C)) (.ref (He.ga K base)) = some true)
def xmTab (cls : List Str) (C : Str) : Option Bool := if C ∈ cls then some true else none
theorem exmB_ok {cls : List Str} {base : Str} (g : ∀ x ∈ cls, mg x = some (.ref (He.ga K x))) (hb : mg base = some (.ref (He.ga K base))) (c : exmB K cls base = true) : XTryOk ⟨K, mg⟩ base (xmTab cls) := by
  refine ⟨He.ga K base, hb, fun C b e Ca hm => ?_⟩
  unfold xmTab at e
  split at e
  · rename_i hC
    cases e
    have e : some (Value.ref (He.ga K C)) = some (.ref Ca) := (g C hC).symm.trans hm
    cases e
    exact of_decide_eq_true (List.all_eq_true.mp c C hC)
  · cases e
end
/-! ### the end -/
theorem rol_of {K : PySem.W.Frag} {H : Hp} {a : Addr} {xs : List V} (hO : Only H) (h : SqL K H a xs) : Rol K H a xs := by
  rcases h with (h | h) | h
  · rcases hO a with z | ⟨o, ys, z⟩
    · rw [z] at h; cases h
    · rw [z] at h; cases h
  · exact .inl h
  · exact .inr h
theorem sp_law {K : PySem.W.Frag} {mg : Str → Option Value} {F : FF} {H : Hp} {a : Addr} {ns : List Int} (hO : Only H) (hS : SqL K H a (ns.map V.int)) (hp : ∃ st, F [.rol (ns.map W.int)] [] = .ok (.bl true) st) :
    spF ⟨K, mg⟩ 1 F [.ref a] H (fun v _ => v = .bl true) fun _ _ _ => False := by
  obtain ⟨st, e⟩ := hp
  refine ⟨rfl, [.rol (ns.map W.int)], [], [], .cons (.rol (rol_of hO hS) (repL_ints ns)) .nil, ⟨rfl, List.nodup_nil, fun n o a e => by simp at e⟩, ?_⟩
  rw [e]
  intro r' H' g sm v rv
  cases rv
  rfl
theorem cx_end {P : Program} {w : World} {outer : List Env} {H : Hp} {s : Shared} {e : Value} {s' : Shared} (h : L2.CX P w outer H s (fun _ _ _ => False) e s') : False := by
  obtain ⟨_, _, _, _, _, _, _, _, _, _, _, _, z⟩ := h
  exact z
end Sw
/-! SwZ: small words for the printed text. -/
namespace Sw
open PySem PySem.Spec PyProof.Rows L2
theorem passX {X : Cx} : Passes (L2.CX X.prog X.w) X (fun _ _ _ => False) := fun _ _ _ _ _ _ _ c => (cx_end c).elim
theorem spXi_len {f : Str} {C : Addr} {a b : Str} : ∀ (vs : List V) (H : Hp) (Q : VK) (E : XK), spXi f C vs H Q E → vs.length = [a, b].length := fun vs H Q E ⟨x, v, e, _⟩ => by rw [e]; rfl
theorem xfnone {K : PySem.W.Frag} {mg : Str → Option Value} {f x : Str} {xa : Str → Bool} {C : Addr} (T : Xfs ⟨K, mg⟩ f xa) (g : mg x = some (.ref C)) (h : xa x = true) : PySem.W.findIn K (.ref C) f = some none := (T x h C g).2
def initB (K : PySem.W.Frag) (x : Str) : Bool := decide (PySem.W.findIn K (.ref (He.ga K x)) "__init__" = some (some (.ref (He.ma K (He.ga K x) "__init__")))) && decide (PySem.W.typeIn K (.ref (He.ma K (He.ga K x) "__init__")) = some (.type "function"))
theorem initB_ok {K : PySem.W.Frag} {x : Str} (c : initB K x = true) : PySem.W.findIn K (.ref (He.ga K x)) "__init__" = some (some (.ref (He.ma K (He.ga K x) "__init__"))) ∧ PySem.W.typeIn K (.ref (He.ma K (He.ga K x) "__init__")) = some (.type "function") := by
  obtain ⟨a, b⟩ := He.ba c
  exact ⟨of_decide_eq_true a, of_decide_eq_true b⟩
theorem xi_end {K : PySem.W.Frag} {C : Addr} {f a b : Str} {m : Str} {vs : List V} {H : Hp} {Q : VK} {E : XK} (T : OexC K C) (hno : PySem.W.findIn K (.ref C) f = some none) (h : spXi f C vs H Q E) :
    tSeq (tDrop (tVeI K (tCons (tVar 0) (tCons (tC (.str m)) tNil)))) (tOst K f (tVar 0) (tVar 1)) { nx := fun _ H' => Q .non H', rt := Q } (L2.start [a, b] vs) H := by
  obtain ⟨x, v, rfl, ha, q⟩ := h
  exact ⟨.ref x, rfl, x, C, [.str m], rfl, by simp, T, ha, v, rfl, .ref x, rfl, x, C, rfl, T, hno, .inl ⟨ha, fun dx hd hne => q dx hd hne⟩⟩
/-- a law's end over a head by facts; what leaves it may depend on the world -/
theorem walk_ofW {l : PySem.W.OpenLaw} {n k : Nat} {q : Program} {loose : List Str} {XP : (Str → Option Value) → Heap → Prop} {YP : World → Heap → Prop} {d : DefRec} {x : Str}
    (hn : l.most = some n) (hn2 : n ≤ sizeLine) (hdf : d.params.defaults = []) (hr : Room k callerA)
    (F : ∀ (w : World) (mg : Str → Option Value) (fa : Addr) (h : Heap), YP w h → h.Ns mainGlobals mg → mg d.name = some (.ref fa) →
      ∃ (K : PySem.W.Frag) (fd : FuncData) (sp : Sp), K.In h ∧ (∀ (s : Shared) (u : Value), BindsTo s fd ⟨[u], []⟩ [(x, u)]) ∧
        (∀ (H : Hp) (a : Addr) (ns : List Int), ns.length ≤ n → Only H → SqL K H a (ns.map V.int) → sp [.ref a] H (fun v _ => v = .bl true) fun _ _ _ => False) ∧
        ∀ base : Heap, K.In base → base.Ns mainGlobals mg → FnOk l.prog w K mg base (L2.CX l.prog w) k fa fd [x] sp) :
    PySem.W.WalkO q loose XP YP l.row.toRowW d [] (fun f vs => PySem.call f vs) := by
  refine Att.attach_call hn hdf fun w s₀ s₁ mg mb fa o pm cd doc a vs ns G Y ho hd hcd hmg hobj hints hlen hg => ?_
  obtain ⟨K, fd, sp, KX, hb, hsp, hF⟩ := F w mg fa _ Y G.T.g hmg
  exact law_call KX G.T.g G.T.b G.T.builtins G.T.nolimit hg hobj hints (Nat.le_trans hlen hn2) hr hF hb (fun H hO hS => hsp H a ns hlen hO hS) fun H e s' => cx_end
end Sw
/-! SwS: a, *b = a list. -/
namespace Sw
open PySem PySem.Spec PyProof.Rows L2
section
variable {prog : Program} {w : World} {A : Around} {E : Value → Shared → Prop} {s : Shared}
/-- the walk of a list iterator from its place o on -/
theorem li_walks {it l : Addr} {items : Array Value} (o : Nat) (hne : l ≠ it) (hh : A.handled = none) (ho : o ≤ items.size) :
    WalksS prog w A it [it, l] [it] (fun a b => b = a) (items.size - o) (fun j v => items[o + j]? = some v) (fun j s => s.heap.IsListIter it l (o + j) ∧ s.heap.IsList l items) where
  sub := fun b hb => by simp at hb; simp [hb]
  grefl := fun _ => rfl
  gtrans := fun _ _ _ a b => b.trans a
  frame := fun i s h' tk ⟨a, b⟩ _ k => ⟨a.at fun o e => k it (by simp) o e, by
    obtain ⟨ob, e, q⟩ := b
    exact ⟨ob, k l (by simp) ob e, q⟩⟩
  item := fun i s Q E hi ⟨a, b⟩ hQ => by
    have hx : items[o + i]? = some items[o + i] := Array.getElem?_eq_getElem (by omega)
    refine wpAny_pyNext_list_item a b hx fun h' st' sb => ?_
    refine hQ _ { s with heap := h' } hx ⟨by rw [show o + (i + 1) = o + i + 1 by omega]; exact st', b.extBut sb.extBut hne⟩ ⟨fun c ob hc e => ?_, rfl, rfl, rfl, Nat.le_refl _⟩
    have hc : c ≠ it := by simpa using hc
    exact (sb.2 c hc).trans e
  done := fun s Q E ⟨a, b⟩ hQ => by
    refine wpAny_pyNext_list_end hh a b (by simp; omega) fun h' eb => ?_
    refine hQ { s with heap := h' } ⟨fun c ob hc e => ?_, rfl, rfl, rfl, Nat.le_refl _⟩
    have hc : c ≠ it := by simpa using hc
    exact eb c ob hc e
  self := fun i s Q E ⟨a, _⟩ h => wpAny_pyIter_listiter a h
theorem star_items {l : Addr} {u : Value} {us : List Value} {Q : List Value → Shared → Prop} (hh : A.handled = none) (hl : s.heap.IsList l (u :: us).toArray) (hz : (u :: us).length ≤ sizeLine)
    (hQ : ∀ h' p tk, (∀ b o, s.heap.get? b = some o → h'.get? b = some o) → s.heap.get? p = none → h'.get? p = some { cls := .type "list", data := .seq us.toArray } → Q [u, .ref p] { s with heap := h', toks := tk }) :
    wpAny (model prog w) A (unpackItems (.ref l) 2 (some 1)) Q E s := by
  have hlt : l ≠ s.heap.objs.size := by obtain ⟨o, ho, _⟩ := hl; exact Nat.ne_of_lt (Heap.lt_size ho)
  unfold unpackItems
  refine wpAny_bind ?_
  unfold notIterableAtAll
  refine wpAny_bind (wpAny_specialOf hl.typeIs slot_list_iter.lookup ?_)
  refine wpAny_pure ?_
  simp only [Bool.false_eq_true, if_false]
  refine wpAny_bind (wpAny_holding (wpAny_pyIter_list hl ?_))
  refine wpAny_bind (wpAny_holding (PySem.W.kun_draw hlt 1 0 _ _ ⟨_, Heap.get?_push_size _ rfl, rfl, rfl⟩ (hl.push _) (by simp) fun h₁ hit₁ hs₁ => ?_))
  have hfirst : List.take 1 (List.drop 0 (u :: us).toArray.toList) = [u] := by simp
  rw [hfirst]
  rw [if_neg (by simp)]
  have hl₁ : h₁.IsList l (u :: us).toArray := (hl.push _).extBut hs₁.extBut hlt
  have up1 : ∀ b o, s.heap.get? b = some o → h₁.get? b = some o := fun b o e => by
    have hb : b ≠ s.heap.objs.size := Nat.ne_of_lt (Heap.lt_size e)
    exact hs₁.extBut b o hb (Heap.get?_push_of_some _ e)
  have hsz : s.heap.objs.size < h₁.objs.size := by
    obtain ⟨o, ho, _⟩ := hit₁
    exact Heap.lt_size ho
  refine wpAny_bind (wpAny_holding (wpAny_collect_iter (T := "list_iterator") (.inr (.inr (.inl rfl))) (li_walks (A := A.in1) (it := s.heap.objs.size) (l := l) (items := (u :: us).toArray) 1 hlt (by exact hh) (by simp)) (fun i s' ⟨a, _⟩ => by
    obtain ⟨o, ho, hc, _⟩ := a
    exact ⟨o, ho, hc⟩) ⟨hit₁, hl₁⟩ (fun b hb => by
      rcases List.mem_cons.mp hb with rfl | hb
      · exact hsz
      · have : b = l := by simpa using hb
        subst this
        obtain ⟨o, ho, _⟩ := hl₁
        exact Heap.lt_size ho) (by simp) (fun s' acc hm hacc => ?_) (by simp at hz ⊢; omega)))
  have hrest : acc.toList = us := by
    obtain ⟨e1, e2⟩ := hacc
    have e1 : acc.size = us.length := by rw [e1]; simp
    refine List.ext_getElem? fun i => ?_
    by_cases hi : i < us.length
    · have hi' : i < acc.size := by rw [e1]; exact hi
      have e3 := e2 i acc[i] (Array.getElem?_eq_getElem hi')
      rw [Array.getElem?_toList, Array.getElem?_eq_getElem hi', ← e3]
      simp [Nat.add_comm 1 i]
    · rw [List.getElem?_eq_none (by rw [Array.length_toList, e1]; omega), List.getElem?_eq_none (by omega)]
  rw [hrest]
  rw [if_neg (by simp)]
  obtain ⟨h2, g2, d2, t2, o2⟩ := s'
  obtain ⟨k1, k2, k3, k4, k5⟩ := hm
  dsimp only at k1 k2 k3 k4
  subst k2 k3 k4
  refine wpAny_bind (wpAny_newList ?_ (by simp at hz ⊢; omega))
  refine wpAny_pure ?_
  have e1 : us.take (us.length - (2 - 1 - 1)) = us := by simp
  have e2 : us.drop (us.length - (2 - 1 - 1)) = [] := by simp
  rw [e2]
  have up2 : ∀ b o, s.heap.get? b = some o → h2.get? b = some o := fun b o e => k1 b o (by
    have hb : b ≠ s.heap.objs.size := Nat.ne_of_lt (Heap.lt_size e)
    simpa using hb) (up1 b o e)
  have szle : s.heap.get? h2.objs.size = none := by
    cases e : s.heap.get? h2.objs.size with
    | none => rfl
    | some o => exact absurd (Heap.lt_size (up2 _ o e)) (Nat.lt_irrefl _)
  exact hQ _ _ t2 (fun b o e => Heap.get?_push_of_some _ (up2 b o e)) szle (by rw [e1]; exact Heap.get?_push_size _ rfl)
end
def gStar (K : PySem.W.Frag) (t : TGs) : TG := fun v σ H Q => ∃ a x xs, v = .ref a ∧ SqL K H a (x :: xs) ∧ ∀ p, H p = none → t [x, .ref p] σ (upd H p (.lst xs)) Q
theorem pg_star {X : Cx} {es es' : List Expr} {k : Nat} {pos : Pos} {t : TGs} (hc : X.calm = true) (h : PGs X es' t) (hm : (assignEach es X.env).map (·.2) = (assignEach es' X.env).map (·.2) := by rfl)
    (hn : (assignEach es X.env).length = 2 := by rfl) (hst : (assignEach es X.env).findIdx? (·.1) = some 1 := by rfl) : PG X (.Tuple es k pos) (gStar X.K t) := by
  refine ⟨fun pins s σ H v u Q I r hw => ?_⟩
  obtain ⟨a, x, xs, e1, hq, hw⟩ := hw
  subst e1
  cases r
  obtain ⟨its, rv, pl, hz⟩ := I.list hq
  cases rv with
  | @cons _ u0 _ us ru rus =>
    rw [PyProof.Rows.assign_Tuple]
    refine wpAny_bind (wpAny_standAt ?_)
    unfold unpack
    rw [hn, hst]
    have hl : (u0 :: us).length ≤ sizeLine := by
      rw [List.length_cons, ← Paired.length rus]
      exact hz
    refine wpAny_bind (wpAny_holding (star_items (I.ok.hd hc) pl.isList hl fun h' p tk kp hp hn2 => ?_))
    have hH : H p = none := I.hok.gone hp
    have I1 : Inv X pins σ (upd H p (.lst xs)) { s with heap := h', toks := tk } := I.laidN kp hp hH (show ObjOk X.prog X.w _ _ _ (.lst xs) from ⟨by
      rw [Paired.length rus]; rw [List.length_cons] at hl; omega, us, 0, rus, hn2⟩)
    rw [hm]
    exact h.run pins _ σ _ [x, .ref p] _ Q I1 (.cons ru (.cons rfl .nil)) (hw p hH)
end Sw
/-! SwT: try: .. except B as n: m = n: the exception is kept. -/
namespace Sw
open PySem PySem.Spec PyProof.Rows L2
section
variable {X : Cx} {pins : List (Addr × Obj)} {σ : L2.St} {H : Hp} {s : Shared}
/-- an object that stands in the heap is tracked from now on -/
theorem track {a : Addr} {o : HO} {oe : Obj} {vs : Array Value} (I : Inv X pins σ H s) (hn : H a = none) (he : s.heap.get? a = some oe) (hd : oe.data = .fields vs) (new : ObjOk X.prog X.w (upd H a o) s.heap a o) (h0 : X.s_0.heap.get? a = none) (hL : a ≠ X.env.locals) (hp : ∀ p ∈ X.pn ++ pins, p.1 ≠ a) :
    Inv X pins σ (upd H a o) s where
  ok := I.ok
  os := I.os
  bare := I.bare
  base := {
    keep := I.base.keep
    slot := I.base.slot
    free := fun b o' e n hx => by
      rw [upd_ne (fun z => by rw [z, h0] at e; cases e)]
      exact I.base.free b o' e n hx
    there := I.base.there
    tups := fun b xs e => by
      have q := I.base.tups b xs e
      rw [upd_ne (ne_of_none q hn)]
      exact q
    frzs := fun b o' u e => by
      have q := I.base.frzs b o' u e
      rw [upd_ne (ne_of_none q hn)]
      exact q
    tbls := fun b ps e => by
      obtain ⟨more, q⟩ := I.base.tbls b ps e
      exact ⟨more, by rw [upd_ne (ne_of_none q hn)]; exact q⟩ }
  loc := I.loc
  cell := I.cell
  free := by
    rw [upd_ne (Ne.symm hL)]
    exact I.free
  freeC := fun x c e => by
    obtain ⟨v, oc, hc, hd2⟩ := I.cell x c e
    rw [upd_ne (fun z => by
      rw [z, he] at hc
      cases hc
      rw [hd] at hd2
      cases hd2)]
    exact I.freeC x c e
  pin := fun p h => by
    obtain ⟨p1, p2, p3⟩ := I.pin p h
    exact ⟨p1, by rw [upd_ne (hp p h)]; exact p2, p3⟩
  hok := fun b u e => by
    by_cases hb : b = a
    · subst hb
      rw [upd_same] at e
      cases e
      exact new
    · rw [upd_ne hb] at e
      exact (I.hok b u e).stay (fun c v _ q => q) (fun c q => by rw [upd_ne (ne_of_none q hn)]; exact q) fun c xs q => by rw [upd_ne (ne_of_none q hn)]; exact q
  len := I.len
end
/-- what the clause wishes of an exception of the body -/
def wKeep (K : PySem.W.Frag) (c : Value) (i : Nat) (ts : Addr → Value → Option Addr → TS) (Wout : WX) (D : Ends) : WX := fun cls d σ H =>
  ∃ b, PySem.W.exmOne K cls c = some b ∧ (b = true → ∀ a, H a = none → ts a cls d { nx := fun σ' H' => H' a = none → D.nx (σ'.set i none) (upd H' a (.ext (excAt cls d a))), rt := fun _ _ => False, bk := fun _ _ => False, ct := fun _ _ => False } (σ.set i (some (.ref a))) H) ∧
    (b = false → Wout cls d σ H)
section
variable {X : Cx} {x n : Str} {c : Value} {i : Nat} {body suite : List Stmt} {b₀ : Stmt} {np pos pos' : Pos} {tb : WX → TS} {ts : Addr → Value → Option Addr → TS} {Wout : WX}
theorem ps_try_keep (hs : X.stack = X.env :: X.outer) (hf : X.env.frame = some X.env.locals) (hN : X.N.Nodup) (hi : X.N[i]? = some n) (hln : X.env.kindOf n = some .local) (hc : Names X x c) (tk : Takes X Wout) (hex : X.ex = [])
    (hb : ∀ (W : WX) (pn : List (Addr × Obj)) (xe : Value → Shared → Prop), Takes (X.tr pn xe) W → PassesOwn (model X.prog X.w) X.A X.env xe → PSs (X.tr pn xe) body (tb W))
    (hsu : ∀ (a : Addr) (oe : Obj) (cls : Value) (d : Option Addr) (pn : List (Addr × Obj)), Zc cls d oe → (∃ vs, oe.data = .fields vs) → PSs (X.suite a ((a, oe) :: pn)) (b₀ :: suite) (ts a cls d)) :
    PS X (.Try body [.ExceptHandler (some (.Name x np)) (some n) (b₀ :: suite) pos'] [] [] pos) (fun D σ H => tb (wKeep X.K c i ts Wout D) D σ H) := by
  refine ⟨fun pins s σ H D I h => ?_⟩
  have ok := I.ok
  have hfr : X.A.frames = some (X.env :: X.outer) := by rw [ok.frames, hs]
  have hloc : Loc X.env.scope n := .inl hln
  refine wpAny_Try_except ?_
  refine wpAny_mono ((hb (wKeep X.K c i ts Wout D) (X.pn ++ pins) (fun e s₁ => wpAny (model X.prog X.w) X.A (noteFrame e X.env) (fun _ s₂ => wpAny (model X.prog X.w) X.A (setFlight e none) (fun _ s₃ =>
    wpAny (model X.prog X.w) X.A (handleBy e X.env [.ExceptHandler (some (.Name x np)) (some n) (b₀ :: suite) pos']) (SP X pins D) X.xe s₃) X.xe s₂) X.xe s₁) (fun u s' xx => ?_) PassesOwn.looking).run [] s σ H D (I.toTry _) h) (fun f s1 hsp => ?_) (fun e s1 he => he)
  · -- the catch
    obtain ⟨a, B, sI, pins', σ', H', cls, d, rfl, J', nb, up, sky, na, os, ag, b, hb1, hyes, hno⟩ := xx
    have J : Inv X pins σ' H' sI := J'.ofTry ok
    have sky' : Sky B (X.env :: X.outer) a (Zc cls d) X.env.locals s'.heap := by rw [← hs]; exact sky
    show wpAny (model X.prog X.w) X.A (noteFrame (.ref a) X.env) _ _ _
    refine Sky.land Zc.steady hfr hf sky' fun h3 fl3 up3 => ?_
    have J3 : Inv X pins σ' H' { s' with heap := h3 } := J.landed nb fl3.1 (up.trans up3) os ag
    obtain ⟨oe3, vs3, he3, hz3, hd3⟩ := fl3.there
    have notFr : ∀ {h : Heap} {o : Obj} {vs : Array Value}, h.FunFrames B (X.env :: X.outer) → h.get? a = some o → o.data = .fields vs → a ∉ frs (X.env :: X.outer) := fun {h o vs} ff e dd hm => by
      obtain ⟨_, o', e', hnf⟩ := ff.mem hm
      rw [e] at e'; cases e'
      exact hnf _ dd
    have nfr := notFr fl3.2.2.1 he3 hd3
    have nL : a ≠ X.env.locals := fun z => nfr (List.mem_filterMap.mpr ⟨X.env, List.mem_cons_self, by rw [hf, z]⟩)
    have nF : a ∉ X.fs := fun hm => by
      obtain ⟨e, he, q⟩ := List.mem_filterMap.mp hm
      exact nfr (List.mem_filterMap.mpr ⟨e, List.mem_cons_of_mem _ he, q⟩)
    have nI : sI.heap.get? a = none := by
      cases e : sI.heap.get? a with
      | none => rfl
      | some o =>
        have z := nb a o e (by rw [hs]; exact nfr)
        rw [fl3.2.1] at z
        cases z
    have n0 : X.s_0.heap.get? a = none := by
      cases e : X.s_0.heap.get? a with
      | none => rfl
      | some o =>
        obtain ⟨o', z⟩ := J.base.there a o e (by rw [hex]; exact List.not_mem_nil)
        rw [nI] at z
        cases z
    have npp : ∀ p ∈ X.pn ++ pins, p.1 ≠ a := fun p hp z => by
      have q := (J.pin p hp).1
      rw [z, nI] at q
      cases q
    have S3 := J3.suite he3 hd3 na nL nF
    refine wpAny_handleBy_cons (codeAny_handlers_test ?_) (by intro q; cases q)
    have LT : PySem.W.Looks (model X.prog X.w) h3 (typeOf (.ref a)) cls := fun A Q E s k q => wpAny_typeOf_ref (k _ _ he3) (by rw [hz3.1]; exact q)
    have LM := PySem.W.exm_one (M := model X.prog X.w) (J3.kIn) LT hb1
    have test : ∀ {Q : Value → Shared → Prop} {E : Value → Shared → Prop}, Q c { s' with heap := h3 } → wpAny (model X.prog X.w) (X.A.mark (some (.ref a))) (eval (.Name x np) X.env) Q E { s' with heap := h3 } := fun {Q E} q => by
      obtain ⟨hg, hdbg, hm | ⟨hm, hv, hnn⟩⟩ := hc
      · exact ld_glob (X := X.suite a ((a, oe3) :: (X.pn ++ pins))) S3 hg hm q hdbg
      · exact ld_blt (X := X.suite a ((a, oe3) :: (X.pn ++ pins))) S3 hg hm hv q hnn hdbg
    refine test (LM.here ?_)
    cases b with
    | true =>
      refine codeAny_handlers_suite_as ?_
      refine HandSPX.lands_againZ fl3 fun h4 fl4 up4 => ?_
      have J4 : Inv X pins σ' H' { s' with heap := h4 } := J.landed nb fl4.1 ((up.trans up3).trans up4) os ag
      obtain ⟨oe4, vs4, he4, hz4, hd4⟩ := fl4.there
      have S4 := J4.suite he4 hd4 na nL nF
      refine store_ok (X := X.suite a ((a, oe4) :: (X.pn ++ pins))) (v := .ref a) S4 hN hi hloc rfl (fun s5 S5 => ?_) (.inr hln)
      refine wpAny_mono ((hsu a oe4 cls d (X.pn ++ pins) hz4 ⟨_, hd4⟩).run [] s5 _ H' _ S5 (hyes rfl a na)) (fun f s6 hsp => ?_) (fun _ _ z => False.elim z)
      cases f with
      | next =>
        obtain ⟨σ6, H6, S6, q6⟩ := hsp
        obtain ⟨pa, pb, _⟩ := S6.pin (a, oe4) (List.mem_append_left _ List.mem_cons_self)
        have I6 := S6.unsuite ok
        have T6 := track (o := .ext (excAt cls d a)) I6 pb pa hd4 (excAt_ok pa hz4 hd4) n0 nL npp
        exact gone_ok T6 hN hi hln fun s7 J7 => ⟨_, _, J7, q6 pb⟩
      | brk =>
        obtain ⟨σ6, H6, S6, q6⟩ := hsp
        exact False.elim q6
      | cont =>
        obtain ⟨σ6, H6, S6, q6⟩ := hsp
        exact False.elim q6
      | ret u =>
        obtain ⟨v6, σ6, H6, S6, r6, q6⟩ := hsp
        exact False.elim q6
    | false =>
      show wpAny _ X.A (handleBy (.ref a) X.env []) _ _ _
      refine wpAny_handleBy_nil ?_
      obtain ⟨k1, k2, k3, oe, vs, T, oT, ts', he, hz, hd, h1, hr⟩ := id fl3
      unfold PySem.passOn
      refine wpAny_bind (wpAny_field he hd h1 ?_)
      rw [if_neg (show ¬ ((Value.ref T == Value.none) = true) from by simp)]
      have fin : wpAny (model X.prog X.w) X.A (setFlight (.ref a) X.env.frame) (fun _ s4 => wpAny (model X.prog X.w) X.A (throw (.ref a) : Sem Flow) (SP X pins D) X.xe s4) X.xe { s' with heap := h3 } := by
        rw [hf]
        refine HandSPX.setFlight_upZ fl3 fun h4 hh4 up4 => wpAny_throw (tk _ _ ?_)
        exact ⟨a, B, sI, pins, σ', H', cls, d, rfl, J, nb, (up.trans up3).trans up4, .inr (.inr (by rw [hs]; exact hh4)), na, os, ag, hno rfl⟩
      first
        | exact wpAny_bind (wpAny_pure (wpAny_bind fin))
        | exact wpAny_bind fin
  · cases f with
    | next =>
      obtain ⟨σ', H', J', q⟩ := hsp
      exact wpAny_execs_nil ⟨σ', H', J'.ofTry ok, q⟩
    | brk =>
      obtain ⟨σ', H', J', q⟩ := hsp
      exact ⟨σ', H', J'.ofTry ok, q⟩
    | cont =>
      obtain ⟨σ', H', J', q⟩ := hsp
      exact ⟨σ', H', J'.ofTry ok, q⟩
    | ret u =>
      obtain ⟨v, σ', H', J', r, q⟩ := hsp
      exact ⟨v, σ', H', J'.ofTry ok, r, q⟩
end
section
variable {X : Cx} {Wx : WX}
def fTryK (tab : Str → Option Bool) (i j : Nat) (g : FS) : FS := fun env st => match g env st with
  | .ex C fs env1 st1 => (match tab C with
    | some true => if i < env1.length then .nx (((env1.set i (some (.ref st1.length))).set j (some (.ref st1.length))).set i none) (st1 ++ [.exc C fs]) else .bad
    | some false => .ex C fs env1 st1
    | none => .bad)
  | o => o
theorem s_tryK {x n m : Str} {i j : Nat} {body : List Stmt} {np pm pn spos pos pos' : Pos} {tab : Str → Option Bool} {g : FS} (T : XTryOk (gx X) x tab) (hs : X.stack = X.env :: X.outer) (hf : X.env.frame = some X.env.locals) (hN : X.N.Nodup) (tk : Takes X Wx) (hex : X.ex = [])
    (hb : ∀ (W : WX) (pn : List (Addr × Obj)) (xe : Value → Shared → Prop), Takes (X.tr pn xe) W → PassesOwn (model X.prog X.w) X.A X.env xe → PSs (X.tr pn xe) body (tS (gx X) W g))
    (hset : ∀ (a : Addr) (oe : Obj) (pn' : List (Addr × Obj)), PS (X.suite a ((a, oe) :: pn')) (.Assign [.Name m pm] (.Name n pn) spos) (tAsg (tVar i) (gName j)))
    (hi : X.N[i]? = some n := by rfl) (hln : X.env.kindOf n = some .local := by rfl) (hg : Gl X x := by rfl) (hdb : (x == ("__debug__" : Str)) = false := by decide) :
    PS X (.Try body [.ExceptHandler (some (.Name x np)) (some n) [.Assign [.Name m pm] (.Name n pn) spos] pos'] [] [] pos) (tS (gx X) Wx (fTryK tab i j g)) := by
  obtain ⟨Ba, hB, hT⟩ := T
  refine (ps_try_keep (c := .ref Ba) (i := i) (ts := fun a cls d => tAsg (tVar i) (gName j)) hs hf hN hi hln ⟨hg, hdb, .inl hB⟩ tk hex hb (fun a oe cls d pn' hz hfl => pss_one (hset a oe pn'))).imp fun E s H h => ?_
  obtain ⟨env, l, st, en, sm, p⟩ := h
  refine ⟨env, l, st, en, sm, ?_⟩
  unfold fTryK at p
  cases e : g env st with
  | nx env1 st1 => rw [e] at p; exact p
  | rt w st1 => rw [e] at p; exact p
  | bk env1 st1 => rw [e] at p; exact p
  | ct env1 st1 => rw [e] at p; exact p
  | bad => rw [e] at p; exact p.elim
  | ex C fs env1 st1 =>
    rw [e] at p
    intro r' H' s' ca d gr sm' en' ex
    obtain ⟨Ca, rfl, m', k⟩ := ex
    dsimp only at p
    split at p
    · rename_i hb'
      split at p
      · rename_i hl
        refine ⟨true, hT _ _ hb' _ m', fun _ a ha => ?_, fun z => nomatch z⟩
        refine ⟨.ref a, by rw [List.getElem?_set_self (by rw [en'.1]; exact hl)], fun hna => ?_⟩
        have kp : ∀ c u, H' c = some u → upd H' a (.ext (excAt (.ref Ca) d a)) c = some u := fun c u q => by
          rw [upd_ne (ne_of_none q ha)]
          exact q
        have sy := Stay.more kp
        have gr2 : Grow r' H' (r' ++ [a]) (upd H' a (.ext (excAt (.ref Ca) d a))) := Grow.one sy
        have sm2 : Sim (gx X) (r' ++ [a]) (upd H' a (.ext (excAt (.ref Ca) d a))) (st1 ++ [.exc C fs]) := sm'.new ha kp ⟨Ca, d, m', upd_same, by
          rcases k with k | ⟨da, vs, k1, k2, k3⟩
          · exact .inl k
          · exact .inr ⟨da, vs, k1, kp _ _ k2, k3.grow gr2⟩⟩ sy
        have rn : Rep (gx X) (r' ++ [a]) (upd H' a (.ext (excAt (.ref Ca) d a))) (.ref st1.length) (.ref a) := .ref (by
          rw [List.getElem?_append_right (by rw [sm'.len]; exact Nat.le_refl _), sm'.len]
          simp)
        exact p _ _ _ (gr.trans gr2) sm2 ((((en'.grow gr2).set rn).set rn).forget)
      · exact p.elim
    · rename_i hb'
      exact ⟨false, hT _ _ hb' _ m', fun z => (nomatch z), fun _ => p r' H' s' _ d gr sm' en' ⟨Ca, rfl, m', k⟩⟩
    · exact p.elim
end
end Sw
/-! Sw10: shifts, constants, methods, sorted, is True, calls of what a name holds, a, *b = .. -/
namespace Sw
open PySem PySem.Spec PyProof.Rows L2
def wShr : W → W → Sto → An W := wIc (fun _ j => decide (0 ≤ j)) fun i j => .int (i / 2 ^ j.toNat)
theorem rf_shr {G : Gx} : OpRf G (rI (fun _ j => 0 ≤ j) fun i j => .int (i / 2 ^ j.toNat)) wShr := rf_Ic (fun i j h => of_decide_eq_true h) fun _ _ _ _ _ => .int _
def wAddI : W → W → Sto → An W
  | .int i, .int j, st => .ok (.int (i + j)) st
  | _, _, _ => .bad
theorem rf_addI {G : Gx} : OpRf G (rI0 fun i j => .int (i + j)) wAddI := by
  intro x y st l H vx vy Q Wx s sm rx ry p
  cases rx <;> cases ry <;> first | exact p.elim | exact ⟨_, _, rfl, rfl, Po.ok p sm _ (.int _)⟩
/-! ### is True -/
def wIsB : W → W → Sto → Option Bool
  | .bl a, .bl b, _ => some (decide (a = b))
  | _, _, _ => none
theorem rb_isB {G : Gx} : OpRb G rIsB wIsB := by
  intro x y st l H vx vy Q k sm rx ry e q
  cases rx <;> cases ry <;> first | cases e | skip
  exact ⟨_, _, rfl, rfl, q⟩
def wNotB : W → W → Sto → Option Bool
  | .bl a, .bl b, _ => some (!decide (a = b))
  | _, _, _ => none
theorem rb_notB {G : Gx} : OpRb G rNotB wNotB := by
  intro x y st l H vx vy Q k sm rx ry e q
  cases rx <;> cases ry <;> first | cases e | skip
  exact ⟨_, _, rfl, rfl, q⟩
/-! ### sorted whole numbers -/
def leI (a b : Int) : Bool := decide (a ≤ b)
def wSortI : List W → Sto → An W
  | [x], st => (optB ((getL st x).bind getI) st).bind fun ns _ => .ok (.ref st.length) (st ++ [.lst ((ns.mergeSort leI).map .int)])
  | _, _ => .bad
theorem sort_uniq {ns ms : List Int} (h : ms.Perm ns) (p : ms.Pairwise (· ≤ ·)) : ms = ns.mergeSort leI := by
  have p2 : (ns.mergeSort leI).Pairwise (· ≤ ·) := (List.pairwise_mergeSort (le := leI) (fun a b c h1 h2 => decide_eq_true (Int.le_trans (of_decide_eq_true h1) (of_decide_eq_true h2))) (fun a b => by
    unfold leI
    rcases Int.le_total a b with h | h
    · rw [decide_eq_true h]; rfl
    · rw [decide_eq_true h, Bool.or_true]) ns).imp fun h => of_decide_eq_true h
  exact List.Perm.eq_of_pairwise (fun a b _ _ h1 h2 => Int.le_antisymm h1 h2) p p2 (h.trans (List.mergeSort_perm ns leI).symm)
section
variable {X : Cx}
theorem rf_sortI {G : Gx} : CaRf G (rSortedI G.K) wSortI := by
  intro ws st l H vs Q Wx s sm rx p
  cases rx with
  | nil => exact p.elim
  | @cons w v _ _ h k =>
    cases k with
    | cons _ _ => exact p.elim
    | nil =>
      simp only [wSortI] at p
      obtain ⟨ns, e, p⟩ : ∃ ns, (getL st w).bind getI = some ns ∧ Po G Wx s (fun w r' H' => ∀ v, Rep G r' H' w v → Q v H') l H (.ok (.ref st.length) (st ++ [.lst ((ns.mergeSort leI).map .int)])) := by
        cases e : (getL st w).bind getI with
        | none => rw [e] at p; exact p.elim
        | some ns => rw [e] at p; exact ⟨ns, rfl, p⟩
      obtain ⟨l', e1, e2⟩ := Option.bind_eq_some_iff.mp e
      obtain ⟨a, xs, rfl, hq, kk⟩ := getL_rep sm h e1
      have ex := getI_rep kk e2
      subst ex
      refine ⟨a, ns, rfl, hq, fun ns' p' hp hs hn => ?_⟩
      rw [sort_uniq hp hs]
      exact Po.newL sm (repL_ints _) p p' hn
end
/-! ### int(text, 16) -/
def wIntH : List W → Sto → An W
  | [.str z, .int 16], st => if z.cps.toList ≠ [] ∧ z.cps.toList.length ≤ 640 ∧ (∀ c ∈ z.cps.toList, (48 ≤ c ∧ c ≤ 57) ∨ (97 ≤ c ∧ c ≤ 102)) then .ok (.int ((Hx.hexNum z.cps.toList : Nat) : Int)) st else .bad
  | _, _ => .bad
theorem wIntH_is (ws : List W) (st : Sto) : wIntH ws st = .bad ∨ ∃ z : Str, ws = [.str z, .int 16] ∧ (z.cps.toList ≠ [] ∧ z.cps.toList.length ≤ 640 ∧ ∀ c ∈ z.cps.toList, (48 ≤ c ∧ c ≤ 57) ∨ (97 ≤ c ∧ c ≤ 102)) ∧ wIntH ws st = .ok (.int ((Hx.hexNum z.cps.toList : Nat) : Int)) st := by
  unfold wIntH
  split
  · split
    · rename_i h
      exact .inr ⟨_, rfl, h, rfl⟩
    · exact .inl rfl
  · exact .inl rfl
theorem rf_intH {G : Gx} : CaRf G rIntHex wIntH := by
  intro ws st l H vs Q Wx s sm rx p
  rcases wIntH_is ws st with e | ⟨z, rfl, hz, e⟩
  · rw [e] at p; exact p.elim
  · rw [e] at p
    cases rx with
    | cons h k =>
      cases k with
      | cons h2 k2 =>
        cases k2
        cases h
        cases h2
        refine ⟨z.cps.toList, ?_, hz.1, hz.2.1, fun c hc => ?_, Po.ok p sm _ (.int _)⟩
        · have : SX.S z.cps.toList = z := by
            obtain ⟨c⟩ := z
            simp [SX.S]
          rw [this]
        · rcases hz.2.2 c hc with q | q
          · exact .inl q
          · exact .inr (.inl q)
/-! ### methods -/
section
variable {X : Cx} {Wx : WX} {pos : Pos} {e o : Expr} {es : List Expr} {fa fb : FE} {g : FA} {apos cpos : Pos}
theorem e_append (ho : PE X o (tE (gx X) Wx fa)) (ha : PA X (e :: es) (tL (gx X) Wx g)) (hbase : attributeBase o "append" X.env (eval o X.env) = eval o X.env := by rfl)
    (hfew : ((backTo cpos (starEach (e :: es) X.env)).all (fun x => !x.1) && (backToKw cpos (keywordEach [] X.env)).all (fun x => x.1.isSome)
      && decide ((e :: es).length + ([] : List Keyword).length + (if ([] : List Keyword).isEmpty then 0 else 1) < 30)) = true := by rfl)
    (hline : (apos.endLine == cpos.line) = true := by rfl) (hs : starEach (e :: es) X.env = (false, eval e X.env) :: starEach es X.env := by rfl) (hplain : (backTo cpos (starEach es X.env)).any (·.1) = false := by rfl) :
    PE X (.Call (.Attribute o "append" apos) (e :: es) [] cpos) (tE (gx X) Wx (fMt isLst wApp fa g)) :=
  (pe_bm PySem.F.plainAttrs_list PySem.F.slot_list_append PySem.F.type_list_append mt_append ho ha hbase hfew hline hs hplain).imp fun s H Q h => mt_imp isLst_rep rf_app h
/-- x.pop(i) -/
def wPop : W → List W → Sto → An W
  | .ref n, [.int i], st => match st[n]? with
    | some (.lst l) => if 0 ≤ i ∧ i < 2 ^ 60 then (match l[i.toNat]? with
      | some w => .ok w (st.set n (.lst (l.eraseIdx i.toNat)))
      | none => .bad) else .bad
    | _ => .bad
  | _, _, _ => .bad
theorem RepL.eraseIdx {G : Gx} {r : List Addr} {H : Hp} : ∀ {ws : List W} {vs : List V} (n : Nat), RepL G r H ws vs → RepL G r H (ws.eraseIdx n) (vs.eraseIdx n)
  | _, _, _, .nil => .nil
  | _, _, 0, .cons _ k => k
  | _, _, n + 1, .cons h k => .cons h (RepL.eraseIdx n k)
theorem wPop_is (o : W) (ws : List W) (st : Sto) : wPop o ws st = .bad ∨ ∃ (n i : Nat) (l : List W) (w : W), o = .ref n ∧ ws = [.int i] ∧ st[n]? = some (.lst l) ∧ i < 2 ^ 60 ∧ l[i]? = some w ∧ wPop o ws st = .ok w (st.set n (.lst (l.eraseIdx i))) := by
  by_cases h : ∃ n i, o = .ref n ∧ ws = [.int i]
  · obtain ⟨n, i, rfl, rfl⟩ := h
    cases hl : st[n]? with
    | none => exact .inl (by simp only [wPop, hl])
    | some ob =>
      cases ob with
      | lst l =>
        by_cases hi : 0 ≤ i ∧ i < 2 ^ 60
        · obtain ⟨k, rfl⟩ : ∃ k : Nat, i = k := ⟨i.toNat, by omega⟩
          cases hw : l[k]? with
          | none => exact .inl (by simp only [wPop, hl, if_pos hi, Int.toNat_natCast, hw])
          | some w => exact .inr ⟨n, k, l, w, rfl, rfl, hl, by omega, hw, by simp only [wPop, hl, if_pos hi, Int.toNat_natCast, hw]⟩
        · exact .inl (by simp only [wPop, hl, if_neg hi])
      | _ => exact .inl (by simp only [wPop, hl])
  · left
    unfold wPop
    split
    · exact absurd ⟨_, _, rfl, rfl⟩ h
    · rfl
theorem rf_pop {G : Gx} : MtRf G rPopAt wPop := by
  intro o ws st l H vo vs Q Wx s sm ro rx p
  rcases wPop_is o ws st with e | ⟨n, i, l', w, rfl, rfl, hl, hi, hw, e⟩
  · rw [e] at p; exact p.elim
  · rw [e] at p
    cases ro with
    | @ref _ a h =>
      cases rx with
      | cons h1 k1 =>
        cases k1
        cases h1
        obtain ⟨us, e2, kk⟩ := sm.got hl h
        obtain ⟨v, e3, rv⟩ := kk.get hw
        have sy : Stay H (upd H a (.lst (us.eraseIdx i))) := Stay.lst e2
        have hlt := (List.getElem?_eq_some_iff.mp e3).1
        refine ⟨a, us, i, i, v, rfl, rfl, e2, by omega, by omega, ?_, e3, p l _ (Grow.same sy) (sm.put h e2 (fun _ z => by cases z) (fun _ z => by cases z) sy ⟨_, upd_same, (RepL.eraseIdx _ kk).grow (Grow.same sy)⟩) _ (rv.grow (Grow.same sy))⟩
        unfold seqIndex?
        rw [if_neg (show ¬ ((i : Int) < 0) by omega)]
        simp [hlt]
theorem e_pop (ho : PE X o (tE (gx X) Wx fa)) (ha : PA X (e :: es) (tL (gx X) Wx g)) (hbase : attributeBase o "pop" X.env (eval o X.env) = eval o X.env := by rfl)
    (hfew : ((backTo cpos (starEach (e :: es) X.env)).all (fun x => !x.1) && (backToKw cpos (keywordEach [] X.env)).all (fun x => x.1.isSome)
      && decide ((e :: es).length + ([] : List Keyword).length + (if ([] : List Keyword).isEmpty then 0 else 1) < 30)) = true := by rfl)
    (hline : (apos.endLine == cpos.line) = true := by rfl) (hs : starEach (e :: es) X.env = (false, eval e X.env) :: starEach es X.env := by rfl) (hplain : (backTo cpos (starEach es X.env)).any (·.1) = false := by rfl) :
    PE X (.Call (.Attribute o "pop" apos) (e :: es) [] cpos) (tE (gx X) Wx (fMt isLst wPop fa g)) :=
  (pe_bm PySem.F.plainAttrs_list PySem.F.slot_list_pop PySem.F.type_list_pop mt_popAt ho ha hbase hfew hline hs hplain).imp fun s H Q h => mt_imp isLst_rep rf_pop h
/-! ### sep.join(list), text.split(sep) -/
def getT : List W → Option (List Str)
  | [] => some []
  | .str b :: l => (getT l).map (b :: ·)
  | _ => none
theorem getT_rep {G : Gx} {r : List Addr} {H : Hp} : ∀ {l : List W} {vs : List V} {bs : List Str}, RepL G r H l vs → getT l = some bs → vs = bs.map V.str
  | _, _, _, .nil, e => by cases e; rfl
  | _, _, _, .cons h k, e => by
    cases h with
    | str b =>
      simp only [getT] at e
      obtain ⟨bs, e1, e2⟩ := Option.map_eq_some_iff.mp e
      subst e2
      rw [getT_rep k e1]
      rfl
    | _ => simp [getT] at e
def isStr : W → Bool
  | .str _ => true
  | _ => false
def fM1 (g : W → W → Sto → An W) (fa fb : FE) : FE := fun env st => (fa env st).bind fun x st1 => if isStr x = true then (fb env st1).bind fun y st2 => g x y st2 else .bad
def M1Rf (G : Gx) (r : V → List V → Hp → VK → Prop) (g : W → W → Sto → An W) : Prop := ∀ (x y : W) (st : Sto) (l : List Addr) (H : Hp) (vx vy : V) (Q : VK) (Wx : WX) (s : L2.St), Sim G l H st → Rep G l H x vx → Rep G l H y vy →
  Po G Wx s (fun w r' H' => ∀ v, Rep G r' H' w v → Q v H') l H (g x y st) → r vx [vy] H Q
theorem m1_imp {r : V → List V → Hp → VK → Prop} {gw : W → W → Sto → An W} (hg : M1Rf (gx X) r gw) {s : L2.St} {H : Hp} {Q : VK} (h : tE (gx X) Wx (fM1 gw fa fb) s H Q) : tM1 r (tE (gx X) Wx fa) (tE (gx X) Wx fb) s H Q := by
  obtain ⟨env, l, st, en, sm, p⟩ := h
  refine ⟨env, l, st, en, sm, (Po.bind p).imp fun x l1 H1 g1 ⟨st1, sm1, _, p1⟩ vx rx => ?_⟩
  obtain ⟨hs, p1⟩ := ite_bad p1
  have hx : ∃ a, vx = .str a := by
    cases rx with
    | str z => exact ⟨z, rfl⟩
    | _ => cases hs
  refine ⟨hx, env, l1, st1, en.grow g1, sm1, (Po.bind p1).imp fun y l2 H2 g2 ⟨st2, sm2, _, p2⟩ vy ry => ?_⟩
  exact hg x y st2 l2 H2 vx vy Q Wx s sm2 (rx.grow g2) ry p2
def wJoin : W → W → Sto → An W
  | .str a, y, st => (optB ((getS st y).bind getT) st).bind fun ys _ => if (ys.map (·.length)).sum + ys.length * a.length ≤ 16777216 then .ok (.str (Txt.join a ys)) st else .bad
  | _, _, _ => .bad
theorem rf_join {G : Gx} : M1Rf G (fun x xs H Q => ∃ a p, ∃ ys : List Str, x = .str a ∧ xs = [.ref p] ∧ (SqL G.K H p (ys.map V.str) ∨ SqT G.K H p (ys.map V.str)) ∧ (ys.map (·.length)).sum + ys.length * a.length ≤ 16777216 ∧ Q (.str (Txt.join a ys)) H) wJoin := by
  intro x y st l H vx vy Q Wx s sm rx ry p
  cases rx with
  | str a =>
    simp only [wJoin] at p
    cases e : (getS st y).bind getT with
    | none => rw [e] at p; exact p.elim
    | some ys =>
      rw [e] at p
      obtain ⟨hz, p⟩ := ite_bad p
      obtain ⟨l', e1, e2⟩ := Option.bind_eq_some_iff.mp e
      obtain ⟨p', xs, rfl, hq, kk⟩ := getS_rep sm ry e1
      have ex := getT_rep kk e2
      subst ex
      exact ⟨a, p', ys, rfl, rfl, hq, hz, Po.ok p sm _ (.str _)⟩
  | _ => exact p.elim
theorem e_join (ho : PE X o (tE (gx X) Wx fa)) (he : PE X e (tE (gx X) Wx fb)) (h : PE X o (tE (gx X) Wx fa) → PE X e (tE (gx X) Wx fb) → PE X (.Call (.Attribute o "join" apos) [e] [] pos) (tM1 (fun x xs H Q => ∃ a p, ∃ ys : List Str, x = .str a ∧ xs = [.ref p] ∧ (SqL X.K H p (ys.map V.str) ∨ SqT X.K H p (ys.map V.str)) ∧ (ys.map (·.length)).sum + ys.length * a.length ≤ 16777216 ∧ Q (.str (Txt.join a ys)) H) (tE (gx X) Wx fa) (tE (gx X) Wx fb))) :
    PE X (.Call (.Attribute o "join" apos) [e] [] pos) (tE (gx X) Wx (fM1 wJoin fa fb)) := (h ho he).imp fun s H Q h => m1_imp rf_join h
def wSplit : W → W → Sto → An W
  | .str a, .str b, st => if (b.length == 0) = false ∧ a.length + 2 ≤ sizeLine then .ok (.ref st.length) (st ++ [.lst ((Txt.split a b).map .str)]) else .bad
  | _, _, _ => .bad
theorem repL_strs {G : Gx} {r : List Addr} {H : Hp} : ∀ ys : List Str, RepL G r H (ys.map W.str) (ys.map V.str)
  | [] => .nil
  | y :: ys => .cons (.str y) (repL_strs ys)
theorem rf_split {G : Gx} : M1Rf G (fun x xs H Q => ∃ a b, x = .str a ∧ xs = [.str b] ∧ (b.length == 0) = false ∧ a.length + 2 ≤ sizeLine ∧ rNewStrs (Txt.split a b) H Q) wSplit := by
  intro x y st l H vx vy Q Wx s sm rx ry p
  cases rx with
  | str a =>
    cases ry with
    | str b =>
      obtain ⟨hz, p⟩ := ite_bad p
      exact ⟨a, b, rfl, rfl, hz.1, hz.2, fun p' hp => Po.newL sm (repL_strs _) p p' hp⟩
    | _ => exact p.elim
  | _ => cases ry <;> exact p.elim
theorem e_split (ho : PE X o (tE (gx X) Wx fa)) (he : PE X e (tE (gx X) Wx fb)) (h : PE X o (tE (gx X) Wx fa) → PE X e (tE (gx X) Wx fb) → PE X (.Call (.Attribute o "split" apos) [e] [] pos) (tM1 (fun x xs H Q => ∃ a b, x = .str a ∧ xs = [.str b] ∧ (b.length == 0) = false ∧ a.length + 2 ≤ sizeLine ∧ rNewStrs (Txt.split a b) H Q) (tE (gx X) Wx fa) (tE (gx X) Wx fb))) :
    PE X (.Call (.Attribute o "split" apos) [e] [] pos) (tE (gx X) Wx (fM1 wSplit fa fb)) := (h ho he).imp fun s H Q h => m1_imp rf_split h
/-! ### module constants -/
theorem e_gi {x : Str} {i : Int} {p : Pos} (h : ∃ t, X.mg x = some (.int i t)) (hg : Gl X x := by rfl) (hd : (x == ("__debug__" : Str)) = false := by decide) : PE X (.Name x p) (tE (gx X) Wx (fC (.int i))) := by
  obtain ⟨t, h⟩ := h
  exact e_c (pe_glob (v := .int i) hg h ⟨t, rfl⟩ hd) fun r H => .int i
theorem e_gs {x z : Str} {p : Pos} (h : ∃ t, X.mg x = some (.str z t)) (hg : Gl X x := by rfl) (hd : (x == ("__debug__" : Str)) = false := by decide) : PE X (.Name x p) (tE (gx X) Wx (fC (.str z))) := by
  obtain ⟨t, h⟩ := h
  exact e_c (pe_glob (v := .str z) hg h ⟨t, rfl⟩ hd) fun r H => .str z
/-- a constant tuple of flat things -/
theorem e_gt {x : Str} {ws : List W} {vs : List V} {p : Pos} {a : Addr} (h : X.mg x = some (.ref a) ∧ (∀ H, SqT X.K H a vs) ∧ ∀ r H, RepL (gx X) r H ws vs) (hg : Gl X x := by rfl) (hd : (x == ("__debug__" : Str)) = false := by decide) : PE X (.Name x p) (tE (gx X) Wx (fC (.tup ws))) :=
  (pe_glob (v := .ref a) hg h.1 rfl hd).imp fun s H Q q => by
    obtain ⟨env, r, st, en, sm, p⟩ := q
    exact Po.ok p sm _ (.tup (h.2.1 H) (h.2.2 r H))
/-! ### a, *b = a list -/
def gStarW (gs : FGs) : FG := fun w env st => match getL st w with
  | some (x :: l) => gs [x, .ref st.length] env (st ++ [.lst l])
  | _ => .bad
theorem g_star {es' : List Expr} {k : Nat} {gs : FGs} (h : PGs X es' (tGs (gx X) gs)) (hc : X.calm = true := by rfl) (hm : (assignEach es X.env).map (·.2) = (assignEach es' X.env).map (·.2) := by rfl)
    (hn : (assignEach es X.env).length = 2 := by rfl) (hst : (assignEach es X.env).findIdx? (·.1) = some 1 := by rfl) : PG X (.Tuple es k pos) (tG (gx X) (gStarW gs)) := by
  refine ⟨fun pins s σ H v u Q I r hw => (pg_star hc h hm hn hst).run pins s σ H v u Q I r ?_⟩
  obtain ⟨w, env, l, st, rw', en, sm, p⟩ := hw
  simp only [gStarW] at p
  cases e : getL st w with
  | none => rw [e] at p; exact p.elim
  | some ws =>
    cases ws with
    | nil => rw [e] at p; exact p.elim
    | cons x ws =>
      rw [e] at p
      obtain ⟨a, vs, rfl, hq, kk⟩ := getL_rep sm rw' e
      cases kk with
      | @cons _ v _ vs h1 k1 =>
        refine ⟨a, v, vs, rfl, hq, fun q hn => ?_⟩
        have sy : Stay H (upd H q (.lst vs)) := Stay.new hn
        have gr : Grow l H (l ++ [q]) (upd H q (.lst vs)) := Grow.one sy
        refine ⟨_, env, l ++ [q], st ++ [.lst ws], .cons (h1.grow gr) (.cons (.ref ?_) .nil), en.grow gr, sm.newU (o := .lst ws) hn ⟨vs, upd_same, k1.grow gr⟩, SPo.grow gr p⟩
        rw [List.getElem?_append_right (by rw [sm.len]; exact Nat.le_refl _), sm.len]
        simp
end
end Sw
/-! Sw11: calls of what a name holds, recursion, keywords, list(range), {}. -/
namespace Sw
open PySem PySem.Spec PyProof.Rows L2
section
variable {P : Program} {w : World} {K : PySem.W.Frag} {mg : Str → Option Value} {base : Heap}
/-- says nothing -/
theorem fn_bad {k : Nat} {f : Addr} {fd : FuncData} {ps : List Str} : FnW P w K mg base k f fd ps (fun _ _ => .bad) :=
  ⟨fun vs H Q E h => h.1, fun A outer s H args us vs Q E hr he hb hv hs => by
    obtain ⟨_, _, _, _, _, _, z⟩ := hs
    exact z.elim⟩
/-- a function that a name may hold -/
structure AskOk (P : Program) (w : World) (K : PySem.W.Frag) (mg : Str → Option Value) (base : Heap) (k n : Nat) (x : Str) (F : FF) : Prop where
  ok : ∃ (f : Addr) (fd : FuncData) (ps : List Str), mg x = some (.ref f) ∧ FnW P w K mg base k f fd ps F ∧ PySem.W.keepIn K (.ref f) = true ∧ Binds K fd ps [] ∧ ps.length = n
end
section
variable {X : Cx} {Wx : WX} {pos p : Pos} {e : Expr} {es : List Expr} {fa : FE}
def fAsk (n i : Nat) (D : List (Str × FF)) (f : FA) : FE := fun env st => match env[i]? with
  | some (some (.gl x)) => (match D.lookup x with
    | some F => (f env st).bind fun ws st1 => if ws.length = n then F ws st1 else .bad
    | none => .bad)
  | _ => .bad
theorem e_ask {x : Str} {k n i : Nat} {D : List (Str × FF)} {g : FA} (hD : ∀ y F, D.lookup y = some F → AskOk X.prog X.w X.K X.mg X.base k n y F) (hr : Room k X.A) (tk : Takes X Wx) (ha : PA X (e :: es) (tL (gx X) Wx g)) (hN : X.N[i]? = some x := by rfl) (hv : Vis X.env.scope x := by first | exact Or.inl rfl | exact Or.inr (Or.inl rfl) | exact Or.inr (Or.inr rfl)) (hd : (x == ("__debug__" : Str)) = false := by decide)
    (hcd : (x == ("__classdict__" : Str)) = false := by decide) (he : starEach (e :: es) X.env = (false, eval e X.env) :: starEach es X.env := by rfl) (hpl : (backTo pos (starEach es X.env)).any (·.1) = false := by rfl) : PE X (.Call (.Name x p) (e :: es) [] pos) (tE (gx X) Wx (fAsk n i D g)) := by
  refine ⟨fun pins s σ H Q I h => ?_⟩
  obtain ⟨env, l, st, en, sm, q⟩ := h
  unfold fAsk at q
  split at q
  · rename_i y hy
    split at q
    · rename_i F hF
      obtain ⟨f, fd, ps, hm, Fk, hk, hb, hl⟩ := (hD y F hF).ok
      obtain ⟨v, hσ, rv⟩ := en.2 i _ hy
      have ev : v = .ref f := by
        cases rv with
        | gl h =>
          have h' : X.mg y = _ := h
          rw [hm] at h'
          cases h'
          rfl
      subst ev
      refine wpAny_Call_Name_kw (thn ((pe_var (pos := p) hN hv hd hcd).run pins s σ H (fun v H1 => v = .ref f ∧ H1 = H) I ⟨.ref f, hσ, rfl, rfl⟩) fun u s0 ⟨v, H0, I0, r0, e1, e2⟩ => ?_)
      subst e1 e2
      cases r0
      refine PySem.W.callWith_K (h₀ := X.base) I0.ok.mod.kin hk (thn (ha.run pos pins s0 σ H0 (fun vs H1 => spF (gx X) ps.length F vs H1 Q (WE Wx σ)) I0 ⟨env, l, st, en, sm, (Po.bind q).imp fun ws l1 H1 g1 ⟨st1, sm1, _, p1⟩ vs rx => ?_⟩) fun us s1 ⟨vs, H1, I1, r, q1⟩ => ⟨I1.kIn, ?_⟩) he hpl
      · obtain ⟨hl2, p1⟩ := ite_bad p1
        exact ⟨by rw [← rx.length, hl]; exact hl2, ws, l1, st1, rx, sm1, Po.wx p1 fun _ _ _ q => q⟩
      · exact run_fnS (E := WE Wx) Fk hr hb (passAt tk σ) I1 r q1
    · exact q.elim
  · exact q.elim
/-! ### keywords -/
def fFnK (n m : Nat) (F : FF) (f g : FA) : FE := fun env st => (f env st).bind fun ws st1 => (g env st1).bind fun zs st2 => if ws.length = n ∧ zs.length = m then (F (ws ++ zs) st2).noex else .bad
theorem k_nil : PK X [] (tL (gx X) Wx fNil) := ⟨fun pos pins s σ H Q I h => pk_nil.run pos pins s σ H Q I (by
  obtain ⟨env, l, st, en, sm, p⟩ := h
  exact Po.ok p sm _ .nil)⟩
theorem k_cons {nm : Option Str} {kpos : Pos} {kws : List Keyword} {g : FA} (h1 : PE X e (tE (gx X) Wx fa)) (h2 : PK X kws (tL (gx X) Wx g)) : PK X (⟨nm, e, kpos⟩ :: kws) (tL (gx X) Wx (fCons fa g)) := ⟨fun pos pins s σ H Q I h => (pk_cons h1 h2).run pos pins s σ H Q I (by
  obtain ⟨env, l, st, en, sm, p⟩ := h
  refine ⟨env, l, st, en, sm, (Po.bind p).imp fun x l1 H1 g1 ⟨st1, sm1, _, p1⟩ vx rx => ?_⟩
  refine ⟨env, l1, st1, en.grow g1, sm1, (Po.bind p1).imp fun y l2 H2 g2 ⟨st2, sm2, _, p2⟩ vy ry => ?_⟩
  exact Po.ok p2 sm2 _ (.cons (rx.grow g2) ry))⟩
theorem e_fnK {x : Str} {f : Addr} {fd : FuncData} {ps ks : List Str} {k n : Nat} {F : FF} {g1 g2 : FA} {kws : List Keyword} (Fk : FnW X.prog X.w X.K X.mg X.base k f fd ps F) (hr : Room k X.A) (hm : X.mg x = some (.ref f)) (hk : PySem.W.keepIn X.K (.ref f) = true) (hb : KBn X.K fd ps n ks (fun us ws => us ++ ws) (fun vs zs => vs ++ zs)) (hl : ps.length = n + ks.length)
    (hx : Passes (L2.CX X.prog X.w) X (fun _ _ _ => False)) (ha : PA X (e :: es) (tL (gx X) Wx g1)) (hkw : PK X kws (tL (gx X) Wx g2)) (hg : Gl X x := by rfl) (hall : (backToKw pos (keywordEach kws X.env)).all (·.1.isSome) = true := by rfl) (hks : (backToKw pos (keywordEach kws X.env)).filterMap (·.1) = ks := by rfl)
    (hdb : (x == ("__debug__" : Str)) = false := by decide) (he : starEach (e :: es) X.env = (false, eval e X.env) :: starEach es X.env := by rfl)
    (hpl : ((backTo pos (starEach (e :: es) X.env)).any (·.1) || (backToKw pos (keywordEach kws X.env)).any (·.1.isNone)) = false := by rfl) : PE X (.Call (.Name x p) (e :: es) kws pos) (tE (gx X) Wx (fFnK n ks.length F g1 g2)) :=
  (pe_callN Fk hr hg hm hk hb hx ha hkw hall hks hdb he hpl).imp fun s H Q h => by
    obtain ⟨env, l, st, en, sm, q⟩ := h
    refine ⟨env, l, st, en, sm, (Po.bind q).imp fun ws l1 H1 gr1 ⟨st1, sm1, _, p1⟩ vs rx => ?_⟩
    refine ⟨env, l1, st1, en.grow gr1, sm1, (Po.bind p1).imp fun zs l2 H2 gr2 ⟨st2, sm2, _, p2⟩ us ry => ?_⟩
    obtain ⟨hz, p2⟩ := ite_bad p2
    refine ⟨by rw [← rx.length]; exact hz.1, by rw [← ry.length]; exact hz.2, ?_, ws ++ zs, l2, st2, (rx.grow gr2).append ry, sm2, Po.wx (s' := []) (Po.noex (s' := s) p2) fun _ _ _ q => q.elim⟩
    show (vs ++ us).length = _
    rw [List.length_append, ← rx.length, ← ry.length, hz.1, hz.2, hl]
/-- all keyword-only parameters are given -/
theorem kb_all {K : PySem.W.Frag} {x qual : Str} {params : Arguments} {body : List Stmt} {scope : Scope} {kws : List (Str × V)} {f : Addr} {fd : FuncData} {ps ks : List Str} {n : Nat} (F : FunD K x qual params body scope [] kws f fd)
    (h : ∀ (kV doc pm : Value) (an : Option Addr) (cdv ct : Value) (us ws : List Value), us.length = n → ws.length = ks.length → bindArgs (PySem.W.fnOf x qual params body scope .none kV doc pm an cdv ct) ⟨us, ks.zip ws⟩ = pure (ps.zip (us ++ ws))) :
    KBn K fd ps n ks (fun us ws => us ++ ws) (fun vs zs => vs ++ zs) := by
  obtain ⟨oc, od, dV, kV, doc, pm, an, cdv, ct, osl, rfl, lk, hcd, hD, hK⟩ := F.ex
  rcases hD with ⟨_, rfl⟩ | ⟨e, _⟩
  · exact ⟨fun s us ws _ h1 h2 => .of_eq (h kV doc pm an cdv ct us ws h1 h2), fun r1 r2 => r1.append r2⟩
  · exact absurd rfl e
/-! ### list(range(n)), tuple(range(n)), {} -/
theorem rg_rep {G : Gx} {r : List Addr} {H : Hp} {n : Int} : RepL G r H (rngW 0 n) (rgV 0 n) := by
  unfold rngW rgV
  generalize List.range (n - 0).toNat = l
  induction l with
  | nil => exact .nil
  | cons i l ih => exact .cons (.int _) ih
def fListR (f : FE) : FE := fun env st => (f env st).bind fun w st1 => match w with
  | .int n => if 0 ≤ n ∧ n ≤ 1000000 then .ok (.ref st1.length) (st1 ++ [.lst (rngW 0 n)]) else .bad
  | _ => .bad
def fTupleR (f : FE) : FE := fun env st => (f env st).bind fun w st1 => match w with
  | .int n => if 0 ≤ n ∧ n ≤ 1000000 then .ok (.tup (rngW 0 n)) st1 else .bad
  | _ => .bad
theorem e_listR {p2 q : Pos} (hg : Gl X "list") (hm : X.mg "list" = none) (hg2 : Gl X "range") (hm2 : X.mg "range" = none) (he : PE X e (tE (gx X) Wx fa)) (hc : X.calm = true := by rfl) (na : starEach [e] X.env = (false, eval e X.env) :: starEach [] X.env := by rfl)
    (na2 : starEach [.Call (.Name "range" p) [e] [] q] X.env = (false, eval (.Call (.Name "range" p) [e] [] q) X.env) :: starEach [] X.env := by rfl) : PE X (.Call (.Name "list" p2) [.Call (.Name "range" p) [e] [] q] [] pos) (tE (gx X) Wx (fListR fa)) :=
  (pe_listRg hc hg hm (prg_1 hg2 hm2 he na) na2).imp fun s H Q h => by
    obtain ⟨env, l, st, en, sm, q⟩ := h
    refine ⟨env, l, st, en, sm, (Po.bind q).imp fun w l1 H1 g1 ⟨st1, sm1, _, p1⟩ v rx => ?_⟩
    cases rx with
    | int n =>
      obtain ⟨hz, p1⟩ := ite_bad p1
      exact ⟨n, rfl, RgOk.of_le (by omega) (by omega) (by omega) hz.1, fun q hq => Po.newL sm1 rg_rep p1 q hq⟩
    | _ => exact p1.elim
theorem e_tupleR {p2 q : Pos} (hg : Gl X "tuple") (hm : X.mg "tuple" = none) (hg2 : Gl X "range") (hm2 : X.mg "range" = none) (he : PE X e (tE (gx X) Wx fa)) (hc : X.calm = true := by rfl) (na : starEach [e] X.env = (false, eval e X.env) :: starEach [] X.env := by rfl)
    (na2 : starEach [.Call (.Name "range" p) [e] [] q] X.env = (false, eval (.Call (.Name "range" p) [e] [] q) X.env) :: starEach [] X.env := by rfl) : PE X (.Call (.Name "tuple" p2) [.Call (.Name "range" p) [e] [] q] [] pos) (tE (gx X) Wx (fTupleR fa)) :=
  (pe_tupRg hc hg hm (prg_1 hg2 hm2 he na) na2).imp fun s H Q h => by
    obtain ⟨env, l, st, en, sm, q⟩ := h
    refine ⟨env, l, st, en, sm, (Po.bind q).imp fun w l1 H1 g1 ⟨st1, sm1, _, p1⟩ v rx => ?_⟩
    cases rx with
    | int n =>
      obtain ⟨hz, p1⟩ := ite_bad p1
      exact ⟨n, rfl, RgOk.of_le (by omega) (by omega) (by omega) hz.1, fun q hq => Po.newT sm1 rg_rep p1 q hq⟩
    | _ => exact p1.elim
def fDict0 : FE := fun _ st => .ok (.ref st.length) (st ++ [.dct []])
theorem e_dict0 : PE X (.Dict [] [] pos) (tE (gx X) Wx fDict0) := pe_dnewK.imp fun s H Q h => by
  obtain ⟨env, l, st, en, sm, q⟩ := h
  intro a ha
  have sy : Stay H (upd H a (.dK [])) := Stay.new ha
  refine q (l ++ [a]) _ (Grow.one sy) (sm.newU (o := .dct []) ha ⟨[], upd_same, .nil⟩) _ (.ref ?_)
  rw [List.getElem?_append_right (by rw [sm.len]; exact Nat.le_refl _), sm.len]
  simp
end
end Sw
namespace Sw
open PySem PySem.Spec PyProof.Rows L2
theorem ask_nil {P : Program} {w : World} {K : PySem.W.Frag} {mg : Str → Option Value} {base : Heap} {k n : Nat} : ∀ (y : Str) (F : FF), List.lookup y ([] : List (Str × FF)) = some F → AskOk P w K mg base k n y F := fun _ _ h => nomatch h
theorem ask_cons {P : Program} {w : World} {K : PySem.W.Frag} {mg : Str → Option Value} {base : Heap} {k n : Nat} {x : Str} {F0 : FF} {D : List (Str × FF)} (h : ∃ (f : Addr) (fd : FuncData) (ps : List Str), mg x = some (.ref f) ∧ FnW P w K mg base k f fd ps F0 ∧ PySem.W.keepIn K (.ref f) = true ∧ Binds K fd ps [] ∧ ps.length = n)
    (r : ∀ (y : Str) (F : FF), List.lookup y D = some F → AskOk P w K mg base k n y F) : ∀ (y : Str) (F : FF), List.lookup y ((x, F0) :: D) = some F → AskOk P w K mg base k n y F := fun y F e => by
  rw [List.lookup_cons] at e
  split at e
  · rename_i hb
    cases e
    have q : y = x := eq_of_beq hb
    subst q
    exact ⟨h⟩
  · exact r y F e
end Sw
namespace Sw
open PySem PySem.Spec PyProof.Rows L2
section
variable {X : Cx} {s0 : Shared} {H0 : Hp} {scope : Scope} {ce : Env} {fp : List Addr} {pos p : Pos} {e : Expr} {es : List Expr} {x : Str} {k : Nat} {f : Addr} {fd : FuncData} {ps : List Str} {F : FF} {g : FA}
/-- a call within a comprehension -/
theorem e_fnB {n : Nat} (Fk : FnW X.prog X.w X.K X.mg X.base k f fd ps F) (hr : Room k X.A) (hm : X.mg x = some (.ref f)) (hk : PySem.W.keepIn X.K (.ref f) = true) (hb : Binds X.K fd ps []) (ha : PA (X.blk s0 H0 scope ce fp) (e :: es) (tL (gx (X.blk s0 H0 scope ce fp)) W0 g)) (hl : ps.length = n := by rfl) (hg : Gl (X.blk s0 H0 scope ce fp) x := by rfl) (hdb : (x == ("__debug__" : Str)) = false := by decide)
    (he : starEach (e :: es) (X.blk s0 H0 scope ce fp).env = (false, eval e (X.blk s0 H0 scope ce fp).env) :: starEach es (X.blk s0 H0 scope ce fp).env := by rfl) (hpl : (backTo pos (starEach es (X.blk s0 H0 scope ce fp).env)).any (·.1) = false := by rfl) : PE (X.blk s0 H0 scope ce fp) (.Call (.Name x p) (e :: es) [] pos) (tE (gx (X.blk s0 H0 scope ce fp)) W0 (fFn n F g)) := by
  subst hl
  exact e_fn (X := X.blk s0 H0 scope ce fp) Fk hr hm hk hb takes0 ha hg hdb he hpl
theorem e_fnDB {n : Nat} {dvs : List V} {dws : List W} {ds : List Value} (Fk : FnW X.prog X.w X.K X.mg X.base k f fd ps F) (hr : Room k X.A) (hm : X.mg x = some (.ref f)) (hk : PySem.W.keepIn X.K (.ref f) = true) (hb : Binds X.K fd ps ds) (hd : Vals dvs ds) (hdw : ∀ r H, RepL (gx X) r H dws dvs) (ha : PA (X.blk s0 H0 scope ce fp) (e :: es) (tL (gx (X.blk s0 H0 scope ce fp)) W0 g)) (hl : ps.length = n := by rfl) (hg : Gl (X.blk s0 H0 scope ce fp) x := by rfl) (hdb : (x == ("__debug__" : Str)) = false := by decide)
    (he : starEach (e :: es) (X.blk s0 H0 scope ce fp).env = (false, eval e (X.blk s0 H0 scope ce fp).env) :: starEach es (X.blk s0 H0 scope ce fp).env := by rfl) (hpl : (backTo pos (starEach es (X.blk s0 H0 scope ce fp).env)).any (·.1) = false := by rfl) : PE (X.blk s0 H0 scope ce fp) (.Call (.Name x p) (e :: es) [] pos) (tE (gx (X.blk s0 H0 scope ce fp)) W0 (fFn n F fun env st => (g env st).bind fun ws st1 => .ok (ws ++ dws) st1)) := by
  subst hl
  exact e_fnD (X := X.blk s0 H0 scope ce fp) Fk hr hm hk hb hd hdw takes0 ha hg hdb he hpl
theorem e_fnKB {ks : List Str} {n m : Nat} {g2 : FA} {kws : List Keyword} (Fk : FnW X.prog X.w X.K X.mg X.base k f fd ps F) (hr : Room k X.A) (hm : X.mg x = some (.ref f)) (hk : PySem.W.keepIn X.K (.ref f) = true) (hb : KBn X.K fd ps n ks (fun us ws => us ++ ws) (fun vs zs => vs ++ zs)) (hl : ps.length = n + ks.length)
    (hx : Passes (L2.CX X.prog X.w) (X.blk s0 H0 scope ce fp) (fun _ _ _ => False)) (ha : PA (X.blk s0 H0 scope ce fp) (e :: es) (tL (gx (X.blk s0 H0 scope ce fp)) W0 g)) (hkw : PK (X.blk s0 H0 scope ce fp) kws (tL (gx (X.blk s0 H0 scope ce fp)) W0 g2)) (hg : Gl (X.blk s0 H0 scope ce fp) x := by rfl) (hall : (backToKw pos (keywordEach kws (X.blk s0 H0 scope ce fp).env)).all (·.1.isSome) = true := by rfl) (hks : (backToKw pos (keywordEach kws (X.blk s0 H0 scope ce fp).env)).filterMap (·.1) = ks := by rfl)
    (hdb : (x == ("__debug__" : Str)) = false := by decide) (he : starEach (e :: es) (X.blk s0 H0 scope ce fp).env = (false, eval e (X.blk s0 H0 scope ce fp).env) :: starEach es (X.blk s0 H0 scope ce fp).env := by rfl)
    (hpl : ((backTo pos (starEach (e :: es) (X.blk s0 H0 scope ce fp).env)).any (·.1) || (backToKw pos (keywordEach kws (X.blk s0 H0 scope ce fp).env)).any (·.1.isNone)) = false := by rfl) (hl2 : ks.length = m := by rfl) : PE (X.blk s0 H0 scope ce fp) (.Call (.Name x p) (e :: es) kws pos) (tE (gx (X.blk s0 H0 scope ce fp)) W0 (fFnK n m F g g2)) := by
  subst hl2
  exact e_fnK (X := X.blk s0 H0 scope ce fp) Fk hr hm hk hb hl hx ha hkw hg hall hks hdb he hpl
end
section
variable {X : Cx} {Wx : WX} {pos p : Pos} {e : Expr} {es : List Expr} {x : Str} {k : Nat} {f : Addr} {fd : FuncData} {ps : List Str} {F : FF} {g : FA}
theorem e_fnN {n : Nat} (Fk : FnW X.prog X.w X.K X.mg X.base k f fd ps F) (hr : Room k X.A) (hm : X.mg x = some (.ref f)) (hk : PySem.W.keepIn X.K (.ref f) = true) (hb : Binds X.K fd ps []) (tk : Takes X Wx) (ha : PA X (e :: es) (tL (gx X) Wx g)) (hl : ps.length = n := by rfl) (hg : Gl X x := by rfl) (hdb : (x == ("__debug__" : Str)) = false := by decide)
    (he : starEach (e :: es) X.env = (false, eval e X.env) :: starEach es X.env := by rfl) (hpl : (backTo pos (starEach es X.env)).any (·.1) = false := by rfl) : PE X (.Call (.Name x p) (e :: es) [] pos) (tE (gx X) Wx (fFn n F g)) := by
  subst hl
  exact e_fn Fk hr hm hk hb tk ha hg hdb he hpl
theorem e_fnDN {n : Nat} {dvs : List V} {dws : List W} {ds : List Value} (Fk : FnW X.prog X.w X.K X.mg X.base k f fd ps F) (hr : Room k X.A) (hm : X.mg x = some (.ref f)) (hk : PySem.W.keepIn X.K (.ref f) = true) (hb : Binds X.K fd ps ds) (hd : Vals dvs ds) (hdw : ∀ r H, RepL (gx X) r H dws dvs) (tk : Takes X Wx) (ha : PA X (e :: es) (tL (gx X) Wx g)) (hl : ps.length = n := by rfl) (hg : Gl X x := by rfl) (hdb : (x == ("__debug__" : Str)) = false := by decide)
    (he : starEach (e :: es) X.env = (false, eval e X.env) :: starEach es X.env := by rfl) (hpl : (backTo pos (starEach es X.env)).any (·.1) = false := by rfl) : PE X (.Call (.Name x p) (e :: es) [] pos) (tE (gx X) Wx (fFn n F fun env st => (g env st).bind fun ws st1 => .ok (ws ++ dws) st1)) := by
  subst hl
  exact e_fnD Fk hr hm hk hb hd hdw tk ha hg hdb he hpl
end
end Sw
/-! Sw12: a, b, *c = a list or a tuple; x += a tuple, a text; int(text); xs.count(x); module's dicts. -/
namespace Sw
open PySem PySem.Spec PyProof.Rows L2
section
variable {prog : Program} {w : World} {A : Around} {E : Value → Shared → Prop} {s : Shared}
/-- i heads, the rest a new list -/
theorem star_L {l : Addr} {items : Array Value} {i : Nat} {Q : List Value → Shared → Prop} (hh : A.handled = none) (hl : s.heap.IsList l items) (hi : i ≤ items.size) (hz : items.size ≤ sizeLine)
    (hQ : ∀ h' p tk, (∀ b o, s.heap.get? b = some o → h'.get? b = some o) → s.heap.get? p = none → h'.get? p = some { cls := .type "list", data := .seq (items.toList.drop i).toArray } → Q (items.toList.take i ++ [.ref p]) { s with heap := h', toks := tk }) :
    wpAny (model prog w) A (unpackItems (.ref l) (i + 1) (some i)) Q E s := by
  have hlt : l ≠ s.heap.objs.size := by obtain ⟨o, ho, _⟩ := hl; exact Nat.ne_of_lt (Heap.lt_size ho)
  unfold unpackItems
  refine wpAny_bind ?_
  unfold notIterableAtAll
  refine wpAny_bind (wpAny_specialOf hl.typeIs slot_list_iter.lookup ?_)
  refine wpAny_pure ?_
  simp only [Bool.false_eq_true, if_false]
  refine wpAny_bind (wpAny_holding (wpAny_pyIter_list hl ?_))
  refine wpAny_bind (wpAny_holding (PySem.W.kun_draw hlt i 0 _ _ ⟨_, Heap.get?_push_size _ rfl, rfl, rfl⟩ (hl.push _) (by omega) fun h₁ hit₁ hs₁ => ?_))
  have hl₁ : h₁.IsList l items := (hl.push _).extBut hs₁.extBut hlt
  rw [Nat.zero_add] at hit₁
  have hit₁' := hit₁
  obtain ⟨oi, hoi, _⟩ := hit₁'
  have hl₁' := hl₁
  obtain ⟨ol, hol, _⟩ := hl₁'
  rw [List.drop_zero]
  have hfl : (items.toList.take i).length = i := by rw [List.length_take, Array.length_toList]; omega
  rw [if_neg (show ¬ ((items.toList.take i).length < i) by rw [hfl]; omega)]
  refine wpAny_bind (wpAny_holding (PySem.W.kun_collect (s := { s with heap := h₁ }) (T := "list_iterator") (.inr (.inr (.inl rfl))) (Walks.list (A := A.in1) hh s.heap.objs.size l hlt items) (fun j u st => st.1.typeIs) (k := i) (by omega) ⟨hit₁, hl₁⟩ (Heap.lt_size hoi) (Heap.lt_size hol) (fun h₂ tk hk => ?_) (by omega)))
  have hrl : (items.toList.drop i).length = items.size - i := by rw [List.length_drop, Array.length_toList]
  have hmid : (items.toList.drop i).length - (i + 1 - 1 - i) = items.size - i := by rw [hrl]; omega
  show wpAny _ _ (if (items.toList.drop i).length < i + 1 - 1 - i then _ else _) _ _ _
  rw [if_neg (by rw [hrl]; omega)]
  show wpAny _ _ (newList ((items.toList.drop i).take ((items.toList.drop i).length - (i + 1 - 1 - i))) >>= fun d => pure (items.toList.take i ++ [d] ++ (items.toList.drop i).drop ((items.toList.drop i).length - (i + 1 - 1 - i)))) _ _ _
  rw [hmid]
  have e1 : (items.toList.drop i).take (items.size - i) = items.toList.drop i := List.take_of_length_le (by rw [hrl]; omega)
  have e2 : (items.toList.drop i).drop (items.size - i) = [] := List.drop_eq_nil_of_le (by rw [hrl]; omega)
  rw [e1, e2]
  have up2 : ∀ b o, s.heap.get? b = some o → h₂.get? b = some o := fun b o e => hk b o (Nat.ne_of_lt (Heap.lt_size e)) (hs₁.extBut b o (Nat.ne_of_lt (Heap.lt_size e)) (Heap.get?_push_of_some _ e))
  have szle : s.heap.get? h₂.objs.size = none := by
    cases e : s.heap.get? h₂.objs.size with
    | none => rfl
    | some o => exact absurd (Heap.lt_size (up2 _ o e)) (Nat.lt_irrefl _)
  refine wpAny_bind (wpAny_newList ?_ (by rw [hrl]; omega))
  refine wpAny_pure ?_
  rw [List.append_nil]
  exact hQ _ _ tk (fun b o e => Heap.get?_push_of_some _ (up2 b o e)) szle (Heap.get?_push_size _ rfl)
theorem star_T {l : Addr} {items : Array Value} {i : Nat} {Q : List Value → Shared → Prop} (hh : A.handled = none) (hl : IsTup s.heap l items) (hi : i ≤ items.size) (hz : items.size ≤ sizeLine)
    (hQ : ∀ h' p tk, (∀ b o, s.heap.get? b = some o → h'.get? b = some o) → s.heap.get? p = none → h'.get? p = some { cls := .type "list", data := .seq (items.toList.drop i).toArray } → Q (items.toList.take i ++ [.ref p]) { s with heap := h', toks := tk }) :
    wpAny (model prog w) A (unpackItems (.ref l) (i + 1) (some i)) Q E s := by
  have hlt : l ≠ s.heap.objs.size := by obtain ⟨o, ho, _⟩ := hl; exact Nat.ne_of_lt (Heap.lt_size ho)
  unfold unpackItems
  refine wpAny_bind ?_
  unfold notIterableAtAll
  refine wpAny_bind (wpAny_specialOf hl.typeIs slot_tuple_iter.lookup ?_)
  refine wpAny_pure ?_
  simp only [Bool.false_eq_true, if_false]
  refine wpAny_bind (wpAny_holding (iter_tuple hl ?_))
  refine wpAny_bind (wpAny_holding (draw_tuple hlt i 0 _ _ ⟨_, Heap.get?_push_size _ rfl, rfl, rfl⟩ (hl.push _) (by omega) fun h₁ hit₁ hs₁ => ?_))
  have hl₁ : IsTup h₁ l items := (hl.push _).extBut hs₁.extBut hlt
  rw [Nat.zero_add] at hit₁
  have hit₁' := hit₁
  obtain ⟨oi, hoi, _⟩ := hit₁'
  have hl₁' := hl₁
  obtain ⟨ol, hol, _⟩ := hl₁'
  rw [List.drop_zero]
  have hfl : (items.toList.take i).length = i := by rw [List.length_take, Array.length_toList]; omega
  rw [if_neg (show ¬ ((items.toList.take i).length < i) by rw [hfl]; omega)]
  refine wpAny_bind (wpAny_holding (PySem.W.kun_collect (s := { s with heap := h₁ }) (T := "tuple_iterator") (.inr (.inr (.inr rfl))) (Walks.tuple (A := A.in1) hh s.heap.objs.size l hlt items) (fun j u st => st.1.typeIs) (k := i) (by omega) ⟨hit₁, hl₁⟩ (Heap.lt_size hoi) (Heap.lt_size hol) (fun h₂ tk hk => ?_) (by omega)))
  have hrl : (items.toList.drop i).length = items.size - i := by rw [List.length_drop, Array.length_toList]
  have hmid : (items.toList.drop i).length - (i + 1 - 1 - i) = items.size - i := by rw [hrl]; omega
  show wpAny _ _ (if (items.toList.drop i).length < i + 1 - 1 - i then _ else _) _ _ _
  rw [if_neg (by rw [hrl]; omega)]
  show wpAny _ _ (newList ((items.toList.drop i).take ((items.toList.drop i).length - (i + 1 - 1 - i))) >>= fun d => pure (items.toList.take i ++ [d] ++ (items.toList.drop i).drop ((items.toList.drop i).length - (i + 1 - 1 - i)))) _ _ _
  rw [hmid]
  have e1 : (items.toList.drop i).take (items.size - i) = items.toList.drop i := List.take_of_length_le (by rw [hrl]; omega)
  have e2 : (items.toList.drop i).drop (items.size - i) = [] := List.drop_eq_nil_of_le (by rw [hrl]; omega)
  rw [e1, e2]
  have up2 : ∀ b o, s.heap.get? b = some o → h₂.get? b = some o := fun b o e => hk b o (Nat.ne_of_lt (Heap.lt_size e)) (hs₁.extBut b o (Nat.ne_of_lt (Heap.lt_size e)) (Heap.get?_push_of_some _ e))
  have szle : s.heap.get? h₂.objs.size = none := by
    cases e : s.heap.get? h₂.objs.size with
    | none => rfl
    | some o => exact absurd (Heap.lt_size (up2 _ o e)) (Nat.lt_irrefl _)
  refine wpAny_bind (wpAny_newList ?_ (by rw [hrl]; omega))
  refine wpAny_pure ?_
  rw [List.append_nil]
  exact hQ _ _ tk (fun b o e => Heap.get?_push_of_some _ (up2 b o e)) szle (Heap.get?_push_size _ rfl)
end
theorem Vals.take : ∀ {xs : List V} {us : List Value} (n : Nat), Vals xs us → Vals (xs.take n) (us.take n)
  | _, _, 0, _ => .nil
  | _, _, _ + 1, .nil => .nil
  | _, _, n + 1, .cons h k => .cons h (Vals.take n k)
theorem Vals.drop : ∀ {xs : List V} {us : List Value} (n : Nat), Vals xs us → Vals (xs.drop n) (us.drop n)
  | _, _, 0, k => k
  | _, _, _ + 1, .nil => .nil
  | _, _, n + 1, .cons _ k => Vals.drop n k
def gStarV (K : PySem.W.Frag) (i : Nat) (t : TGs) : TG := fun v σ H Q => ∃ a xs, v = .ref a ∧ (SqL K H a xs ∨ SqT K H a xs) ∧ i ≤ xs.length ∧ ∀ p, H p = none → t (xs.take i ++ [.ref p]) σ (upd H p (.lst (xs.drop i))) Q
theorem pg_starV {X : Cx} {es es' : List Expr} {k i : Nat} {pos : Pos} {t : TGs} (hc : X.calm = true) (h : PGs X es' t) (hm : (assignEach es X.env).map (·.2) = (assignEach es' X.env).map (·.2) := by rfl)
    (hn : (assignEach es X.env).length = i + 1 := by rfl) (hst : (assignEach es X.env).findIdx? (·.1) = some i := by rfl) : PG X (.Tuple es k pos) (gStarV X.K i t) := by
  refine ⟨fun pins s σ H v u Q I r hw => ?_⟩
  obtain ⟨a, xs, e1, hq, hi, hw⟩ := hw
  subst e1
  cases r
  have go : ∀ (its : List Value), Vals xs its → its.length ≤ sizeLine → (∀ (A : Around) (E : Value → Shared → Prop) (Q2 : List Value → Shared → Prop), A.handled = none → (∀ h' p tk, (∀ b o, s.heap.get? b = some o → h'.get? b = some o) → s.heap.get? p = none → h'.get? p = some { cls := .type "list", data := .seq (its.drop i).toArray } → Q2 (its.take i ++ [.ref p]) { s with heap := h', toks := tk }) →
      wpAny (model X.prog X.w) A (unpackItems (.ref a) (i + 1) (some i)) Q2 E s) → wpAny (model X.prog X.w) X.A (assign (.Tuple es k pos) X.env (.ref a)) (fun _ s' => ∃ σ' H', L2.Inv X pins σ' H' s' ∧ Q σ' H') X.xe s := fun its rv hz un => by
    rw [PyProof.Rows.assign_Tuple]
    refine wpAny_bind (wpAny_standAt ?_)
    unfold unpack
    rw [hn, hst]
    refine wpAny_bind (wpAny_holding (un _ _ _ (I.ok.hd hc) fun h' p tk kp hp hn2 => ?_))
    have hH : H p = none := I.hok.gone hp
    have I1 : Inv X pins σ (upd H p (.lst (xs.drop i))) { s with heap := h', toks := tk } := I.laidN kp hp hH (show ObjOk X.prog X.w _ _ _ (.lst (xs.drop i)) from ⟨by
      have := rv.length
      rw [List.length_drop]
      omega, its.drop i, 0, Vals.drop i rv, hn2⟩)
    rw [hm]
    exact h.run pins _ σ _ (xs.take i ++ [.ref p]) _ Q I1 ((Vals.take i rv).append (show Vals [V.ref p] [Value.ref p] from .cons rfl .nil)) (hw p hH)
  rcases hq with hq | hq
  · obtain ⟨its, rv, pl, hz⟩ := I.list hq
    have hl := rv.length
    refine go its rv (by omega) fun A E Q2 hh hQ => ?_
    exact star_L hh pl.isList (by simp; omega) (by simp; omega) (by simpa using hQ)
  · obtain ⟨its, rv, pl, hz⟩ := I.tuple hq
    have hl := rv.length
    refine go its rv (by omega) fun A E Q2 hh hQ => ?_
    exact star_T hh pl (by simp; omega) (by simp; omega) (by simpa using hQ)

/-! ### the rules -/
section
variable {X : Cx} {Wx : WX} {pos p : Pos} {a b c e : Expr} {fa fb fc : FE} {es : List Expr}
def gStarN (i : Nat) (gs : FGs) : FG := fun w env st => match getS st w with
  | some l => if i ≤ l.length then gs (l.take i ++ [.ref st.length]) env (st ++ [.lst (l.drop i)]) else .bad
  | _ => .bad
theorem g_starN {es' : List Expr} {k i : Nat} {gs : FGs} (h : PGs X es' (tGs (gx X) gs)) (hc : X.calm = true := by rfl) (hm : (assignEach es X.env).map (·.2) = (assignEach es' X.env).map (·.2) := by rfl)
    (hn : (assignEach es X.env).length = i + 1 := by rfl) (hst : (assignEach es X.env).findIdx? (·.1) = some i := by rfl) : PG X (.Tuple es k pos) (tG (gx X) (gStarN i gs)) := by
  refine ⟨fun pins s σ H v u Q I r hw => (pg_starV hc h hm hn hst).run pins s σ H v u Q I r ?_⟩
  obtain ⟨w, env, l, st, rw', en, sm, p⟩ := hw
  simp only [gStarN] at p
  cases e : getS st w with
  | none => rw [e] at p; exact p.elim
  | some ws =>
    rw [e] at p
    obtain ⟨hi, p⟩ := spo_ite p
    obtain ⟨a, vs, rfl, hq, kk⟩ := getS_rep sm rw' e
    refine ⟨a, vs, rfl, hq, by rw [← kk.length]; exact hi, fun q hn => ?_⟩
    have sy : Stay H (upd H q (.lst (vs.drop i))) := Stay.new hn
    have gr : Grow l H (l ++ [q]) (upd H q (.lst (vs.drop i))) := Grow.one sy
    refine ⟨_, env, l ++ [q], st ++ [.lst (ws.drop i)], ((kk.take i).grow gr).append (.cons (.ref ?_) .nil), en.grow gr, sm.newU (o := .lst (ws.drop i)) hn ⟨_, upd_same, (kk.drop i).grow gr⟩, SPo.grow gr p⟩
    rw [List.getElem?_append_right (by rw [sm.len]; exact Nat.le_refl _), sm.len]
    simp
/-! ### a, b = a list or a tuple -/
def gSeqN (n : Nat) (gs : FGs) : FG := fun w env st => match getS st w with
  | some l => if l.length = n then gs l env st else .bad
  | _ => .bad
theorem g_seqN {k : Nat} {g : FGs} {n : Nat} (h : PGs X es (tGs (gx X) g)) (hc : X.calm = true := by rfl) (hn : (assignEach es X.env).length = n := by rfl) (hst : (assignEach es X.env).findIdx? (·.1) = none := by rfl) : PG X (.Tuple es k pos) (tG (gx X) (gSeqN n g)) := by
  refine ⟨fun pins s σ H v u Q I r hw => ?_⟩
  obtain ⟨w, env, l, st, rw', en, sm, p⟩ := hw
  simp only [gSeqN] at p
  cases e : getS st w with
  | none => rw [e] at p; exact p.elim
  | some ws =>
    rw [e] at p
    obtain ⟨hl, p⟩ := spo_ite p
    obtain ⟨a, vs, rfl, hq, kk⟩ := getS_rep sm rw' e
    have hl2 : vs.length = n := by rw [← kk.length]; exact hl
    rcases hq with hq | hq
    · exact (pg_unl hc h hn hst).run pins s σ H _ u Q I r ⟨a, vs, rfl, hq, hl2, ws, env, l, st, kk, en, sm, p⟩
    · exact (pg_tup hc h hn hst).run pins s σ H _ u Q I r ⟨a, vs, rfl, hq, hl2, ws, env, l, st, kk, en, sm, p⟩
/-! ### x += y -/
theorem noI_tuple_add : typeLookup (.type "tuple") (dunderI "add") = pure none := by rw [typeLookup_type, builtinLookup_eq_fast]; kernel_rfl
theorem icat_tup {prog : Program} {w : World} {A : Around} {E : Value → Shared → Prop} {s : Shared} {t b : Addr} {vs us : List Value} {Q : Value → Shared → Prop} (ht : IsTup s.heap t vs.toArray) (hb : IsTup s.heap b us.toArray)
    (h0 : vs = [] → Q (.ref b) s) (h1 : vs ≠ [] → us = [] → Q (.ref t) s) (h2 : vs ≠ [] → us ≠ [] → Q (.ref s.heap.objs.size) { s with heap := s.heap.push { cls := .type "tuple", data := .seq (vs ++ us).toArray } })
    (hsz : vs.length + us.length ≤ sizeLine) : wpAny (model prog w) A (inplaceOp .Add (.ref t) (.ref b)) Q E s := by
  obtain ⟨⟨cls, dd, data, sl⟩, ho, hc, n, hd⟩ := id ht
  obtain ⟨⟨cls2, dd2, data2, sl2⟩, ho2, hc2, n2, hd2⟩ := id hb
  simp only at hc hd hc2 hd2
  subst hc hd hc2 hd2
  have e : vs.toArray ++ us.toArray = (vs ++ us).toArray := by simp
  by_cases hv : vs = []
  · exact inplaceOp_concat ⟨_, ho, rfl⟩ ⟨_, ho2, rfl⟩ noI_tuple_add noFill_tuple_add seq_tuple_add (call_meets PySem.F.slot_tuple_add ⟨_, ho, rfl⟩ PySem.F.entry_tuple_add (PySem.F.args_tuple_add_2 _ _)
      (tuple_addW0 t b vs.toArray us.toArray n n2 dd dd2 sl sl2 (by simp [hv])) ⟨ho, ho2, h0 hv⟩)
  · by_cases hw : us = []
    · exact inplaceOp_concat ⟨_, ho, rfl⟩ ⟨_, ho2, rfl⟩ noI_tuple_add noFill_tuple_add seq_tuple_add (call_meets PySem.F.slot_tuple_add ⟨_, ho, rfl⟩ PySem.F.entry_tuple_add (PySem.F.args_tuple_add_2 _ _)
        (tuple_addW1 t b vs.toArray us.toArray n n2 dd dd2 sl sl2 (by simpa using hv) (by simp [hw])) ⟨ho, ho2, h1 hv hw⟩)
    · refine inplaceOp_concat ⟨_, ho, rfl⟩ ⟨_, ho2, rfl⟩ noI_tuple_add noFill_tuple_add seq_tuple_add (call_meets PySem.F.slot_tuple_add ⟨_, ho, rfl⟩ PySem.F.entry_tuple_add (PySem.F.args_tuple_add_2 _ _)
        (tuple_addW2 t b vs.toArray us.toArray n n2 dd dd2 sl sl2 (by simpa using hv) (by simpa using hw) (by rw [List.size_toArray, List.size_toArray]; exact hsz)) ⟨ho, ho2, ?_⟩)
      rw [e]
      exact h2 hv hw
theorem iop_catA : OpR X (inplaceOp .Add) (rCatA X.K) := by
  intro pins s σ H x y v u Q I rx ry h
  obtain ⟨a, b, xs, ys, rfl, rfl, ha, hb, hz, q0, q1, q2⟩ := h
  cases rx
  cases ry
  obtain ⟨its, r1, p1, _⟩ := I.tuple ha
  obtain ⟨its2, r2, p2, _⟩ := I.tuple hb
  refine icat_tup p1 p2 (fun z => ⟨.ref b, H, I, rfl, q0 (r1.nil_iff.mp z)⟩) (fun z1 z => ⟨.ref a, H, I, rfl, q1 (fun w => z1 (r1.nil_iff.mpr w)) (r2.nil_iff.mp z)⟩) (fun z1 z => ?_) (by rw [← r1.length, ← r2.length]; exact hz)
  refine ⟨.ref s.heap.objs.size, _, I.laid (t' := s.toks) (o := .tup (xs ++ ys)) (fun b ob q => Heap.get?_push_of_some _ q) (Nat.le_refl _) ?_, rfl, q2 (fun w => z1 (r1.nil_iff.mpr w)) (fun w => z (r2.nil_iff.mpr w)) _ (I.hok.fresh (Nat.le_refl _))⟩
  exact ⟨by rw [List.length_append]; exact hz, _, r1.append r2, IsTup.new _ _⟩
def rAddG (K : PySem.W.Frag) : R2 := fun x y H Q => rI0 (fun i j => .int (i + j)) x y H Q ∨ (∃ i j, x = .str i ∧ y = .str j ∧ i.length + j.length ≤ sizeLine ∧ Q (.str (i ++ j)) H) ∨ rCatA K x y H Q
theorem iop_addG : OpR X (inplaceOp .Add) (rAddG X.K) := iop_add.or (iop_add_str.or iop_catA)
def wAddG : W → W → Sto → An W
  | .int i, .int j, st => .ok (.int (i + j)) st
  | .str i, .str j, st => if i.length + j.length ≤ sizeLine then .ok (.str (i ++ j)) st else .bad
  | .tup a, .tup b, st => if a.length + b.length ≤ sizeLine then .ok (.tup (a ++ b)) st else .bad
  | _, _, _ => .bad
theorem rf_addG {G : Gx} : OpRf G (rAddG G.K) wAddG := by
  intro x y st l H vx vy Q Wx s sm rx ry p
  cases rx with
  | int i =>
    cases ry with
    | int j => exact .inl ⟨i, j, rfl, rfl, Po.ok p sm _ (.int _)⟩
    | _ => exact p.elim
  | str i =>
    cases ry with
    | str j =>
      obtain ⟨hz, p⟩ := ite_bad p
      exact .inr (.inl ⟨i, j, rfl, rfl, hz, Po.ok p sm _ (.str _)⟩)
    | _ => exact p.elim
  | @tup la a xs ha ka =>
    cases ry with
    | @tup lb b ys hb kb =>
      obtain ⟨hz, p⟩ := ite_bad p
      refine .inr (.inr ⟨a, b, xs, ys, rfl, rfl, ha, hb, by rw [← ka.length, ← kb.length]; exact hz, fun e => ?_, fun e1 e2 => ?_, fun _ _ => Po.newT sm (ka.append kb) p⟩)
      · subst e
        cases ka
        exact Po.ok p sm _ (.tup hb kb)
      · subst e2
        cases kb
        exact Po.ok p sm _ (.tup ha (by rw [List.append_nil]; exact ka))
    | _ => exact p.elim
  | _ => cases ry <;> exact p.elim
/-! ### int(text), xs.count(x) -/
def wIntS : List W → Sto → An W
  | [.str z], st => if z.length ≤ 640 then (match PySem.intText? z with
    | some n => .ok (.int n) st
    | none => .bad) else .bad
  | [.int i], st => .ok (.int i) st
  | [.bl k], st => .ok (.int (if k then 1 else 0)) st
  | _, _ => .bad
theorem intS_rep {G : Gx} : CaRf G (fun xs H Q => ((∃ i, xs = [.int i] ∧ Q (.int i) H) ∨ ∃ k, xs = [.bl k] ∧ Q (.int (if k then 1 else 0)) H) ∨ ∃ a n, xs = [.str a] ∧ PySem.intText? a = some n ∧ a.length ≤ 640 ∧ Q (.int n) H) wIntS := by
  intro ws st l H vs Q Wx s sm k p
  cases k with
  | nil => exact p.elim
  | cons h k =>
    cases k with
    | nil =>
      cases h with
      | int i => exact .inl (.inl ⟨_, rfl, Po.ok p sm _ (.int _)⟩)
      | bl i => exact .inl (.inr ⟨_, rfl, Po.ok p sm _ (.int _)⟩)
      | str z =>
        simp only [wIntS] at p
        obtain ⟨hz, p⟩ := ite_bad p
        cases e : PySem.intText? z with
        | none => rw [e] at p; exact p.elim
        | some n => rw [e] at p; exact .inr ⟨z, n, rfl, e, hz, Po.ok p sm _ (.int _)⟩
      | _ => exact p.elim
    | cons h2 k => cases h <;> exact p.elim
theorem cr_intS : CallR X (.type "int") (fun xs H Q => ((∃ i, xs = [.int i] ∧ Q (.int i) H) ∨ ∃ k, xs = [.bl k] ∧ Q (.int (if k then 1 else 0)) H) ∨ ∃ a n, xs = [.str a] ∧ PySem.intText? a = some n ∧ a.length ≤ 640 ∧ Q (.int n) H) := call_int1.or call_int_str
/-! ### xs.count(x), flat items -/
theorem countP_eqU {x : V} : ∀ {xs : List V} {us : List Value}, Vals xs us → xs.all flatV = true → us.countP (eqU x) = xs.countP fun y => eqV y x
  | _, _, .nil, _ => rfl
  | y :: xs, u :: us, .cons r t, f => by
    rw [List.all_cons, Bool.and_eq_true] at f
    rw [List.countP_cons, List.countP_cons, eqU_of r f.1, countP_eqU t f.2]
def rCntF (K : PySem.W.Frag) : V → List V → Hp → VK → Prop := fun x xs H Q => ∃ (p : Addr) (ys : List V) (y : V), x = .ref p ∧ xs = [y] ∧ SqL K H p ys ∧ flatV y = true ∧ ys.all flatV = true ∧ Q (.int ((ys.countP fun z => eqV z y : Nat) : Int)) H
theorem mt_countF : MtR X "list.count" (rCntF X.K) := by
  intro pins s σ H x xs v us Q I rx rxs h
  obtain ⟨p, ys, y, rfl, rfl, hs, fy, fys, q⟩ := h
  cases rx
  obtain ⟨u, rfl, ru⟩ := rxs.one
  obtain ⟨its, rv, ⟨⟨cls, dd, data, sl⟩, n, ho, hc, hdn, hd⟩, hlen⟩ := I.list hs
  simp only at hc hd
  subst hc hd
  refine call_meets PySem.F.slot_list_count ⟨_, ho, rfl⟩ PySem.F.entry_list_count (PySem.F.args_list_count_2 _ _)
    (SeqAt.list_countAt p its.toArray n dd sl u (eqU y)) ⟨ho, fun z hz => mem_eqAt ru fy rv fys z (by simpa using hz), ?_⟩
  have ec : its.toArray.toList.countP (eqU y) = ys.countP fun z => eqV z y := by
    rw [show its.toArray.toList = its by simp]
    exact countP_eqU rv fys
  refine ⟨.int ((ys.countP fun z => eqV z y : Nat) : Int), H, I.tok _, ⟨s.toks, ?_⟩, q⟩
  rw [← ec]
def wCnt : W → List W → Sto → An W
  | x, [y], st => match getL st x with
    | some l => if flatW y = true ∧ l.all flatW = true then .ok (.int ((l.countP fun z => eqFW z y : Nat) : Int)) st else .bad
    | none => .bad
  | _, _, _ => .bad
theorem countF_rep {G : Gx} {r : List Addr} {H : Hp} {x : W} {v : V} (h : Rep G r H x v) : ∀ {l : List W} {vs : List V}, RepL G r H l vs → (vs.countP fun y => eqV y v) = l.countP fun y => eqFW y x
  | _, _, .nil => rfl
  | _, _, .cons h1 k => by rw [List.countP_cons, List.countP_cons, eqF_rep h1 h, countF_rep h k]
theorem rf_count {G : Gx} : MtRf G (rCntF G.K) wCnt := by
  intro o ws st l H vo vs Q Wx s sm ro k p
  cases k with
  | nil => exact p.elim
  | cons h1 k =>
    cases k with
    | cons _ _ => exact p.elim
    | nil =>
      rename_i y v
      simp only [wCnt] at p
      cases e : getL st o with
      | none => rw [e] at p; exact p.elim
      | some lw =>
        rw [e] at p
        obtain ⟨hz, p⟩ := ite_bad p
        obtain ⟨a, ys, rfl, hq, kk⟩ := getL_rep sm ro e
        refine ⟨a, ys, v, rfl, rfl, hq, by rw [flat_rep h1]; exact hz.1, by rw [flats_rep kk]; exact hz.2, ?_⟩
        rw [countF_rep h1 kk]
        exact Po.ok p sm _ (.int _)
theorem e_count {o : Expr} {g : FA} {apos cpos : Pos} (ho : PE X o (tE (gx X) Wx fa)) (ha : PA X (e :: es) (tL (gx X) Wx g)) (hbase : attributeBase o "count" X.env (eval o X.env) = eval o X.env := by rfl)
    (hfew : ((backTo cpos (starEach (e :: es) X.env)).all (fun x => !x.1) && (backToKw cpos (keywordEach [] X.env)).all (fun x => x.1.isSome)
      && decide ((e :: es).length + ([] : List Keyword).length + (if ([] : List Keyword).isEmpty then 0 else 1) < 30)) = true := by rfl)
    (hline : (apos.endLine == cpos.line) = true := by rfl) (hs : starEach (e :: es) X.env = (false, eval e X.env) :: starEach es X.env := by rfl) (hplain : (backTo cpos (starEach es X.env)).any (·.1) = false := by rfl) :
    PE X (.Call (.Attribute o "count" apos) (e :: es) [] cpos) (tE (gx X) Wx (fMt isLst wCnt fa g)) :=
  (pe_bm PySem.F.plainAttrs_list PySem.F.slot_list_count PySem.F.type_list_count mt_countF ho ha hbase hfew hline hs hplain).imp fun s H Q h => mt_imp isLst_rep rf_count h
/-! ### a, b = x, y -/
def fPar2 (i j : Nat) (f : FA) : FS := fun env st => (f env st).toS env fun ws st1 => match ws with
  | [x, y] => .nx ((env.set i (some x)).set j (some y)) st1
  | _ => .bad
theorem s_par2 {i j : Nat} {x y : Str} {px py pt : Pos} {kt k2 pt2} {f : FA} (hN : X.N.Nodup) (ha : PA X [a, b] (tL (gx X) Wx f)) (hc : X.calm = true := by rfl) (hi : X.N[i]? = some x := by rfl) (hj : X.N[j]? = some y := by rfl) (hij : i ≠ j := by decide)
    (hx : X.env.scope.names.lookup x = some .local := by rfl) (hy : X.env.scope.names.lookup y = some .local := by rfl)
    (hw : swappedStores [.Tuple [.Name x px, .Name y py] kt pt] (.Tuple [a, b] k2 pt2) X.env = pure (some [x, y]) := by rfl)
    (hs : swapsWithSole [.Tuple [.Name x px, .Name y py] kt pt] (.Tuple [a, b] k2 pt2) pos.line X.env = pure false := by rfl) :
    PS X (.Assign [.Tuple [.Name x px, .Name y py] kt pt] (.Tuple [a, b] k2 pt2) pos) (tS (gx X) Wx (fPar2 i j f)) := (ps_par hc hN hi hj hij hx hy ha hw hs).imp fun D s H h => by
  obtain ⟨env, l, st, en, sm, p⟩ := h
  refine ⟨env, l, st, en, sm, (SPo.toS en p).imp fun ws l1 H1 g1 ⟨st1, sm1, _, p1⟩ vs rx => ?_⟩
  cases rx with
  | nil => exact p1.elim
  | cons h1 k =>
    cases k with
    | nil => exact p1.elim
    | cons h2 k =>
      cases k with
      | cons _ _ => exact p1.elim
      | nil => exact ⟨_, _, rfl, p1 l1 H1 _ (Grow.refl l1 H1) sm1 (((en.grow g1).set h1).set h2)⟩
def fPar3 (i j m : Nat) (f : FA) : FS := fun env st => (f env st).toS env fun ws st1 => match ws with
  | [x, y, z] => .nx (((env.set i (some x)).set j (some y)).set m (some z)) st1
  | _ => .bad
theorem s_par3 {i j m : Nat} {x y z : Str} {px py pz pt : Pos} {kt k2 pt2} {f : FA} (hN : X.N.Nodup) (ha : PA X [a, b, c] (tL (gx X) Wx f)) (hc : X.calm = true := by rfl) (hi : X.N[i]? = some x := by rfl) (hj : X.N[j]? = some y := by rfl) (hm : X.N[m]? = some z := by rfl) (hij : i ≠ j := by decide) (him : i ≠ m := by decide) (hjm : j ≠ m := by decide)
    (hx : X.env.scope.names.lookup x = some .local := by rfl) (hy : X.env.scope.names.lookup y = some .local := by rfl) (hz : X.env.scope.names.lookup z = some .local := by rfl)
    (hw : swappedStores [.Tuple [.Name x px, .Name y py, .Name z pz] kt pt] (.Tuple [a, b, c] k2 pt2) X.env = pure (some [x, y, z]) := by rfl)
    (hs : swapsWithSole [.Tuple [.Name x px, .Name y py, .Name z pz] kt pt] (.Tuple [a, b, c] k2 pt2) pos.line X.env = pure false := by rfl) :
    PS X (.Assign [.Tuple [.Name x px, .Name y py, .Name z pz] kt pt] (.Tuple [a, b, c] k2 pt2) pos) (tS (gx X) Wx (fPar3 i j m f)) := (ps_par3 hc hN hi hj hm hij him hjm hx hy hz ha hw hs).imp fun D s H h => by
  obtain ⟨env, l, st, en, sm, p⟩ := h
  refine ⟨env, l, st, en, sm, (SPo.toS en p).imp fun ws l1 H1 g1 ⟨st1, sm1, _, p1⟩ vs rx => ?_⟩
  cases rx with
  | nil => exact p1.elim
  | cons h1 k =>
    cases k with
    | nil => exact p1.elim
    | cons h2 k =>
      cases k with
      | nil => exact p1.elim
      | cons h3 k =>
        cases k with
        | cons _ _ => exact p1.elim
        | nil => exact ⟨_, _, _, rfl, p1 l1 H1 _ (Grow.refl l1 H1) sm1 ((((en.grow g1).set h1).set h2).set h3)⟩
/-! ### a dict of the module's top -/
structure KTab (K : PySem.W.Frag) (w : World) (mg : Str → Option Value) (x : Str) (D : List (Str × W)) : Prop where
  at_ : ∃ d es n, mg x = some (.ref d) ∧ KDict K w d es n ∧ ∀ z : Str, match D.lookup z with
    | some y => ∃ u v, PySem.W.nsIn K d z = some (some u) ∧ RelV v u ∧ ∀ r H, Rep ⟨K, mg⟩ r H y v
    | none => PySem.W.nsIn K d z = some none
def wInK (x : Str) (D : List (Str × W)) (neg : Bool) : W → W → Sto → Option Bool
  | .str z, .gl y, _ => if y = x then some (if neg then !(D.lookup z).isSome else (D.lookup z).isSome) else none
  | _, _, _ => none
def rInK (K : PySem.W.Frag) (w : World) (neg : Bool) : R2 := fun vx vy H Q => ∃ d es n z r, KDict K w d es n ∧ vx = .str z ∧ vy = .ref d ∧ PySem.W.nsIn K d z = some r ∧ Q (.bl (if neg then !r.isSome else r.isSome)) H
theorem op_inK : OpR X (compareOp .In) (rInK X.K X.w false) := by
  intro pins s σ H x y v u Q I rx ry h
  obtain ⟨d, es, n, z, r, D, e1, e2, e3, q⟩ := h
  exact op_in_kd D pins s σ H x y v u Q I rx ry ⟨z, r, e1, e2, e3, q⟩
theorem op_notInK : OpR X (compareOp .NotIn) (rInK X.K X.w true) := by
  intro pins s σ H x y v u Q I rx ry h
  obtain ⟨d, es, n, z, r, D, e1, e2, e3, q⟩ := h
  exact op_notIn_kd D pins s σ H x y v u Q I rx ry ⟨z, r, e1, e2, e3, q⟩
theorem KTab.get {K : PySem.W.Frag} {w : World} {mg : Str → Option Value} {x : Str} {D : List (Str × W)} (T : KTab K w mg x D) (z : Str) : ∃ d es n r, mg x = some (.ref d) ∧ KDict K w d es n ∧ PySem.W.nsIn K d z = some r ∧ r.isSome = (D.lookup z).isSome := by
  obtain ⟨d, es, n, h1, h2, h3⟩ := T.at_
  have h := h3 z
  cases e : D.lookup z with
  | none => rw [e] at h; exact ⟨d, es, n, none, h1, h2, h, rfl⟩
  | some y => rw [e] at h; obtain ⟨u, v, h, _⟩ := h; exact ⟨d, es, n, some u, h1, h2, h, rfl⟩
theorem rb_inK {G : Gx} {w : World} {x : Str} {D : List (Str × W)} {neg : Bool} (T : KTab G.K w G.mg x D) : OpRb G (rInK G.K w neg) (wInK x D neg) := by
  intro vx vy st l H v u Q k sm rx ry e q
  cases rx with
  | str z =>
    cases ry with
    | @gl y a hy =>
      simp only [wInK] at e
      split at e
      · rename_i hxy
        subst hxy
        obtain ⟨d, es, n, r, h1, h2, h3, h4⟩ := T.get z
        rw [hy] at h1
        cases h1
        refine ⟨_, es, n, z, r, h2, rfl, rfl, h3, ?_⟩
        rw [h4, Option.some.inj e]
        exact q
      · cases e
    | _ => cases e
  | _ => cases ry <;> cases e
def wIxK (x : Str) (D : List (Str × W)) : W → W → Sto → An W
  | .gl y, .str z, st => if y = x then optB (D.lookup z) st else .bad
  | _, _, _ => .bad
theorem rf_ixK {G : Gx} {w : World} {x : Str} {D : List (Str × W)} (T : KTab G.K w G.mg x D) : OpRf G (rIxD G.K w) (wIxK x D) := by
  intro vx vy st l H v u Q Wx s sm rx ry p
  cases rx with
  | @gl y a hy =>
    cases ry with
    | str z =>
      simp only [wIxK] at p
      obtain ⟨hxy, p2⟩ := ite_bad p
      clear p
      subst hxy
      obtain ⟨b, hb, p⟩ := Po.optB p2 sm
      obtain ⟨d, es, n, h1, h2, h3⟩ := T.at_
      have h := h3 z
      rw [hb] at h
      obtain ⟨u0, v0, e1, e2, e3⟩ := h
      rw [hy] at h1
      cases h1
      exact ⟨_, z, v0, rfl, rfl, ⟨es, n, u0, h2.at_, h2.lit, e1, e2⟩, p _ (e3 _ _)⟩
    | _ => exact p.elim
  | _ => cases ry <;> exact p.elim
theorem e_ixK {x : Str} {D : List (Str × W)} (T : KTab X.K X.w X.mg x D) (ha : PE X a (tE (gx X) Wx fa)) (hb : PE X b (tE (gx X) Wx fb)) (hs : PlainIx b := by exact fun _ _ => rfl) : PE X (.Subscript a b pos) (tE (gx X) Wx (fBin (wIxK x D) fa fb)) := (pe_ix ix_kdict ha hb hs).imp fun s H Q h => bin_imp (rf_ixK T) h
end
/-! ### the facts of the tables -/
theorem nsNone {K : PySem.W.Frag} {w : World} {d : Addr} {ks : List Str} {z : Str} (h : He.dicW K d = some (He.keysIn w.params ks)) (hz : z ∉ ks) : PySem.W.nsIn K d z = some none := by
  unfold He.dicW at h
  split at h
  · rename_i c es n sl hl
    split at h
    · have h1 : es.toList.map He.keyOf = He.keysIn w.params ks := Option.some.inj h
      have key : ∀ (l : List DictEntry) (ks : List Str), l.map He.keyOf = He.keysIn w.params ks → z ∉ ks → l.find? (·.key.isStr z) = none ∧ l.any (·.refKey) = false := by
        intro l
        induction l with
        | nil => intro _ _ _; exact ⟨rfl, rfl⟩
        | cons e r ih =>
          intro ks h hz
          cases ks with
          | nil => cases h
          | cons k ks =>
            have h2 : He.keyOf e :: r.map He.keyOf = some (k, PyData.keyHash w.params k) :: He.keysIn w.params ks := h
            injection h2 with h3 h4
            obtain ⟨i1, i2⟩ := ih ks h4 (fun q => hz (List.mem_cons_of_mem _ q))
            unfold He.keyOf at h3
            split at h3
            · rename_i x t q
              have h5 := (Prod.mk.inj (Option.some.inj h3)).1
              have h6 : e.key.isStr z = false := by
                rw [q]
                show (x == z) = false
                rw [h5]
                exact beq_eq_false_iff_ne.mpr fun e => hz (by rw [e]; exact List.mem_cons_self)
              refine ⟨by rw [List.find?_cons, h6]; exact i1, ?_⟩
              rw [List.any_cons, i2]
              simp [DictEntry.refKey, q]
            · cases h3
      obtain ⟨k1, k2⟩ := key _ _ h1 hz
      unfold PySem.W.nsIn
      rw [hl]
      simp only [k1, k2]
      rfl
    · cases h
  · cases h
/-- the values, by key -/
def ktB (K : PySem.W.Frag) (x : Str) (kvs : List (Str × He.Dv)) : Bool := He.eqO (PySem.W.nsIn K mainGlobals x) (some (some (.ref (He.ga K x)))) && He.valsB K (He.ga K x) kvs
theorem lookup_mem {α : Type} {z : Str} {y : α} : ∀ {D : List (Str × α)}, D.lookup z = some y → (z, y) ∈ D
  | [], h => by cases h
  | (k, v) :: D, h => by
    rw [List.lookup_cons] at h
    split at h
    · rename_i e
      cases h
      rw [eq_of_beq e]
      exact List.mem_cons_self
    · exact List.mem_cons_of_mem _ (lookup_mem h)
theorem lookup_not {α : Type} {z : Str} : ∀ {D : List (Str × α)}, D.lookup z = none → z ∉ D.map (·.1)
  | [], _ => by simp
  | (k, v) :: D, h => by
    rw [List.lookup_cons] at h
    split at h
    · cases h
    · rename_i e
      have e : z ≠ k := by simpa using e
      simp only [List.map_cons, List.mem_cons, not_or]
      exact ⟨e, lookup_not h⟩
theorem ktab_ok {K : PySem.W.Frag} {w : World} {h : Heap} {mg : Str → Option Value} {x : Str} {kvs : List (Str × He.Dv)} {D : List (Str × W)} (X : K.In h) (G : h.Ns mainGlobals mg) (c : ktB K x kvs = true) (hd : He.dicW K (He.ga K x) = some (He.keysIn w.params (D.map (·.1))))
    (hr : ∀ p ∈ D, ∃ d, (p.1, d) ∈ kvs ∧ ∀ r H, Rep ⟨K, mg⟩ r H p.2 (d.v K)) : KTab K w mg x D := by
  obtain ⟨c1, c2⟩ := He.ba c
  obtain ⟨es, n, kd⟩ := He.dicW_ok hd
  refine ⟨He.ga K x, es, n, PySem.W.mg_of X G (He.eqO_ok c1), kd, fun z => ?_⟩
  cases e : D.lookup z with
  | none => exact nsNone hd (lookup_not e)
  | some y =>
    obtain ⟨d, h1, h2⟩ := hr _ (lookup_mem e)
    obtain ⟨u, e1, e2⟩ := He.valsB_ok c2 h1
    exact ⟨u, _, e1, e2, h2⟩
/-! ### the hook, by tables too -/
def obsC (chk : PySem.W.Frag → Bool) (fn : List He.DefD) (ts : List He.Tab) (K : PySem.W.Frag) : He.AlT := (obsB chk fn K, ts.map fun t => He.dicW K (t.1 K))
def SaysC (chk : PySem.W.Frag → Bool) (fn : List He.DefD) (ts : List He.Tab) (w : World) (K : PySem.W.Frag) : Prop := obsC chk fn ts K = He.valT fn ts w
def obsCG (n : Nat) (chk : PySem.W.Frag → Bool) (fn : List He.DefD) (ts : List He.Tab) (g : Addr → Option Obj) : He.AlT := obsC chk fn ts (He.frG g (asB g n))
def hookC (n : Nat) (chk : PySem.W.Frag → Bool) (fn : List He.DefD) (ts : List He.Tab) : PySem.W.Hook where
  α := He.AlT
  obs := fun s => obsCG n chk fn ts s.heap.get?
  val := fun w => He.valT fn ts w
  says := fun w h => ∃ K : PySem.W.Frag, K.In h ∧ SaysC chk fn ts w K
  of := fun _ _ e => ⟨_, He.frG_in, e⟩
  keeps := fun _ _ _ ⟨K, hK, c⟩ k => ⟨K, PySem.W.Frag.In.keeps hK k, c⟩
theorem obsCG_eq {n : Nat} {chk : PySem.W.Frag → Bool} {fn : List He.DefD} {ts : List He.Tab} {g : Addr → Option Obj} {s : Shared} (h : ∀ a, g a = s.heap.get? a) : obsCG n chk fn ts g = (hookC n chk fn ts).obs s := by
  have e : g = s.heap.get? := funext h
  rw [e] <;> rfl
section
variable {chk : PySem.W.Frag → Bool} {fn : List He.DefD} {ts : List He.Tab} {w : World} {K : PySem.W.Frag}
theorem SaysC.b (c : SaysC chk fn ts w K) : SaysB chk fn K := congrArg (fun z : He.AlT => z.1) c
theorem SaysC.tab (c : SaysC chk fn ts w K) (i : Nat) {t : He.Tab} (h : ts[i]? = some t := by rfl) : He.dicW K (t.1 K) = some (He.keysIn w.params t.2) := by
  have e : ts.map (fun t => He.dicW K (t.1 K)) = ts.map fun t => some (He.keysIn w.params t.2) := congrArg (fun z : He.AlT => z.2) c
  have e2 : (ts.map fun t => He.dicW K (t.1 K))[i]? = (ts.map fun t => some (He.keysIn w.params t.2))[i]? := by rw [e]
  rw [List.getElem?_map, List.getElem?_map, h] at e2
  exact Option.some.inj e2
end
end Sw
/-! Sw13: sorted(set(t)). -/
namespace Sw
open PySem PySem.Spec PyProof.Rows L2
theorem pw_ext {l m : List Int} (h : l.Pairwise (· < ·)) (k : m.Pairwise (· < ·)) (e : ∀ x, x ∈ l ↔ x ∈ m) : l = m := by
  induction l generalizing m with
  | nil =>
    cases m with
    | nil => rfl
    | cons a m => exact absurd ((e a).mpr List.mem_cons_self) List.not_mem_nil
  | cons a l ih =>
    cases m with
    | nil => exact absurd ((e a).mp List.mem_cons_self) List.not_mem_nil
    | cons b m =>
      rw [List.pairwise_cons] at h k
      have hab : a = b := by
        rcases List.mem_cons.mp ((e a).mp List.mem_cons_self) with q | q
        · exact q
        · rcases List.mem_cons.mp ((e b).mpr List.mem_cons_self) with r | r
          · exact r.symm
          · have := h.1 b r
            have := k.1 a q
            omega
      subst hab
      congr 1
      refine ih h.2 k.2 fun x => ?_
      have ex := e x
      constructor
      · intro hx
        rcases List.mem_cons.mp (ex.mp (List.mem_cons_of_mem _ hx)) with q | q
        · have := h.1 x hx; omega
        · exact q
      · intro hx
        rcases List.mem_cons.mp (ex.mpr (List.mem_cons_of_mem _ hx)) with q | q
        · have := k.1 x hx; omega
        · exact q
theorem leI_le {a b : Int} (h : leI a b = true) : a ≤ b := of_decide_eq_true h
theorem sorted_pw (ns : List Int) : (ns.mergeSort leI).Pairwise (· ≤ ·) := by
  have h := List.pairwise_mergeSort (le := leI) (fun a b c h1 h2 => decide_eq_true (by have := leI_le h1; have := leI_le h2; omega)) (fun a b => by
    unfold leI
    rcases Int.le_total a b with h | h
    · simp [h]
    · simp [h]) ns
  exact h.imp fun h => leI_le h
/-- the members, rising -/
def riseL : List Int → List Int
  | [] => []
  | [a] => [a]
  | a :: b :: l => if a = b then riseL (b :: l) else a :: riseL (b :: l)
theorem riseL_mem : ∀ (l : List Int) (x : Int), x ∈ riseL l ↔ x ∈ l
  | [], _ => Iff.rfl
  | [a], _ => Iff.rfl
  | a :: b :: l, x => by
    unfold riseL
    split
    · rename_i h
      subst h
      rw [riseL_mem (a :: l) x]
      simp
    · rw [List.mem_cons, riseL_mem (b :: l) x]
      simp
theorem riseL_pw : ∀ (l : List Int), l.Pairwise (· ≤ ·) → (riseL l).Pairwise (· < ·)
  | [], _ => .nil
  | [a], _ => by simp [riseL]
  | a :: b :: l, h => by
    rw [List.pairwise_cons] at h
    unfold riseL
    split
    · exact riseL_pw (b :: l) h.2
    · rename_i hab
      rw [List.pairwise_cons]
      refine ⟨fun x hx => ?_, riseL_pw (b :: l) h.2⟩
      have hx2 := (riseL_mem (b :: l) x).mp hx
      have h1 := h.1 x hx2
      rcases List.mem_cons.mp hx2 with rfl | hx3
      · omega
      · have h3 := (List.pairwise_cons.mp h.2).1 x hx3
        have h4 := h.1 b List.mem_cons_self
        omega
def setI (ns : List Int) : List Int := riseL (ns.mergeSort leI)
theorem setI_mem {ns : List Int} {x : Int} : x ∈ setI ns ↔ x ∈ ns := by
  unfold setI
  rw [riseL_mem]
  exact List.mem_mergeSort
theorem setI_pw (ns : List Int) : (setI ns).Pairwise (· < ·) := riseL_pw _ (sorted_pw ns)
theorem setI_len (ns : List Int) : (setI ns).length ≤ ns.length := by
  have h : ∀ l : List Int, (riseL l).length ≤ l.length := by
    intro l
    fun_induction riseL l with
    | case1 => exact Nat.le_refl _
    | case2 => exact Nat.le_refl _
    | case3 b l ih => simp only [List.length_cons] at ih ⊢; omega
    | case4 a b l e ih => simp only [List.length_cons] at ih ⊢; omega
  have := h (ns.mergeSort leI)
  simpa [setI] using this
theorem setI_of {ns l : List Int} (h : l.Pairwise (· < ·)) (e : ∀ x, x ∈ l ↔ x ∈ ns) : l = setI ns := pw_ext h (setI_pw ns) fun x => (e x).trans setI_mem.symm
/-! ### set(xs) of a list of ints -/
abbrev set0 (w : World) : Obj := { cls := .type "set", dict := none, data := .set #[] 0 (.fresh 0 0 (!w.params.followText "set-order")) }
section
open L2
variable {P : Program} {w : World} {A : Around} {E : Value → Shared → Prop} {s : Shared}
set_option maxRecDepth 100000 in
set_option maxHeartbeats 3200000 in
theorem set_of_list {b : Addr} {vs : Array Value} (ns : List Int) {R : Value → Shared → Prop} (hd : A.handled = none) (hl : s.heap.IsList b vs) (hi : IntsAre vs.toList ns) (hn : ns.length + 1 < scanBound)
    (k : ∀ (g : Heap) (tk c : Nat), SetR w g s.heap.objs.size (fun j => decide (j ∈ ns)) c → c ≤ ns.length → (∀ d o, s.heap.get? d = some o → g.get? d = some o) → R (.ref s.heap.objs.size) { s with heap := g, toks := tk }) :
    wpAny (model P w) A (call (.type "set") [.ref b]) R E s := by
  have hvs : vs.size = ns.length := by simpa using IntsAre.length hi
  obtain ⟨c0, tl0, mro0⟩ := F.called_set.mro
  have made0 := F.called_set.made
  have sub0 := F.called_set.sub
  refine wpAny_call (codeAny_of_tree ?_)
  show wpAny _ _ (callAny (.type "set") _) _ _ _
  refine wpAny_pure ⟨Code.quiet_builtin _ (by decide +kernel), codeAny_builtin F.entry_type_call ?_⟩
  rw [Around.under_plain (weight_type_call_type "set" [.ref b] []) rfl]
  have c1 := F.called_set.notType
  have c2 := F.called_set.canCreate
  have c3 := F.typeCall_set_1 (.ref b)
  repeat (any_goals (first | assumption | wp_step))
  refine codeAny_mono (code_set_led1 (.ref b) (E := E) (Q₁ := fun x t => x = .ref s.heap.objs.size ∧ t = { s with heap := s.heap.push (set0 w) }) ⟨rfl, rfl⟩) fun rr t ht => ?_
  cases rr with
  | error e => exact ht
  | ok fl =>
    cases fl with
    | ret x =>
      obtain ⟨rfl, rfl⟩ := ht
      have at0 : (s.heap.push (set0 w)).get? s.heap.objs.size = some (set0 w) := Heap.get?_push_size _ rfl
      have ty0 : Shared.TypeIs { s with heap := s.heap.push (set0 w) } (.ref s.heap.objs.size) "set" := ⟨_, at0, rfl⟩
      have i1 := F.called_set.init.lookup
      have i2 := F.called_set.init.bind (.ref s.heap.objs.size)
      repeat (any_goals (first | assumption | wp_step))
      refine codeAny_mono (codeAny_call_builtin (R := wants (fun x t => x = .none ∧ ∃ g tk c, t = { s with heap := g, toks := tk } ∧ SetR w g s.heap.objs.size (fun j => decide (j ∈ ns)) c ∧ c ≤ ns.length ∧ ∀ d o, s.heap.get? d = some o → g.get? d = some o) E)
        F.called_set.init.plain F.entry_set_init (check_set_init_1 ty0 ?_)) fun rr t ht => ?_
      · obtain ⟨⟨lc, ld, lda, lsl⟩, hol, hcl, ne, hdl⟩ := id hl
        simp only at hcl hdl
        subst hcl; subst hdl
        have hol' : (s.heap.push (set0 w)).get? b = some { cls := .type "list", dict := ld, data := .seq vs ne, slots := lsl } := Heap.get?_push_of_some _ hol
        have s1 := F.sub_list_set
        have s2 := F.sub_list_frozenset
        have nd : (Value.type "list" == Value.type "dict") = false := by decide
        have hl1 : (s.heap.push (set0 w)).IsList b vs := ⟨_, hol', rfl, ne, rfl⟩
        unfold Builtin.«set.__init__» noKeywords Builtin.Frozenset.updateFrom
        generalize hPI : pyIter = PI
        wp_walk
        subst hPI
        refine wpAny_pyIter_list hl1 (wpAny_bind (wpAny_runValue ?_))
        have lt0 : b < s.heap.objs.size := Heap.lt_size hol
        have hd3 : A.in1.in1.in1.handled = none := by simp [hd]
        have nb : b ≠ (s.heap.push (set0 w)).objs.size := by
          rw [Heap.size_push]
          exact Nat.ne_of_lt (Nat.lt_succ_of_lt lt0)
        have nf : s.heap.objs.size ∉ [(s.heap.push (set0 w)).objs.size, b] := by
          rw [Heap.size_push]
          simp only [List.mem_cons, List.not_mem_nil, or_false, not_or]
          exact ⟨Nat.ne_of_lt (Nat.lt_succ_self _), Nat.ne_of_gt lt0⟩
        have val : ∀ (i : Nat) (v : Value), vs[i]? = some v → ∃ k t, ns[i]? = some k ∧ v = .int k t := fun i v hv => by
          have lt : i < ns.length := by
            rw [← hvs]
            exact (Array.getElem?_eq_some_iff.mp hv).1
          obtain ⟨t, e⟩ := PyProof.Rows.IntsAre.int_at hi i v (by rw [Array.getElem?_toList]; exact hv)
          refine ⟨ns[i], t, List.getElem?_eq_getElem lt, ?_⟩
          rw [e, List.getD_eq_getElem?_getD, List.getElem?_eq_getElem lt] <;> rfl
        refine set_update_ints ((Walks.list hd3 _ b nb vs).toS) s.heap.objs.size nf ns hvs hn val (vs.size - 0) 0 _ (by omega) (Nat.zero_le _) ⟨⟨_, Heap.get?_push_size _ rfl, rfl, rfl⟩, (hl1.push _)⟩ ?start ?stop
        case start => exact ⟨0, Nat.le_refl 0, setR_new_at (Heap.get?_push_of_some _ at0)⟩
        case stop =>
          intro t c mv hc S1
          obtain ⟨g, g2, d2, tk, os2⟩ := t
          have e1 : g2 = s.gens := mv.gens
          have e2 : d2 = s.drawn := mv.drawn
          have e3 : os2 = s.os := mv.os
          subst e1 e2 e3
          show wpAny _ _ _ _ _ _
          refine wpAny_pure ?_
          show wpAny _ _ (ret Value.none) _ _ _
          refine wpAny_pure ⟨rfl, g, tk, c, rfl, S1, by rw [← hvs]; exact hc, fun d o e => ?_⟩
          have q := Heap.lt_size e
          refine mv.heap d o ?_ (Heap.get?_push_of_some _ (Heap.get?_push_of_some _ e))
          rw [Heap.size_push]
          simp only [List.mem_cons, List.not_mem_nil, or_false, not_or]
          exact ⟨Nat.ne_of_lt q, Nat.ne_of_lt (Nat.lt_succ_of_lt q)⟩
      · cases rr with
        | error e => exact ht
        | ok fl =>
          cases fl with
          | ret x =>
            obtain ⟨rfl, g, tk, c, rfl, S1, hc, kp⟩ := ht
            repeat (any_goals (first | assumption | wp_step))
            exact k _ _ _ S1 hc kp
          | _ => exact ht.elim
    | _ => exact ht.elim
end
section
variable {X : Cx} {Wx : WX} {pos p p2 q : Pos} {a : Expr} {ta : TE} {fa : FE}
def tSortSet (K : PySem.W.Frag) (ta : TE) : TE := fun σ H Q => ta σ H fun x H1 => ∃ (l : Addr) (ns : List Int), x = V.ref l ∧ (SqT K H1 l (ns.map V.int) ∨ SqL K H1 l (ns.map V.int)) ∧ ns.length < 64 ∧ ∀ p, H1 p = none → Q (.ref p) (upd H1 p (.lst ((setI ns).map V.int)))
theorem pe_sortSet (hc : X.calm = true) (hg : Gl X "sorted") (hm : X.mg "sorted" = none) (hg2 : Gl X "set") (hm2 : X.mg "set" = none) (ha : PE X a ta)
    (na : starEach [a] X.env = (false, eval a X.env) :: starEach [] X.env := by rfl) : PE X (.Call (.Name "sorted" p) [.Call (.Name "set" p2) [a] [] q] [] pos) (tSortSet X.K ta) := by
  refine ⟨fun pins s σ H Q I h => ?_⟩
  refine Call_ (ld_blt I hg hm (show bootBuiltins ("sorted" : Str) = some (.builtin "sorted") from by decide +kernel) ?_)
  refine PyProof.Rows.callWith_builtin1 (PyProof.Rows.args_cons ?_ rfl) rfl rfl
  refine Call_ (ld_blt I hg2 hm2 PyProof.Rows.boot_set ?_)
  refine PyProof.Rows.callWith_type1 (PyProof.Rows.args_cons (thn (ha.run pins s σ H _ I h) fun v s1 ⟨x, H1, I1, r1, q1⟩ => PyProof.Rows.args_nil ?_) na) na rfl
  obtain ⟨l, ns, rfl, hq, h1, q1⟩ := q1
  cases r1
  have hd := I1.ok.hd hc
  have tail : ∀ (h' : Heap) (tk c : Nat), SetR X.w h' s1.heap.objs.size (fun j => decide (j ∈ ns)) c → c ≤ ns.length → (∀ b o, s1.heap.get? b = some o → h'.get? b = some o) →
      wpAny (model X.prog X.w) X.A (spliced (backTo pos (starEach [] X.env))) (fun vs s2 => wpAny (model X.prog X.w) X.A (call (.builtin "sorted") (Value.ref s1.heap.objs.size :: vs)) (EP X pins σ Q) X.xe s2) X.xe { s1 with heap := h', toks := tk } := fun h' tk c R1 hcn k => by
    refine PyProof.Rows.args_nil ?_
    have I2 : Inv X pins σ H1 { s1 with heap := h', toks := tk } := I1.kept fun b o e => k b o e
    refine sorted_set (s := { s1 with heap := h', toks := tk }) R1 hd (by omega) fun s' p' out c' ns' k' g o hp hg' hi' hs hmm hl => ?_
    have e : ns' = setI ns := setI_of hs fun x => by rw [hmm x, decide_eq_true_eq]
    subst e
    have hlen : ((setI ns).map V.int).length ≤ sizeLine := by rw [List.length_map, sizeLine_eq]; have := setI_len ns; omega
    have hn : H1 p' = none := I2.hok.fresh hp
    have J : Inv X pins σ (upd H1 p' (.lst ((setI ns).map V.int))) { s1 with heap := s'.heap, gens := s'.gens, drawn := s'.drawn, toks := s'.toks } := by
      have J0 := I2.call (h' := s'.heap) (g' := s'.gens) (d' := s'.drawn) (t' := s'.toks) (ch := []) (Un.laid k' hp hn) (I2.hok.laid k' hp (show ObjOk X.prog X.w _ _ _ (.lst ((setI ns).map V.int)) from ⟨hlen, out.toList, c', vals_of_ints hi', hg'⟩)) (by rw [g]; exact I2.bare) (fun _ z => nomatch z)
      exact J0
    have e : s' = { s1 with heap := s'.heap, gens := s'.gens, drawn := s'.drawn, toks := s'.toks } := by
      cases s'
      cases s1
      cases o
      rfl
    rw [e]
    exact ⟨.ref p', _, J, rfl, q1 p' hn⟩
  rcases hq with hq | hq
  · obtain ⟨its, rv, pt, hz⟩ := I1.tuple hq
    exact call_set_tupI ns hd (show s1.heap.IsTuple l its.toArray from pt) (ints_of_vals rv : IntsAre its.toArray.toList ns) (by unfold scanBound; omega) tail
  · obtain ⟨its, rv, pt, hz⟩ := I1.list hq
    exact set_of_list ns hd pt.isList (ints_of_vals rv : IntsAre its.toArray.toList ns) (by unfold scanBound; omega) tail
def fSortSet (f : FE) : FE := fun env st => (f env st).bind fun x st1 => match x with
  | .tup l => (optB (getI l) st1).bind fun ns _ => if ns.length < 64 then .ok (.ref st1.length) (st1 ++ [.lst ((setI ns).map .int)]) else .bad
  | x => match getL st1 x with
    | some l => (optB (getI l) st1).bind fun ns _ => if ns.length < 64 then .ok (.ref st1.length) (st1 ++ [.lst ((setI ns).map .int)]) else .bad
    | none => .bad
theorem e_sortSet (hc : X.calm = true) (hg : Gl X "sorted") (hm : X.mg "sorted" = none) (hg2 : Gl X "set") (hm2 : X.mg "set" = none) (ha : PE X a (tE (gx X) Wx fa))
    (na : starEach [a] X.env = (false, eval a X.env) :: starEach [] X.env := by rfl) : PE X (.Call (.Name "sorted" p) [.Call (.Name "set" p2) [a] [] q] [] pos) (tE (gx X) Wx (fSortSet fa)) := (pe_sortSet hc hg hm hg2 hm2 ha na).imp fun s H Q h => by
  obtain ⟨env, l, st, en, sm, p⟩ := h
  refine ⟨env, l, st, en, sm, (Po.bind p).imp fun x l1 H1 g1 ⟨st1, sm1, _, p1⟩ vx rx => ?_⟩
  have one : ∀ {l2 : List W} {at1 : Addr} {vs : List V}, RepL (gx X) l1 H1 l2 vs → (SqT X.K H1 at1 vs ∨ SqL X.K H1 at1 vs) → Po (gx X) Wx s (fun w r' H' => ∀ v, Rep (gx X) r' H' w v → Q v H') l1 H1 ((optB (getI l2) st1).bind fun ns _ => if ns.length < 64 then .ok (.ref st1.length) (st1 ++ [.lst ((setI ns).map .int)]) else .bad) →
      ∃ (l : Addr) (ns : List Int), V.ref at1 = V.ref l ∧ (SqT X.K H1 l (ns.map V.int) ∨ SqL X.K H1 l (ns.map V.int)) ∧ ns.length < 64 ∧ ∀ p, H1 p = none → Q (.ref p) (upd H1 p (.lst ((setI ns).map V.int))) := fun {l2 at1 vs} k h p1 => by
    obtain ⟨ns, hns, st2, sm2, _, p3⟩ := Po.optB (Po.bind p1) sm1
    obtain ⟨hz, p3⟩ := ite_bad p3
    rw [getI_rep k hns] at h
    exact ⟨_, ns, rfl, h, hz, Po.newL sm1 (repL_ints _) p3⟩
  cases rx with
  | tup h k => exact one k (.inl h) p1
  | rol h k => exact one k (.inr h.sq) p1
  | @ref n at1 h =>
    simp only [getL] at p1
    cases e : st1[n]? with
    | none => simp only [e] at p1; exact p1.elim
    | some o =>
      cases o with
      | lst l2 =>
        simp only [e] at p1
        obtain ⟨vs, e2, k⟩ := sm1.got e h
        exact one k (.inr (.inl (.inl e2))) p1
      | _ => simp only [e] at p1; exact p1.elim
  | _ => exact p1.elim
end
end Sw
/-! Sw14: sorted(range(n), key=lambda x: (-y[x], x)). -/
namespace Sw
open PySem PySem.Spec PyProof.Rows L2
section
variable {prog : Program} {w : World} {A : Around} {E : Value → Shared → Prop} {s : Shared}
abbrev keyE (y x : Str) (p1 p2 p3 p4 p5 p6 : Pos) (n : Nat) : Expr := .Tuple [.UnaryOp .USub (.Subscript (.Name y p1) (.Name x p2) p3) p4, .Name x p5] n p6
theorem key_call {f c' cy l : Addr} {q x y : Str} {params : Arguments} {scope : Scope} {cl : List (Str × Addr)} {pm ctv : Value} {k j : Int} {tk tj : Tok} {its : Array Value} {p1 p2 p3 p4 p5 p6 : Pos} {n : Nat}
    (hroom : A.depth < recursionLimit) (ho : s.heap.get? f = some (PySem.W.kla_obj "<lambda>" q params (keyE y x p1 p2 p3 p4 p5 p6 n) scope cl pm c' ctv))
    (hco : scope.isCoroutine = false) (hgen : scope.isGenerator = false) (hk : scope.kind = .function) (hcd : s.heap.CodeRec (.ref c') q)
    (hbind : ∀ v, bindArgs (PySem.W.kla_fn "<lambda>" q params (keyE y x p1 p2 p3 p4 p5 p6 n) scope cl pm (.ref c') ctv) ⟨[v], []⟩ = pure [(x, v)])
    (hx : scope.names.lookup x = some .local) (hy : scope.names.lookup y = some .free) (hcell : ∀ z ∈ scope.names, z.2 ≠ .cell) (hlim : s.heap.NoLimit)
    (hcy : cl.lookup y = some cy) (hcv : s.heap.IsCell cy (some (.ref l))) (hl : s.heap.IsList l its) (h0 : 0 ≤ k) (hfit : k < 2 ^ 63) (hv : its[k.toNat]? = some (.int j tj))
    (d1 : (x == ("__debug__" : Str)) = false) (d2 : (y == ("__debug__" : Str)) = false) (d3 : (y == ("__classdict__" : Str)) = false) :
    wpAny (model prog w) A (call (.ref f) [.int k tk]) (PySem.W.KeyPure (.tuple [.int (-j), .int k]) s) (fun _ _ => False) s := by
  refine wpAny_call (PySem.W.kla_callFunE hroom ho rfl hco hgen rfl hcd ?_)
  rw [hbind]
  refine wpAny_pure (wpAny_newFunctionEnv hcell (fun z hz => by
    rw [List.mem_singleton.mp hz]
    exact hx) (fun h₁ hns hsb => ⟨hlim.fresh _ hsb, ?_⟩) hk)
  show codeAny _ _ (.expr (keyE y x p1 p2 p3 p4 p5 p6 n) (PySem.W.envX q scope s.heap.objs.size f (.ref c') cl)) _ _
  have kp : ∀ b o, s.heap.get? b = some o → h₁.get? b = some o := fun b o e => hsb.extBut b o (Nat.ne_of_lt (Heap.lt_size e)) (Heap.get?_push_of_some _ e)
  refine PySem.W.kla_codeExpr ?_
  have lk : [(x, Value.int k tk)].reverse.lookup x = some (.int k tk) := by simp [List.lookup]
  have cell1 : h₁.IsCell cy (some (.ref l)) := by
    obtain ⟨o, e1, e2⟩ := hcv
    exact ⟨o, kp _ _ e1, e2⟩
  have list1 : h₁.IsList l its := by
    obtain ⟨o, e1, e2⟩ := hl
    exact ⟨o, kp _ _ e1, e2⟩
  refine PyProof.Rows.Tuple_ (PyProof.Rows.args_cons (PyProof.Rows.UnaryOp_ (PyProof.Rows.Subscript_ (wpAny_Name (wpAny_loadName_free hk hy hcy cell1 ?_ d3) d2))))
  refine wpAny_Name (wpAny_loadName_local hk hx hns lk ?_) d1
  refine item_listR list1 h0 hfit hv ?_
  refine neg_int ?_
  refine PyProof.Rows.args_cons (wpAny_Name (wpAny_loadName_local hk hx hns lk ?_) d1)
  refine PyProof.Rows.args_nil ?_
  refine wpAny_newTuple ?_ (by show 2 ≤ sizeLine; decide)
  refine ⟨_, _, rfl, fun b o e => Heap.get?_push_of_some _ (kp b o e), ?_⟩
  exact .tuple (Heap.get?_push_size _ rfl) rfl rfl (.cons (as := []) (.int _ _) (.cons (as := []) (.int _ _) .nil))
/-- sorted(range(n), key=f), f's calls as key_call tells -/
theorem sorted_range_key {r q : Addr} {n : Nat} {t u v : Tok} {Q : Value → Shared → Prop} (k : Int → PyData) (hh : A.handled = none) (hr : IsRange s.heap r 0 (n : Int) 1 t u v) (hn : n ≤ 1000)
    (hal : PySem.W.AllAlike (((List.range n).map Int.ofNat).map k)) (hk : PySem.W.Sortable (((List.range n).map Int.ofNat).map k)) (hu : ∀ x, (k x).depth ≤ 4) (hA : A.units + 20 < cLine)
    (turn : ∀ (i : Int) (ti : Tok), 0 ≤ i → i < n → ∀ (h : Heap) (tk : Nat), (∀ b o, s.heap.get? b = some o → h.get? b = some o) →
      wpAny (model prog w) A.in1.in1 (call (.ref q) [.int i ti]) (PySem.W.KeyPure (k i) { s with heap := h, toks := tk }) (fun _ _ => False) { s with heap := h, toks := tk })
    (h : ∀ (p : Addr) (out : List Value) (c : Nat) (h' : Heap) (tk : Nat), (∀ b o, s.heap.get? b = some o → h'.get? b = some o) → s.heap.get? p = none → h'.get? p = some { cls := .type "list", data := .seq out.toArray c } →
      PySem.W.EachIs (fun v i => ∃ t, v = Value.int i t) out (((List.range n).map Int.ofNat).mergeSort (PySem.W.dataLe false k)) → Q (.ref p) { s with heap := h', toks := tk }) :
    wpAny (model prog w) A (call (.builtin "sorted") [.ref r] [(Str.ofString "key", .ref q)]) Q E s := by
  refine PyProof.Rows.call_function_entry_kw PyProof.Rows.kind_sorted PyProof.Rows.plain_sorted PyProof.Rows.entry_sorted (ksk_s1 _ _) ?_
  unfold Builtin.«sorted»
  refine wpAny_bind (m := checkCount "sorted" 1 1 _) (wpAny_pure ?_)
  have hl24 : n ≤ 2 ^ 24 := by omega
  refine wpAny_bind (collect_range (A := A.in1) (n := n) hh hr (small_one (by decide) (by decide) (by omega) (by omega)) (by have := rangeSize_nat 0 (n : Int); simpa using this) hl24 fun h' tk acc hkeep hacc => ?_)
  have ev := vals_rg (a := 0) (b := (n : Int)) (acc := acc) (by simpa using hacc)
  have eac : PySem.W.EachIs (fun v i => (∃ t, v = Value.int i t) ∧ 0 ≤ i ∧ i < (n : Int)) acc.toList ((List.range n).map Int.ofNat) := by
    have el : acc.toList.length = n := by rw [Array.length_toList]; exact hacc.1
    have go : ∀ (l : List Value) (m : List Nat), l.length = m.length → (∀ (i : Nat) (v : Value) (j : Nat), l[i]? = some v → m[i]? = some j → (∃ t, v = Value.int (j : Int) t) ∧ j < n) → PySem.W.EachIs (fun v i => (∃ t, v = Value.int i t) ∧ 0 ≤ i ∧ i < (n : Int)) l (m.map Int.ofNat) := by
      intro l
      induction l with
      | nil =>
        intro m hm _
        cases m with
        | nil => exact .nil
        | cons _ _ => simp at hm
      | cons a l ih =>
        intro m hm hg
        cases m with
        | nil => simp at hm
        | cons b m =>
          obtain ⟨h1, h2⟩ := hg 0 a b rfl rfl
          exact .cons ⟨h1, by simp, by simpa using h2⟩ (ih m (by simpa using hm) fun i v j e1 e2 => hg (i + 1) v j (by simpa using e1) (by simpa using e2))
    refine go acc.toList (List.range n) (by simp [el]) fun i v j e1 e2 => ?_
    have hi : i < n := by rw [← el]; exact (List.getElem?_eq_some_iff.mp e1).1
    rw [List.getElem?_range hi] at e2
    cases e2
    obtain ⟨t, e⟩ := hacc.2 i v (by rw [← Array.getElem?_toList]; exact e1)
    refine ⟨⟨t, by rw [e]; congr 1; omega⟩, hi⟩
  have el : acc.toList.length = n := by rw [Array.length_toList]; exact hacc.1
  have hz : acc.toList.length ≤ sizeLine := by rw [el, sizeLine_eq]; omega
  refine wpAny_bind (wpAny_newList ?_ hz)
  refine wpAny_bind (wpAny_holding (wpAny_call_entry_kw PyProof.Rows.slot_list_sort ⟨_, Heap.get?_push_size _ rfl, rfl⟩ PyProof.Rows.entry_list_sort ?body (ksk_l1 _ _)))
  case body =>
    show wpAny (model prog w) A.in1.in1 (Builtin.«list.sort» ⟨[.ref h'.objs.size], [(Str.ofString "key", .ref q)]⟩) _ _ _
    rw [ksk_t1]
    refine wpAny_mono (PySem.W.keyH_tree (kz := ((List.range n).map Int.ofNat).map k) (vs := acc.toList) (P := fun f s' => f = .done (.ret .none) ∧ Q (.ref h'.objs.size) s') (Heap.get?_push_size _ rfl) (by simp [el]) hz hal hk ?_ (PySem.W.keyH_turns eac fun v x hR hx h2 tk2 kp => ?_) fun h2 tk2 out c kp hD ko => ?_) (fun f s' hf => ?_) fun _ _ e => e
    · intro d hd
      obtain ⟨x, _, rfl⟩ := List.mem_map.mp hd
      have := hu x
      show A.units + 1 + 1 + _ < _
      omega
    · obtain ⟨⟨ti, rfl⟩, h0, h1⟩ := hR
      exact turn x ti h0 h1 h2 tk2 fun b o e => kp b o (Nat.ne_of_lt (Nat.lt_of_lt_of_le (Heap.lt_size (hkeep b o e)) (Nat.le_refl _))) (Heap.get?_push_of_some _ (hkeep b o e))
    · refine ⟨rfl, h _ out c h2 tk2 (fun b o e => kp b o (Nat.ne_of_lt (Nat.lt_of_lt_of_le (Heap.lt_size (hkeep b o e)) (Nat.le_refl _))) (Heap.get?_push_of_some _ (hkeep b o e))) ?_ hD ?_⟩
      · cases e : s.heap.get? h'.objs.size with
        | none => rfl
        | some o => exact absurd (Heap.lt_size (hkeep _ o e)) (Nat.lt_irrefl _)
      · exact (PySem.W.keyedOut_each k ko eac).mono fun _ _ z => z.1
    · obtain ⟨rfl, hq⟩ := hf
      exact ⟨_, rfl, wpAny_pure ⟨_, rfl, hq⟩⟩
end
/-! ### the store under a made lambda -/
theorem Stay.extN {H H' : Hp} (e : LamX.ExtN H H') : Stay H H' := fun a => ⟨fun xs h => e _ _ h (fun _ z => nomatch z), fun o u h => e _ _ h (fun _ z => nomatch z)⟩
/-- the tables in a store -/
def tabsOf : List Ob → List Addr → List (Addr × Str)
  | .tab _ q :: st, a :: r => (a, q) :: tabsOf st r
  | _ :: st, _ :: r => tabsOf st r
  | _, _ => []
theorem tabsOf_mem : ∀ {st : List Ob} {r : List Addr} {p : Addr × Str}, p ∈ tabsOf st r ↔ ∃ (n : Nat) (x : Str), st[n]? = some (.tab x p.2) ∧ r[n]? = some p.1
  | [], r, p => by
    constructor
    · intro h
      cases r <;> cases h
    · rintro ⟨n, x, h, _⟩
      simp at h
  | o :: st, [], p => by
    constructor
    · intro h
      cases o <;> cases h
    · rintro ⟨n, x, _, h⟩
      simp at h
  | o :: st, a :: r, p => by
    have ih := tabsOf_mem (st := st) (r := r) (p := p)
    have sh : (∃ (n : Nat) (x : Str), (o :: st)[n]? = some (.tab x p.2) ∧ (a :: r)[n]? = some p.1) ↔ ((∃ x, o = .tab x p.2) ∧ a = p.1) ∨ ∃ (n : Nat) (x : Str), st[n]? = some (.tab x p.2) ∧ r[n]? = some p.1 := by
      constructor
      · rintro ⟨n, x, h1, h2⟩
        cases n with
        | zero => exact .inl ⟨⟨x, by simpa using h1⟩, by simpa using h2⟩
        | succ n => exact .inr ⟨n, x, by simpa using h1, by simpa using h2⟩
      · rintro (⟨⟨x, h1⟩, h2⟩ | ⟨n, x, h1, h2⟩)
        · exact ⟨0, x, by simp [h1], by simp [h2]⟩
        · exact ⟨n + 1, x, by simpa using h1, by simpa using h2⟩
    rw [sh, ← ih]
    cases o with
    | tab y q =>
      show p ∈ (a, q) :: tabsOf st r ↔ _
      rw [List.mem_cons]
      constructor
      · rintro (e | h)
        · exact .inl ⟨⟨y, by rw [e]⟩, by rw [e]⟩
        · exact .inr h
      · rintro (⟨⟨x, e1⟩, e2⟩ | h)
        · cases e1
          exact .inl (by rw [e2])
        · exact .inr h
    | _ =>
      show p ∈ tabsOf st r ↔ _
      constructor
      · exact .inr
      · rintro (⟨⟨x, e1⟩, _⟩ | h)
        · cases e1
        · exact h
theorem Sim.tabs {G : Gx} {r : List Addr} {H : Hp} {st : Sto} (s : Sim G r H st) : LamX.Tabs (tabsOf st r) H := fun p hp => by
  obtain ⟨n, x, h1, h2⟩ := tabsOf_mem.mp hp
  exact (s.ob n _ _ h1 h2).2
theorem Sim.tab1 {G : Gx} {r : List Addr} {H : Hp} {st : Sto} (s : Sim G r H st) {n : Nat} {x q : Str} {a : Addr} (h : st[n]? = some (.tab x q)) (h2 : r[n]? = some a) : ∀ p ∈ tabsOf st r, p.1 = a → p.2 = q := fun p hp e => by
  obtain ⟨m, y, h3, h4⟩ := tabsOf_mem.mp hp
  rw [e] at h4
  have em := nd_ix s.nd h2 h4
  subst em
  rw [h] at h3
  cases h3
  rfl
theorem Sim.extN {G : Gx} {r : List Addr} {H H' : Hp} {st : Sto} (s : Sim G r H st) (e : LamX.ExtN H H') (t : LamX.Tabs (tabsOf st r) H') : Sim G r H' st := by
  have g : Grow r H r H' := Grow.same (Stay.extN e)
  refine ⟨s.len, s.nd, fun n o a e1 e2 => ?_⟩
  have q := s.ob n o a e1 e2
  have ex : ∀ (c : Addr) (u : HO), ((∃ fs, u = HO.xd fs) ∨ ∃ φ, u = HO.ext φ) → H c = some u → H' c = some u := fun c u hu hc => e c u hc fun ps z => by
    rcases hu with ⟨fs, rfl⟩ | ⟨φ, rfl⟩ <;> cases z
  cases o with
  | lst l => obtain ⟨vs, h1, k⟩ := q; exact ⟨vs, e _ _ h1 (fun _ z => nomatch z), k.grow g⟩
  | dct l => obtain ⟨vs, h1, k⟩ := q; exact ⟨vs, e _ _ h1 (fun _ z => nomatch z), k.grow g⟩
  | ins C fs => obtain ⟨Ca, dx, vs, m, h1, k⟩ := q; exact ⟨Ca, dx, vs, m, e _ _ h1 (fun _ z => nomatch z), k.grow g⟩
  | exc C fs =>
    obtain ⟨Ca, d, m, h1, k⟩ := q
    refine ⟨Ca, d, m, ex _ _ (.inr ⟨_, rfl⟩) h1, ?_⟩
    rcases k with k | ⟨da, vs, ed, h2, k⟩
    · exact .inl k
    · exact .inr ⟨da, vs, ed, ex _ _ (.inl ⟨_, rfl⟩) h2, k.grow g⟩
  | tab x q' => exact ⟨q.1, t (a, q') (tabsOf_mem.mpr ⟨n, x, e1, e2⟩)⟩
/-! ### the rule -/
def leK (ns : List Int) (a b : Int) : Bool := decide (-(ns.getD a.toNat 0) < -(ns.getD b.toNat 0) ∨ (-(ns.getD a.toNat 0) = -(ns.getD b.toNat 0) ∧ a ≤ b))
def keySort (ns : List Int) : List Int := ((List.range ns.length).map Int.ofNat).mergeSort (leK ns)
def fSortKey (nm q : Str) (i : Nat) (f : FE) : FE := fun env st => (f env st).bind fun n st1 => match env[i]? with
  | some (some w) => (match getL st1 w with
    | some l => (match getI l with
      | some ns => (match n with
        | .int n => (match st1[0]? with
          | some (Ob.tab nm' q') => if n = ns.length ∧ ns.length ≤ 1000 ∧ nm' = nm ∧ q' = q then .ok (.ref st1.length) (st1 ++ [.lst ((keySort ns).map .int)]) else .bad
          | _ => .bad)
        | _ => .bad)
      | none => .bad)
    | none => .bad)
  | _ => .bad
theorem leK_eq (ns : List Int) : PySem.W.dataLe false (fun i : Int => .tuple [.int (-(ns.getD i.toNat 0)), .int i]) = leK ns := by
  rw [PySem.W.dataLe_ii]
  rfl
theorem vals_each {out : List Value} {is : List Int} (h : PySem.W.EachIs (fun v i => ∃ t, v = Value.int i t) out is) : Vals (is.map V.int) out := by
  induction h with
  | nil => exact .nil
  | cons h _ ih => exact .cons h ih
/-- what the rule asks of the lambda's scope -/
def lamKB (sc : Scope) (x y : Str) (scope : Scope) : Bool := decide (scope.kind = .function) && (!scope.isCoroutine && (!scope.isGenerator && (decide (scope.names.lookup x = some .local) && (decide (scope.names.lookup y = some .free) &&
  ((scope.names.all fun z => !decide (z.2 = .cell) && (!decide (z.2 = .free) || decide (sc.names.lookup z.1 = some .cell))) && decide (sc.names.lookup y = some .cell))))))
section
variable {X : Cx} {Wx : WX} {pos p p2 q0 kp lp : Pos} {e : Expr} {fa : FE}
theorem e_sortKey {nm q x y : Str} {i k : Nat} {params : Arguments} {scope : Scope} {p1 p3 p4 p5 p6 p7 : Pos} {n : Nat} (TB : LamX.TabB X.base X.mg (He.cT X.K (nm, none)).1 (He.cT X.K (nm, none)).2) (hcode : X.env.code = .ref (He.cT X.K (nm, none)).1) (hq : X.env.qual ++ "<lambda>" = q)
    (hc : X.calm = true) (hg : Gl X "sorted") (hm : X.mg "sorted" = none) (hg2 : Gl X "range") (hm2 : X.mg "range" = none) (he : PE X e (tE (gx X) Wx fa)) (hr : Room k X.A) (hN : X.N[i]? = some y)
    (hdef : defaultsOf params X.env = ([], [])) (hs : lamKB X.env.scope x y scope = true) (hbind : ∀ (q : Str) (cl : List (Str × Addr)) (pm cv ctv v : Value), bindArgs (PySem.W.kla_fn "<lambda>" q params (keyE y x p1 p3 p4 p5 p6 p7 n) scope cl pm cv ctv) ⟨[v], []⟩ = pure [(x, v)])
    (d1 : (x == ("__debug__" : Str)) = false) (d2 : (y == ("__debug__" : Str)) = false) (d3 : (y == ("__classdict__" : Str)) = false)
    (na : starEach [e] X.env = (false, eval e X.env) :: starEach [] X.env := by rfl) :
    PE X (.Call (.Name "sorted" p) [.Call (.Name "range" p2) [e] [] q0] [⟨some "key", .Lambda params (keyE y x p1 p3 p4 p5 p6 p7 n) scope lp, kp⟩] pos) (tE (gx X) Wx (fSortKey nm q i fa)) := by
  refine ⟨fun pins s σ H Q I h => ?_⟩
  obtain ⟨env, l, st, en, sm, pp⟩ := h
  unfold lamKB at hs
  obtain ⟨hs1, hs⟩ := He.ba hs
  obtain ⟨hs2, hs⟩ := He.ba hs
  obtain ⟨hs3, hs⟩ := He.ba hs
  obtain ⟨hs4, hs⟩ := He.ba hs
  obtain ⟨hs5, hs⟩ := He.ba hs
  obtain ⟨hs6, hs7⟩ := He.ba hs
  have hs1 := of_decide_eq_true hs1
  have hs2 : scope.isCoroutine = false := by simpa using hs2
  have hs3 : scope.isGenerator = false := by simpa using hs3
  have hs4 := of_decide_eq_true hs4
  have hs5 := of_decide_eq_true hs5
  have hs7 := of_decide_eq_true hs7
  have hs6c : ∀ z ∈ scope.names, z.2 ≠ .cell := fun z hz => by
    obtain ⟨a, _⟩ := He.ba (List.all_eq_true.mp hs6 z hz)
    simpa using a
  have hs6f : ∀ z ∈ scope.names, z.2 = .free → ∃ c, X.env.cells.lookup z.1 = some c := fun z hz e => by
    obtain ⟨_, a⟩ := He.ba (List.all_eq_true.mp hs6 z hz)
    rw [e] at a
    refine I.ok.has _ (.inl ?_)
    show X.env.scope.names.lookup z.1 = _
    simpa using a
  refine wpAny_Call_Name_kw (ld_blt I hg hm (show bootBuiltins ("sorted" : Str) = some (.builtin "sorted") from by decide +kernel) ?_)
  refine PyProof.Rows.callWith_kw (PyProof.Rows.args_cons ?_ rfl) rfl rfl rfl rfl
  refine Call_ (ld_blt I hg2 hm2 PyProof.Rows.boot_range (PyProof.Rows.callWith_type1 (one_arg he (R := fun v H1 => ∃ (l1 : List Addr) (st1 : Sto) (w : W) (lw : List W) (ns : List Int), v = .int ns.length ∧ ns.length ≤ 1000 ∧ Sim (gx X) l1 H1 st1 ∧ Grow l H l1 H1 ∧ env[i]? = some (some w) ∧ getL st1 w = some lw ∧ getI lw = some ns ∧ st1[0]? = some (Ob.tab nm q) ∧
    Po (gx X) Wx σ (fun w r' H' => ∀ v, Rep (gx X) r' H' w v → Q v H') l1 H1 (.ok (.ref st1.length) (st1 ++ [.lst ((keySort ns).map .int)]))) I ⟨env, l, st, en, sm, (Po.bind pp).imp fun w l1 H1 g1 ⟨st1, sm1, _, p1⟩ v rx => ?_⟩ (fun v s2 x H2 I2 r q => ?_) na) na))
  · split at p1
    · rename_i w' hw
      split at p1
      · rename_i lw hlw
        split at p1
        · rename_i ns hns
          split at p1
          · rename_i n'
            cases rx
            split at p1
            · rename_i nm' q' h0
              obtain ⟨⟨c1, c2, c3, c4⟩, p9⟩ := ite_bad p1
              clear p1
              subst c1 c3 c4
              exact ⟨l1, st1, w', lw, ns, rfl, c2, sm1, g1, hw, hlw, hns, h0, p9⟩
            · exact p1.elim
          · exact p1.elim
        · exact p1.elim
      · exact p1.elim
    · exact p1.elim
  obtain ⟨l1, st1, w', lw, ns, rfl, hn, sm1, g1, hw, hlw, hns, h0, p1⟩ := q
  obtain ⟨t, rfl⟩ := r
  refine call_range_1 ?_
  refine PyProof.Rows.args_nil ?_
  -- the range is pinned
  have hrg : IsRange ((s2.heap.push { cls := .type "range", data := .fields #[.int 0 s2.toks, .int (ns.length : Int) t, .int 1 (s2.toks + 1)] })) s2.heap.objs.size 0 (ns.length : Int) 1 s2.toks t (s2.toks + 1) := IsRange.new _ _ _ _ _ _ _
  have I3 : Inv X ((s2.heap.objs.size, { cls := .type "range", data := .fields #[.int 0 s2.toks, .int (ns.length : Int) t, .int 1 (s2.toks + 1)] }) :: pins) σ H2 { s2 with heap := s2.heap.push { cls := .type "range", data := .fields #[.int 0 s2.toks, .int (ns.length : Int) t, .int 1 (s2.toks + 1)] }, toks := s2.toks + 1 + 1 } := by
    have I2k := I2.kept (h' := s2.heap.push { cls := .type "range", data := .fields #[.int 0 s2.toks, .int (ns.length : Int) t, .int 1 (s2.toks + 1)] }) (t' := s2.toks + 1 + 1) fun b u e => Heap.get?_push_of_some _ e
    refine I2k.pins_of fun z hz => ?_
    rcases List.mem_cons.mp hz with hz | hz
    · rw [hz]
      exact ⟨Heap.get?_push_size _ rfl, I2.hok.fresh (Nat.le_refl _), Nat.ne_of_gt I2.lt, I2.nofs (Nat.le_refl _), fun v z => nomatch z⟩
    · exact I2k.pin z (List.mem_append_right _ hz)
  have h0r : ∃ P, l1[0]? = some P ∧ ObR (gx X) l1 H2 P (.tab nm q) := sm1.has h0
  obtain ⟨P, hP, eP, _⟩ := h0r
  have eP : P = (He.cT X.K (nm, none)).2 := eP
  subst eP
  refine PyProof.Rows.kwAll_cons (LamX.lam_make2 (T := tabsOf st1 l1) I3 TB hcode ?_ ?_ sm1.tabs hdef hs6f fun f c' pm ctv H3 s4 I4 eN T4 hf hfn hfr hco => ?_)
  · rw [hq]
    exact tabsOf_mem.mpr ⟨0, nm, h0, hP⟩
  · rw [hq]
    exact sm1.tab1 h0 hP
  refine PyProof.Rows.kwAll_nil ?_
  show wpAny (model X.prog X.w) X.A (call (.builtin "sorted") [.ref s2.heap.objs.size] [(Str.ofString "key", .ref f)]) _ _ _
  have sm4 := sm1.extN eN T4
  have hc := I.ok.hd hc
  -- the range stands, the list too
  have hrg4 : IsRange s4.heap s2.heap.objs.size 0 (ns.length : Int) 1 s2.toks t (s2.toks + 1) := (I4.pin _ (List.mem_append_right _ List.mem_cons_self)).1
  obtain ⟨v1, hσ, rv⟩ := en.2 i w' hw
  obtain ⟨la, vs, rfl, hsl, rl⟩ := getL_rep (sm1.extN eN T4) ((rv.grow g1).grow (Grow.same (Stay.extN eN))) hlw
  have evs := getI_rep rl hns
  subst evs
  obtain ⟨its, rvs, pl, hz⟩ := I4.list hsl
  obtain ⟨m4, hn4, hl4⟩ := I4.loc
  obtain ⟨u4, ru4, lk4⟩ := hl4 i y _ hN hσ (.inr (.inl hs7))
  cases ru4
  have hcy : ∃ cy, X.env.cells.lookup y = some cy ∧ s4.heap.IsCell cy (some (.ref la)) := by
    rcases lk4 with ⟨z, _⟩ | ⟨_, c, e1, e2⟩
    · have z : X.env.scope.names.lookup y = some .local := z
      rw [hs7] at z
      cases z
    · exact ⟨c, e1, e2⟩
  obtain ⟨cy, hcy, hcell⟩ := hcy
  have hclo : (cloFrom X.env.cells scope.names []).lookup y = some cy := by
    have hy : (y, NameKind.free) ∈ scope.names := PySem.mem_of_lookup hs5
    obtain ⟨c2, h2⟩ := L2.mem_lookup (cloFrom_has (cells := X.env.cells) (acc := []) hy)
    rcases cloFrom_mem (PySem.mem_of_lookup h2) with hm | ⟨_, h4⟩
    · cases hm
    · rw [hcy] at h4
      rw [h2, h4] <;> rfl
  obtain ⟨⟨oc, vs', tq, hoc, hdc, hvc⟩, _, _⟩ := I4.hok c' _ hco
  have hd := hr.depth
  have hun := hr.un
  refine sorted_range_key (n := ns.length) (fun i : Int => .tuple [.int (-(ns.getD i.toNat 0)), .int i]) hc hrg4 hn ?_ ?_ ?_ (by omega) ?_ ?_
  · intro d hd d' hd'
    obtain ⟨x1, _, rfl⟩ := List.mem_map.mp hd
    obtain ⟨x2, _, rfl⟩ := List.mem_map.mp hd'
    rfl
  · refine .inl fun d hd => ?_
    obtain ⟨x1, _, rfl⟩ := List.mem_map.mp hd
    exact ⟨_, _, rfl⟩
  · intro z
    show PyData.depth (.tuple [.int _, .int _]) ≤ 4
    simp [PyData.depth, PyData.depthAll]
  · intro j tj hj0 hj1 hh tk hkeep
    have hj2 : j.toNat < ns.length := by omega
    have eg : ns[j.toNat]? = some (ns.getD j.toNat 0) := by
      rw [List.getD_eq_getElem?_getD, List.getElem?_eq_getElem hj2]
      rfl
    obtain ⟨u, hu, ru⟩ := rvs.get (i := j.toNat) (x := .int (ns.getD j.toNat 0)) (by rw [List.getElem?_map, eg]; rfl)
    obtain ⟨tu, rfl⟩ := ru
    have hl63 := line63
    refine key_call (s := { s4 with heap := hh, toks := tk }) (cy := cy) (l := la) (its := its.toArray) (tj := tu) hd (hkeep _ _ hf) hs2 hs3 hs1 ⟨c', oc, vs', tq, rfl, hkeep _ _ hoc, hdc, by rw [hq] at hvc ⊢; exact hvc⟩ (fun v => hbind _ _ _ _ _ v) hs4 hs5 hs6c (I4.nolimit.keeps hkeep) hclo ?_ ?_ hj0 (by omega) (by simpa using hu) d1 d2 d3
    · obtain ⟨o, e1, e2⟩ := hcell
      exact ⟨o, hkeep _ _ e1, e2⟩
    · obtain ⟨o, e1, e2⟩ := pl.isList
      exact ⟨o, hkeep _ _ e1, e2⟩
  · intro p' out c h' tk hkeep hnone hat heach
    rw [leK_eq] at heach
    have nH : H3 p' = none := I4.hok.gone hnone
    have rout : Vals ((keySort ns).map V.int) out := vals_each heach
    have hlen : ((keySort ns).map V.int).length ≤ sizeLine := by
      rw [List.length_map, keySort, List.length_mergeSort, List.length_map, List.length_range, sizeLine_eq]
      omega
    have I5 := (I4.pins_of (pins' := pins) (fun z hz => I4.pin z (List.mem_append_right _ (List.mem_cons_of_mem _ hz)))).laidN (a := p') (o := .lst ((keySort ns).map V.int)) (t' := tk) hkeep hnone nH ⟨hlen, out, c, rout, hat⟩
    refine ⟨.ref p', _, I5, rfl, ?_⟩
    exact Po.newL (s := σ) (Wx := Wx) sm4 (repL_ints _) (fun r' H' g sm => p1 r' H' ((Grow.same (Stay.extN eN)).trans g) sm) p' nH
end
/-! ### a def whose code object is known -/
section
variable {P : Program} {w : World} {K : PySem.W.Frag} {mg : Str → Option Value} {base : Heap}
theorem fn_WDc {x qual : Str} {params : Arguments} {body : List Stmt} {scope : Scope} {dvs : List V} {kws : List (Str × V)} {fd : FuncData} {N ps : List Str} {k : Nat} {b : FS} (F : FunD K x qual params body scope dvs kws (He.ga K x) fd) (S : FnScope N ps scope)
    (h : ∀ (cdv : Value) (A : Around) (outer : List Env) (s : Shared) (H : Hp) (E : XK), cdv = .ref (He.cT K (x, none)).1 → Room k (A.deeper (envOfC qual scope s.heap.objs.size (He.ga K x) cdv)) → Takes (bx P w K mg base N qual scope (He.ga K x) cdv A outer s H E) (fun c d _ H' => E c d H') →
      PassesOwn (model P w) (bx P w K mg base N qual scope (He.ga K x) cdv A outer s H E).A (bx P w K mg base N qual scope (He.ga K x) cdv A outer s H E).env (bx P w K mg base N qual scope (He.ga K x) cdv A outer s H E).xe →
      PSs (bx P w K mg base N qual scope (He.ga K x) cdv A outer s H E) body (tS ⟨K, mg⟩ (fun c d _ H' => E c d H') b)) : FnW P w K mg base (k + 1) (He.ga K x) fd ps (fRun N.length b) := by
  obtain ⟨oc, od, dV, kV, doc, pm, an, cdv, ct, osl, rfl, lk, hcd, _, _⟩ := F.ex
  obtain ⟨c, rfl⟩ := He.codeIn_ref hcd
  have ec : Value.ref c = .ref (He.cT K (x, none)).1 := congrArg Value.ref (He.codeOf_eq (p := (x, none)) lk rfl).symm
  exact fn_of lk hcd S (fun vs H Q E h => h.1) fun A outer s H vs Q E hr hs => ⟨_, h _ A outer s H E ec hr (takes_of rfl rfl rfl rfl) (passes_of rfl), fn_read hs⟩
end
/-! ### the hook, by tables of code objects too -/
def obsS (n : Nat) (chk : PySem.W.Frag → Bool) (fn : List He.DefD) (ts : List He.Tab) (tf : List He.Defn) (g : Addr → Option Obj) : He.AlX := (obsC chk fn ts (He.frT g (asB g n)), He.tabsB g tf (He.frT g (asB g n)))
structure SaysS (chk : PySem.W.Frag → Bool) (fn : List He.DefD) (ts : List He.Tab) (tf : List He.Defn) (w : World) (h : Heap) (K : PySem.W.Frag) : Prop where
  c : SaysC chk fn ts w K
  k : ∀ z ∈ tf, PySem.W.codeHdIn K (He.cT K z).1 (He.cT K z).2 = true ∧ K.lookup (He.cT K z).2 = none ∧ h.get? (He.cT K z).2 = some { cls := .none, data := .fields #[] }
theorem saysS_of {n : Nat} {chk : PySem.W.Frag → Bool} {fn : List He.DefD} {ts : List He.Tab} {tf : List He.Defn} {w : World} {h : Heap} (e : obsS n chk fn ts tf h.get? = He.valX fn ts w) : SaysS chk fn ts tf w h (He.frT h.get? (asB h.get? n)) := by
  refine ⟨congrArg (fun z : He.AlX => z.1) e, fun z hz => ?_⟩
  have a := List.all_eq_true.mp (show He.tabsB h.get? tf (He.frT h.get? (asB h.get? n)) = true from congrArg (fun z : He.AlX => z.2) e) z hz
  obtain ⟨a1, a2⟩ := He.ba a
  generalize He.cT (He.frT h.get? (asB h.get? n)) z = cz at a1 a2 ⊢
  cases q : h.get? cz.2 with
  | none => rw [q] at a2; cases a2
  | some o =>
    rw [q] at a2
    refine ⟨a1, He.frT_none q a2, ?_⟩
    rw [He.emptyTab_eq a2]
def hookS (n : Nat) (chk : PySem.W.Frag → Bool) (fn : List He.DefD) (ts : List He.Tab) (tf : List He.Defn) : PySem.W.Hook where
  α := He.AlX
  obs := fun s => obsS n chk fn ts tf s.heap.get?
  val := fun w => He.valX fn ts w
  says := fun w h => ∃ K : PySem.W.Frag, K.In h ∧ SaysS chk fn ts tf w h K
  of := fun _ _ e => ⟨_, He.frT_in, saysS_of e⟩
  keeps := fun _ _ _ ⟨K, hK, c⟩ up => ⟨K, PySem.W.Frag.In.keeps hK up, c.c, fun z hz => ⟨(c.k z hz).1, (c.k z hz).2.1, up _ _ (c.k z hz).2.2⟩⟩
theorem obsS_eq {n : Nat} {chk : PySem.W.Frag → Bool} {fn : List He.DefD} {ts : List He.Tab} {tf : List He.Defn} {g : Addr → Option Obj} {s : Shared} (h : ∀ a, g a = s.heap.get? a) : obsS n chk fn ts tf g = (hookS n chk fn ts tf).obs s := by
  cases (funext h : g = s.heap.get?)
  rfl
/-! ### the end -/
theorem sp_lawS {K : PySem.W.Frag} {mg : Str → Option Value} {F : FF} {H : Hp} {a : Addr} {ns : List Int} {x q : Str} (hT : H (He.cT K (x, none)).2 = some (.tbl #[])) (hS : SqL K H a (ns.map V.int))
    (h1 : ∃ st, F [.rol (ns.map W.int)] [.tab x q] = .ok (.bl true) st) (h2 : ∃ st, F [.ref 1] [.tab x q, .lst (ns.map W.int)] = .ok (.bl true) st) :
    spF ⟨K, mg⟩ 1 F [.ref a] H (fun v _ => v = .bl true) fun _ _ _ => False := by
  have tb : ∀ r, ObR ⟨K, mg⟩ r H (He.cT K (x, none)).2 (.tab x q) := fun r => ⟨rfl, LamX.TabS.nil hT⟩
  have fin : ∀ {l : List Addr} {o : An W}, (∃ st, o = .ok (.bl true) st) → Po ⟨K, mg⟩ (fun c d _ H' => False) [] (fun w r' H' => ∀ v, Rep ⟨K, mg⟩ r' H' w v → v = .bl true) l H o := fun ⟨st, e⟩ => by
    rw [e]
    intro r' H' g sm v rv
    cases rv
    rfl
  have rol : Rol K H a (ns.map V.int) → spF ⟨K, mg⟩ 1 F [.ref a] H (fun v _ => v = .bl true) fun _ _ _ => False := fun hR =>
    ⟨rfl, [.rol (ns.map W.int)], [(He.cT K (x, none)).2], [.tab x q], .cons (.rol hR (repL_ints ns)) .nil, ⟨rfl, by simp, fun n o b e1 e2 => by
      cases n with
      | zero => cases e1; cases e2; exact tb _
      | succ n => simp at e1⟩, fin h1⟩
  rcases hS with (hS | hS) | hS
  · have ne : (He.cT K (x, none)).2 ≠ a := ne_of hT hS (fun z => nomatch z)
    refine ⟨rfl, [.ref 1], [(He.cT K (x, none)).2, a], [.tab x q, .lst (ns.map W.int)], .cons (.ref rfl) .nil, ⟨rfl, by simpa using ne, fun n o b e1 e2 => ?_⟩, fin h2⟩
    match n, e1, e2 with
    | 0, e1, e2 => cases e1; cases e2; exact tb _
    | 1, e1, e2 => cases e1; cases e2; exact ⟨_, hS, repL_ints ns⟩
    | n + 2, e1, _ => simp at e1
  · exact rol (.inl hS)
  · exact rol (.inr hS)
end Sw
/-! Sw15: repr, at the law's own level. -/
namespace Sw
open PySem PySem.Spec PyProof.Rows L2
section
variable {X : Cx}
def rReprD (K : PySem.W.Frag) : List V → Hp → VK → Prop := fun xs H Q => (∃ b : Bool, xs = [.bl b] ∧ Q (.str (if b then "True" else "False")) H) ∨
  ∃ (a : Addr) (d : PyData), xs = [.ref a] ∧ Dp K H (.ref a) d ∧ d.showable = true ∧ d.hasDict = false ∧ d.depth ≤ 64 ∧ d.shown.length ≤ sizeLine ∧ Q (.str d.shown) H
theorem cr_reprD {k : Nat} (hg : X.A.guards = some []) (hr : Room k X.A) : CallR X (.builtin "repr") (rReprD X.K) := by
  intro pins s σ H xs us Q I r h
  rcases h with ⟨b, rfl, q⟩ | ⟨a, d, rfl, hd, h1, h2, h3, h4, q⟩
  · obtain ⟨u, rfl, rfl⟩ := vals1 r
    exact PySem.P.repr_of_bool ⟨.str _, H, I.tok _, ⟨_, rfl⟩, q⟩
  · obtain ⟨u, rfl, r1⟩ := vals1 r
    cases r1
    obtain ⟨as, rd⟩ := Dp.reads I d _ _ hd rfl
    have hu := hr.un
    exact repr_of_reads' rd h1 (PyData.noDict_hsm h2) hg (by omega) (fun _ _ e => e) (fun h' u tk hk => ⟨.str d.shown, H, I.kept hk, ⟨u, rfl⟩, q⟩) h4
end
def wReprD : List W → Sto → An W
  | [.bl b], st => .ok (.str (if b then "True" else "False")) st
  | [w], st => (match w with
    | .tup _ | .rol _ | .ref _ => (match toD st 64 w with
      | some d => if d.showable = true ∧ d.hasDict = false ∧ d.shown.length ≤ sizeLine then .ok (.str d.shown) st else .bad
      | none => .bad)
    | _ => .bad)
  | _, _ => .bad
theorem rf_reprD {G : Gx} : CaRf G (rReprD G.K) wReprD := by
  intro ws st l H vs Q Wx s sm rx p
  cases rx with
  | nil => exact p.elim
  | @cons w v ws' vs' h k =>
    have go : ∀ {a : Addr}, v = .ref a → Rep G l H w v → (match toD st 64 w with
      | some d => if d.showable = true ∧ d.hasDict = false ∧ d.shown.length ≤ sizeLine then An.ok (W.str d.shown) st else .bad
      | none => .bad) = wReprD (w :: ws') st → vs' = [] → rReprD G.K (v :: vs') H Q := fun {a} ev hv e e2 => by
      rw [← e] at p
      cases ed : toD st 64 w with
      | none => rw [ed] at p; exact p.elim
      | some d =>
        rw [ed] at p
        obtain ⟨⟨c1, c2, c3⟩, p⟩ := ite_bad p
        obtain ⟨d1, d2, d3⟩ := toD_ok sm 64 ed hv
        subst ev e2
        exact .inr ⟨a, d, rfl, d1, c1, c2, d3, c3, Po.ok p sm _ (.str _)⟩
    cases k with
    | nil =>
      cases h with
      | bl b => exact .inl ⟨b, rfl, Po.ok p sm _ (.str _)⟩
      | tup h k => exact go rfl (.tup h k) rfl rfl
      | rol h k => exact go rfl (.rol h k) rfl rfl
      | ref h => exact go rfl (.ref h) rfl rfl
      | _ => exact p.elim
    | cons _ _ => cases h <;> exact p.elim
/-! ### d[k] = w of a dict -/
def keyW : W → Option Key
  | .int i => some (.inl i)
  | .str x => some (.inr x)
  | _ => none
def putW (l : List (Key × W)) (k : Key) (w : W) : List (Key × W) := if (l.any fun p => decide (p.1 = k)) = true then l.map (fun p => if p.1 = k then (p.1, w) else p) else l ++ [(k, w)]
def wSetD (o i w : W) (st : Sto) : Option Sto := match o, keyW i with
  | .ref n, some k => (match st[n]? with
    | some (.dct l) => if l.length < 100000 then some (st.set n (.dct (putW l k w))) else none
    | _ => none)
  | _, _ => none
theorem RepD.put {G : Gx} {r : List Addr} {H : Hp} {l : List (Key × W)} {vs : List (Key × V)} (h : RepD G r H l vs) {k : Key} {w : W} {v : V} (hw : Rep G r H w v) : RepD G r H (putW l k w) (putK vs k v) := by
  have ea : (l.any fun p => decide (p.1 = k)) = vs.any fun p => decide (p.1 = k) := by
    induction h with
    | nil => rfl
    | cons _ _ ih => simp only [List.any_cons, ih]
  have em : RepD G r H (l.map fun p => if p.1 = k then (p.1, w) else p) (vs.map fun p => if p.1 = k then (p.1, v) else p) := by
    clear ea
    induction h with
    | nil => exact .nil
    | @cons f w1 v1 fs vs1 h1 _ ih =>
      simp only [List.map_cons]
      by_cases e : f = k
      · rw [if_pos e, if_pos e]; exact .cons hw ih
      · rw [if_neg e, if_neg e]; exact .cons h1 ih
  have eb : RepD G r H (l ++ [(k, w)]) (vs ++ [(k, v)]) := by
    clear ea em
    induction h with
    | nil => exact .cons hw .nil
    | cons h1 _ ih => exact .cons h1 ih
  unfold putW putK
  rw [ea]
  by_cases e : (vs.any fun p => decide (p.1 = k)) = true
  · rw [if_pos e, if_pos e]; exact em
  · rw [if_neg e, if_neg e]; exact eb
theorem wSetD_rep {G : Gx} {r : List Addr} {H : Hp} {st st' : Sto} (sm : Sim G r H st) {o i w : W} {vo vi v : V} (ro : Rep G r H o vo) (ri : Rep G r H i vi) (rw' : Rep G r H w v) (e : wSetD o i w st = some st') {Q : Hp → Prop}
    (q : ∀ H', Stay H H' → Sim G r H' st' → Q H') : rSetD vo vi v H Q := by
  unfold wSetD at e
  split at e
  · rename_i n k hk
    have ei : vi = kV k := by
      cases ri with
      | int j => cases hk; rfl
      | str x => cases hk; rfl
      | _ => cases hk
    cases ro with
    | @ref _ a h =>
      split at e
      · rename_i l hl
        split at e
        · rename_i hz
          cases e
          obtain ⟨vs, e2, kk⟩ := sm.got hl h
          have sy : Stay H (upd H a (.dK (putK vs k v))) := Stay.dK e2
          have hlen : vs.length < sizeLine := by rw [← kk.length, sizeLine_eq]; omega
          exact ⟨a, _, rfl, by rw [ei]; exact DPut.k e2 hlen, q _ sy (sm.put h e2 (fun _ z => by cases z) (fun _ z => by cases z) sy ⟨_, upd_same, (kk.put rw').grow (Grow.same sy)⟩)⟩
        · cases e
      · cases e
  · cases e
def gSubD (fo fi : FE) : FG := fun w env st => match (fo env st).bind fun o st1 => (fi env st1).bind fun i st2 => optB ((wSetD o i w st2)) st2 with
  | .ok st' _ => .nx env st'
  | _ => .bad
section
variable {X : Cx} {Wx : WX} {a b : Expr} {pos : Pos} {fa fb : FE}
theorem g_subD (hu : X.A.units + 64 < cLine) (ho : PE X a (tE (gx X) Wx fa)) (hi : PE X b (tE (gx X) Wx fb))
    (ha : ∀ v, assign (.Subscript a b pos) X.env v = (do
      let ov ← holding [v] (eval a X.env)
      let iv ← holding [v, ov] (eval b X.env)
      standAt pos
      holding [v, ov, iv] (setItem ov iv v)
      release [v, ov, iv] []) := by intro _; rfl) : PG X (.Subscript a b pos) (tG (gx X) (gSubD fa fb)) := (pg_sub ho hi (set_dict (by omega)) ha).imp fun v s H Q h => by
  obtain ⟨w, env, r, st, rw', en, sm, p⟩ := h
  unfold gSubD at p
  cases e1 : fa env st with
  | ex C fs st1 => rw [e1] at p; exact p.elim
  | bad => rw [e1] at p; exact p.elim
  | ok o st1 =>
    rw [e1] at p
    cases e2 : fb env st1 with
    | ex C fs st2 => simp only [An.bind_ok, e2, An.bind_ex] at p; exact p.elim
    | bad => simp only [An.bind_ok, e2, An.bind_bad] at p; exact p.elim
    | ok i st2 =>
      simp only [An.bind_ok, e2] at p
      cases e3 : wSetD o i w st2 with
      | none => simp only [e3, optB_none] at p; exact p.elim
      | some st' =>
        simp only [e3, optB_some] at p
        refine ⟨env, r, st, en, sm, ?_⟩
        rw [e1]
        intro r1 H1 g1 sm1 vo ro
        refine ⟨env, r1, st1, en.grow g1, sm1, ?_⟩
        rw [e2]
        intro r2 H2 g2 sm2 vi ri
        exact wSetD_rep sm2 (ro.grow g2) ri ((rw'.grow g1).grow g2) e3 fun H' sy sm' => p r2 H' s ((g1.trans g2).trans (Grow.same sy)) sm' (((en.grow g1).grow g2).grow (Grow.same sy))
end
/-! ### the law's own def, called by nobody but the caller -/
def RunL (P : Program) (w : World) (K : PySem.W.Frag) (mg : Str → Option Value) (base : Heap) (k : Nat) (f : Addr) (fd : FuncData) (ps : List Str) (F : FF) : Prop :=
  ∀ (s : Shared) (H : Hp) (args : Args) (us : List Value) (vs : List V) (Q : VK) (E : XK), Room k callerA → Env0 P w K mg base callerA [] s H → BindsTo s fd args (ps.zip us) → Vals vs us → spF ⟨K, mg⟩ ps.length F vs H Q E → codeAny (model P w) callerA (.call (.ref f) args) (CR (L2.CX P w) [] P w H s Q E) s
section
variable {P : Program} {w : World} {K : PySem.W.Frag} {mg : Str → Option Value} {base : Heap}
theorem run_WDr {x qual : Str} {params : Arguments} {body : List Stmt} {scope : Scope} {dvs : List V} {kws : List (Str × V)} {f : Addr} {fd : FuncData} {N ps : List Str} {k : Nat} {b : FS} (F : FunD K x qual params body scope dvs kws f fd) (S : FnScope N ps scope)
    (h : ∀ (cdv : Value) (s : Shared) (H : Hp) (E : XK), (callerA.deeper (envOfC qual scope s.heap.objs.size f cdv)).guards = some [] → Room k (callerA.deeper (envOfC qual scope s.heap.objs.size f cdv)) → Takes (bx P w K mg base N qual scope f cdv callerA [] s H E) (fun c d _ H' => E c d H') →
      PassesOwn (model P w) (bx P w K mg base N qual scope f cdv callerA [] s H E).A (bx P w K mg base N qual scope f cdv callerA [] s H E).env (bx P w K mg base N qual scope f cdv callerA [] s H E).xe →
      PSs (bx P w K mg base N qual scope f cdv callerA [] s H E) body (tS ⟨K, mg⟩ (fun c d _ H' => E c d H') b)) : RunL P w K mg base (k + 1) f fd ps (fRun N.length b) := by
  obtain ⟨oc, od, dV, kV, doc, pm, an, cdv, ct, osl, rfl, lk, hcd, _, _⟩ := F.ex
  intro s H args us vs Q E hr e0 hb r hs
  exact LamX.run_ofS lk hcd S hr e0 hb r hs.1 fun hr' => ⟨_, h cdv s H E rfl hr' (takes_of rfl rfl rfl rfl) (passes_of rfl), fn_read hs⟩
end
/-! ### the end: the script is known, the table is open -/
/-- what is tracked at the start -/
def startH (z : Bool) (a T : Addr) (o : Obj) (xs : List V) : Hp := fun b => if b = T then some (.tbl #[]) else if z = true ∧ b = a then some (.frz o (.lst xs)) else none
section
variable {z : Bool} {a T : Addr} {o : Obj} {xs : List V}
theorem startH_T : startH z a T o xs T = some (.tbl #[]) := if_pos rfl
theorem startH_cases (b : Addr) : (b = T ∧ startH z a T o xs b = some (.tbl #[])) ∨ (b ≠ T ∧ z = true ∧ b = a ∧ startH z a T o xs b = some (.frz o (.lst xs))) ∨ (b ≠ T ∧ ¬(z = true ∧ b = a) ∧ startH z a T o xs b = none) := by
  unfold startH
  by_cases h : b = T
  · exact .inl ⟨h, if_pos h⟩
  · by_cases h2 : z = true ∧ b = a
    · exact .inr (.inl ⟨h, h2.1, h2.2, by rw [if_neg h, if_pos h2]⟩)
    · exact .inr (.inr ⟨h, h2, by rw [if_neg h, if_neg h2]⟩)
end
theorem run_start {P : Program} {w : World} {K : PySem.W.Frag} {mg mb : Str → Option Value} {k : Nat} {fa a c T : Addr} {fd : FuncData} {x y q : Str} {Ff : FF} {s : Shared} {vs : List Value} {ns : List Int} (eT : T = (He.cT K (y, none)).2)
    (inK : K.In s.heap) (nsG : s.heap.Ns mainGlobals mg) (nsB : s.heap.Ns builtinsNs mb) (bb : ∀ x : Str, x ≠ "__name__" → mb x = bootBuiltins x) (nl : s.heap.NoLimit) (g0 : s.gens = #[])
    (oT : s.heap.get? T = some { cls := .none, data := .fields #[] }) (kT : K.lookup T = none) (cd : PySem.W.CodeHd s.heap c T)
    (bm : ∃ (m : Addr) (ob : Obj), mg "__builtins__" = some (.ref m) ∧ m ≠ builtinsNs ∧ s.heap.get? m = some ob ∧ ob.cls = .type "module" ∧ ob.dict = some builtinsNs ∧ ob.data = .plain)
    (oa : s.heap.get? a = some { cls := .type "list", data := .seq vs.toArray }) (hints : IntsAre vs ns) (len : ns.length ≤ sizeLine) (room : Room k callerA) (bind : ∀ (s : Shared) (u : Value), BindsTo s fd ⟨[u], []⟩ [(x, u)])
    (run : ∀ base : Heap, K.In base → base.Ns mainGlobals mg → LamX.TabB base mg c T → RunL P w K mg base k fa fd [x] Ff) (law : ∃ st, Ff [.rol (ns.map W.int)] [.tab y q] = .ok (.bl true) st) :
    codeAny (model P w) callerA (.call (.ref fa) ⟨[.ref a], []⟩) (fun r s' => r = .ok (.ret (.bool true)) ∧ OldK s.heap s'.heap ∧ s'.os = s.os ∧ AllBare s'.gens) s := by
  -- the list: the head's own, or a new one
  obtain ⟨H, eH⟩ : ∃ H : Hp, H = startH (K.lookup a).isNone a T { cls := .type "list", data := .seq vs.toArray } (ns.map V.int) := ⟨_, rfl⟩
  have HT : H T = some (.tbl #[]) := by rw [eH]; exact startH_T
  have cases_ : ∀ b, (b = T ∧ H b = some (.tbl #[])) ∨ (b ≠ T ∧ (K.lookup a).isNone = true ∧ b = a ∧ H b = some (.frz { cls := .type "list", data := .seq vs.toArray } (.lst (ns.map V.int)))) ∨ (b ≠ T ∧ ¬((K.lookup a).isNone = true ∧ b = a) ∧ H b = none) := fun b => by
    rw [eH]
    exact startH_cases b
  have aT : a ≠ T := fun z => by
    rw [z, oT] at oa
    injection oa with oa
    injection oa with _ _ oa
    cases oa
  -- other objects are not tracked
  have free : ∀ {b : Addr} {ob : Obj}, s.heap.get? b = some ob → (∀ l m, ob.data ≠ .seq l m) → ob.data ≠ .fields #[] → H b = none := fun {b ob} e n1 n2 => by
    rcases cases_ b with ⟨e1, _⟩ | ⟨_, _, e1, _⟩ | ⟨_, _, e2⟩
    · rw [e1, oT] at e
      cases e
      exact (n2 rfl).elim
    · rw [e1, oa] at e
      cases e
      exact (n1 _ _ rfl).elim
    · exact e2
  have freeK : ∀ {b : Addr} {ob : Obj}, K.lookup b = some ob → H b = none := fun {b ob} e => by
    rcases cases_ b with ⟨e1, _⟩ | ⟨_, z, e1, _⟩ | ⟨_, _, e2⟩
    · rw [e1, kT] at e
      cases e
    · rw [← e1, e] at z
      cases z
    · exact e2
  have low : ∀ {b : Addr} {m : Str → Option Value}, s.heap.Ns b m → (hidT s.heap H).Ns b m := fun {b m} ⟨ob, es, ep, e, d, r⟩ =>
    ⟨ob, es, ep, hidT_get e (free e (fun _ _ h => by rw [d] at h; cases h) fun h => by rw [d] at h; cases h), d, r⟩
  have kb : K.In (hidT s.heap H) := fun b ob e => hidT_get (inK b ob e) (freeK e)
  have md : L2.Mod K mg (hidT s.heap H) := ⟨kb, low nsG, ⟨mb, low nsB, bb⟩, by
    obtain ⟨mc, h1, h2⟩ := nl
    exact ⟨mc, low h1, h2⟩⟩
  have dict_ne : ∀ {b : Addr} {m : Str → Option Value} {ob : Obj}, s.heap.Ns b m → s.heap.get? b = some ob → ∃ es ep, ob.data = .dict es ep := fun {b m ob} ⟨o2, es, ep, e, d, _⟩ h => by
    rw [e] at h
    cases h
    exact ⟨es, ep, d⟩
  have tb : LamX.TabB (hidT s.heap H) mg c T := by
    refine ⟨?_, ?_, fun h => ?_⟩
    · obtain ⟨ob, us, fl, tf, fg, tg, nF, tx, tt, e1, e2, e3, e4, e5⟩ := cd
      exact ⟨ob, us, fl, tf, fg, tg, nF, tx, tt, hidT_get e1 (free e1 (fun _ _ h => by rw [e3] at h; cases h) fun h => by
        rw [e3] at h
        injection h with h
        rw [h] at e4
        simp at e4), e2, e3, e4, e5⟩
    · obtain ⟨m, ob, b1, b2, b3, b4, b5, b6⟩ := bm
      refine ⟨m, ob, b1, b2, fun h => ?_, fun h => ?_, hidT_get b3 (free b3 (fun _ _ h => by rw [b6] at h; cases h) fun h => by rw [b6] at h; cases h), b4, b5, b6⟩
      · obtain ⟨es, ep, d⟩ := dict_ne nsG (h ▸ b3)
        rw [b6] at d
        cases d
      · rw [h, oT] at b3
        cases b3
        cases b6
    · obtain ⟨es, ep, d⟩ := dict_ne nsG (h ▸ oT)
      cases d
  have rv := vals_ints hints
  have ok0 : HOk P w H s.heap := fun b u h => by
    rcases cases_ b with ⟨e1, e2⟩ | ⟨_, _, e1, e2⟩ | ⟨_, _, e2⟩
    · rw [e2] at h
      cases h
      rw [e1]
      exact oT
    · rw [e2] at h
      cases h
      rw [e1]
      exact ⟨oa, by rw [List.length_map]; exact len, vs, _, rv, oa⟩
    · rw [e2] at h
      cases h
  have e0 : Env0 P w K mg (hidT s.heap H) callerA [] s H := ⟨rfl, md, fun b ob e => of_hidT e, Nat.le_of_eq (hidT_size _ _), trivial, fun b hb => by simp [frs] at hb, ok0, .of_eq g0⟩
  have rol : Rol K H a (ns.map V.int) := by
    cases hk : K.lookup a with
    | none =>
      rcases cases_ a with ⟨e1, _⟩ | ⟨_, _, _, e2⟩ | ⟨_, h, _⟩
      · exact (aT e1).elim
      · exact .inl ⟨_, e2⟩
      · exact (h ⟨by rw [hk]; rfl, rfl⟩).elim
    | some ob =>
      have e := inK a ob hk
      rw [oa] at e
      cases e
      exact .inr ⟨_, vs.toArray, _, hk, rfl, rfl, rfl, by rw [List.size_toArray, hints.length]; exact len, by simpa using rv⟩
  have sp : spF ⟨K, mg⟩ 1 Ff [.ref a] H (fun v _ => v = .bl true) fun _ _ _ => False := by
    obtain ⟨st, e⟩ := law
    refine ⟨rfl, [.rol (ns.map W.int)], [T], [.tab y q], .cons (.rol rol (repL_ints ns)) .nil, ⟨rfl, by simp, fun n ob b h1 h2 => ?_⟩, ?_⟩
    · cases n with
      | zero => cases h1; cases h2; exact ⟨eT, LamX.TabS.nil HT⟩
      | succ n => simp at h1
    · rw [e]
      intro r' H' g sm v rv
      cases rv
      rfl
  refine codeAny_mono (run _ kb (low nsG) tb s H ⟨[.ref a], []⟩ [.ref a] [.ref a] _ _ room e0 (bind s (.ref a)) (.cons rfl .nil) sp) fun r s' h => ?_
  match r, h with
  | .error e, h => exact (cx_end h).elim
  | .ok .next, h => exact False.elim h
  | .ok .brk, h => exact False.elim h
  | .ok .cont, h => exact False.elim h
  | .ok (.ret u), ⟨v, H', os, bare, un, ok', r', q'⟩ =>
    have q' : v = .bl true := q'
    subst q'
    cases (show u = Value.bool true from r')
    obtain ⟨more, hm⟩ := un.tbls T #[] HT
    have oT' : s'.heap.get? T = some { cls := .none, data := .fields (#[] ++ more) } := ok' T _ hm
    have stay : ∀ b ob, b ≠ T → s.heap.get? b = some ob → s'.heap.get? b = some ob := fun b ob nb e => by
      rcases cases_ b with ⟨e1, _⟩ | ⟨_, _, _, e2⟩ | ⟨_, _, e2⟩
      · exact (nb e1).elim
      · obtain ⟨f1, _⟩ := ok0 b _ e2
        obtain ⟨f2, _⟩ := ok' b _ (un.frzs b _ _ e2)
        rw [e] at f1
        cases f1
        exact f2
      · exact un.keep b ob e e2 (by simp [frs]) (by simp)
    refine ⟨rfl, ⟨fun b ob e => ?_, fun b ob e => ?_⟩, os, bare⟩
    · by_cases hb : b = T
      · subst hb
        rw [oT] at e
        cases e
        exact .inr (.inl ⟨(cd.tab oT).isCodeTable, rfl, #[], more, rfl, oT'⟩)
      · exact .inl (stay b ob hb e)
    · by_cases hb : b = T
      · rw [hb]; exact ⟨_, oT'⟩
      · exact ⟨ob, stay b ob hb e⟩
theorem walk_ofL {l : PySem.W.OpenLaw} {n k : Nat} {prg : Program} {loose : List Str} {XP : (Str → Option Value) → Heap → Prop} {YP : World → Heap → Prop} {d : DefRec} {x y q : Str} {Ff : FF} (hn : l.most = some n) (hn2 : n ≤ sizeLine) (hdf : d.params.defaults = []) (room : Room k callerA)
    (law : ∀ ns : List Int, ns.length ≤ n → ∃ st, Ff [.rol (ns.map W.int)] [.tab y q] = .ok (.bl true) st)
    (F : ∀ (w : World) (mg : Str → Option Value) (fa : Addr) (h : Heap), YP w h → h.Ns mainGlobals mg → mg d.name = some (.ref fa) → ∃ (K : PySem.W.Frag) (fd : FuncData), K.In h ∧ h.get? (He.cT K (y, none)).2 = some { cls := .none, data := .fields #[] } ∧ K.lookup (He.cT K (y, none)).2 = none ∧
      PySem.W.CodeHd h (He.cT K (y, none)).1 (He.cT K (y, none)).2 ∧ (∀ (s : Shared) (u : Value), BindsTo s fd ⟨[u], []⟩ [(x, u)]) ∧ ∀ base : Heap, K.In base → base.Ns mainGlobals mg → LamX.TabB base mg (He.cT K (y, none)).1 (He.cT K (y, none)).2 → RunL l.prog w K mg base k fa fd [x] Ff) :
    PySem.W.WalkO prg loose XP YP l.row.toRowW d [] (fun f vs => PySem.call f vs) := by
  refine Att.attach_callB hn hdf fun w _ s mg mb fa _ _ _ _ a vs ns G Y _ _ _ hmg oa hints hlen _ g0 => ?_
  obtain ⟨K, fd, inK, oT, kT, cd, bind, run⟩ := F w mg fa _ Y G.T.g hmg
  exact run_start rfl inK G.T.g G.T.b G.T.builtins G.T.nolimit g0 oT kT cd G.T.bmain oa hints (Nat.le_trans hlen hn2) room bind run (law ns hlen)
end Sw
/-! Sw16: how many members a set has that a comprehension with two fors makes. -/
namespace Sw
open PySem PySem.Spec PyProof.Rows L2

abbrev S2 (e t i t1 i1 : Expr) (c1 : List Expr) (sc : Scope) (ps : Pos) : Expr := .SetComp e [⟨t, i, [], 0⟩, ⟨t1, i1, c1, 0⟩] sc ps
/-- one item is taken, stored and tested; k goes on -/
noncomputable def takeOf (t i : Expr) (cs : List Expr) (it : Value) (env : Env) (k : Bool → Sem Fin) : Sem Fin := do
  standAt i.pos
  match ← pyNext it with
  | none => pure (.done .next)
  | some v =>
    letOwnedTupleGo t it v
    assign t env v
    let ok ← forIn cs true fun c b => if b = true then do let b2 ← isTrue c env (eval c env); pure (ForInStep.yield b2) else pure (ForInStep.yield b)
    k ok
section
variable {prog : Program} {w : World} {A : Around} {R : Result → Shared → Prop} {s : Shared} {e t i t1 i1 : Expr} {cs c1 : List Expr} {sc : Scope} {ps : Pos} {it acc : Value} {env : Env}
abbrev noE : Value → Shared → Prop := fun _ _ => False
theorem noE.up {α : Type} {m : Sem α} {Q : α → Shared → Prop} {E : Value → Shared → Prop} (h : wpAny (model prog w) A m Q noE s) : wpAny (model prog w) A m Q E s := wpAny_mono h (fun _ _ q => q) fun _ _ q => q.elim
theorem turnS_out : compTurn (S2 e t i t1 i1 c1 sc ps) 0 it acc env = takeOf t i [] it env (fun ok => if ok = true then (do
    let x ← eval i1 env
    standAt i1.pos
    let y ← foldedSetIterable i1 env x
    let _ ← runOwn (.compStart (S2 e t i t1 i1 c1 sc ps) 1 (← holding [y] (pyIter y)) acc env) env
    again (.compLoop (S2 e t i t1 i1 c1 sc ps) 0 it acc env)) else again (.compLoop (S2 e t i t1 i1 c1 sc ps) 0 it acc env)) := by rfl
theorem turnS_in : compTurn (S2 e t i t1 i1 c1 sc ps) 1 it acc env = takeOf t1 i1 c1 it env (fun ok => if ok = true then (do
    let _ ← (do let v ← eval e env; standAt e.pos; let _ ← call (.builtin "set.add") [acc, v] : Sem Unit)
    again (.compLoop (S2 e t i t1 i1 c1 sc ps) 1 it acc env)) else again (.compLoop (S2 e t i t1 i1 c1 sc ps) 1 it acc env)) := by rfl
theorem wp_take {k : Bool → Sem Fin} {Q : Fin → Shared → Prop} (h : wpAny (model prog w) A (pyNext it) (fun r s1 => match r with
      | none => Q (.done .next) s1
      | some v => wpAny (model prog w) A (letOwnedTupleGo t it v) (fun _ s2 => wpAny (model prog w) A (assign t env v) (fun _ s3 =>
        wpAny (model prog w) A (forIn cs true fun c b => if b = true then do let b2 ← isTrue c env (eval c env); pure (ForInStep.yield b2) else pure (ForInStep.yield b)) (fun ok s4 => wpAny (model prog w) A (k ok) Q noE s4) noE s3) noE s2) noE s1) noE s) :
    wpAny (model prog w) A (takeOf t i cs it env k) Q noE s := by
  unfold takeOf
  refine wpAny_bind (wpAny_standAt (wpAny_bind (thn h fun r s1 h1 => ?_)))
  cases r with
  | none => exact wpAny_pure h1
  | some v => exact wpAny_bind (thn h1 fun _ s2 h2 => wpAny_bind (thn h2 fun _ s3 h3 => wpAny_bind (thn h3 fun ok s4 h4 => h4)))
theorem loopS_out (hs : ∀ x, foldedSetIterable i1 env x = pure x) (J : Nat → Shared → Prop)
    (step : ∀ n s, J n s → wpAny (model prog w) A (pyNext it) (fun r s1 => match r with
      | none => R (.ok .next) s1
      | some v => wpAny (model prog w) A (letOwnedTupleGo t it v) (fun _ s2 => wpAny (model prog w) A (assign t env v) (fun _ s3 => wpAny (model prog w) A (eval i1 env) (fun x s4 => wpAny (model prog w) A (pyIter x) (fun z s5 =>
        codeAny (model prog w) A (.compStart (S2 e t i t1 i1 c1 sc ps) 1 z acc env) (fun q s6 => (∃ f, q = .ok f) ∧ ∃ m, m < n ∧ J m s6) s5) noE s4) noE s3) noE s2) noE s1) noE s)
    (n : Nat) (h : J n s) : codeAny (model prog w) A (.compLoop (S2 e t i t1 i1 c1 sc ps) 0 it acc env) R s := by
  refine codeAny_loop rfl J (fun n s hJ => ?_) n h
  show wpAny _ A ((compTurn (S2 e t i t1 i1 c1 sc ps) 0 it acc env).onRaise (fun x => do noteFrame x env; theTreesLotGoes x)) _ _ s
  refine wpAny_noted (noE.up ?_)
  rw [turnS_out]
  refine wp_take (thn (step n s hJ) fun r s1 h1 => ?_)
  cases r with
  | none => exact h1
  | some v =>
    refine thn h1 fun _ s2 h2 => thn h2 fun _ s3 h3 => wpAny_pure ?_
    simp only [if_true]
    refine (wpAny_bind (thn h3 fun x s4 h4 => wpAny_bind (wpAny_standAt (wpAny_bind (wpAny_of_eq (hs x) (wpAny_bind (wpAny_holding (thn h4 fun z s5 h5 => wpAny_bind (wpAny_runOwn ?_)))))))))
    rw [Around.mark_none]
    refine codeAny_mono h5 fun q s6 h6 => ?_
    obtain ⟨⟨f, rfl⟩, h6⟩ := h6
    exact wpAny_pure ⟨rfl, h6⟩
theorem loopS_in (J : Nat → Shared → Prop)
    (step : ∀ n s, J n s → wpAny (model prog w) A (pyNext it) (fun r s1 => match r with
      | none => R (.ok .next) s1
      | some v => wpAny (model prog w) A (letOwnedTupleGo t1 it v) (fun _ s2 => wpAny (model prog w) A (assign t1 env v) (fun _ s3 =>
        wpAny (model prog w) A (forIn c1 true fun c b => if b = true then do let b2 ← isTrue c env (eval c env); pure (ForInStep.yield b2) else pure (ForInStep.yield b)) (fun ok s4 =>
          if ok = true then wpAny (model prog w) A (eval e env) (fun y s5 => wpAny (model prog w) A (call (.builtin "set.add") [acc, y]) (fun _ s6 => ∃ m, m < n ∧ J m s6) noE s5) noE s4 else ∃ m, m < n ∧ J m s4) noE s3) noE s2) noE s1) noE s)
    (n : Nat) (h : J n s) : codeAny (model prog w) A (.compLoop (S2 e t i t1 i1 c1 sc ps) 1 it acc env) R s := by
  refine codeAny_loop rfl J (fun n s hJ => ?_) n h
  show wpAny _ A ((compTurn (S2 e t i t1 i1 c1 sc ps) 1 it acc env).onRaise (fun x => do noteFrame x env; theTreesLotGoes x)) _ _ s
  refine wpAny_noted (noE.up ?_)
  rw [turnS_in]
  refine wp_take (thn (step n s hJ) fun r s1 h1 => ?_)
  cases r with
  | none => exact h1
  | some v =>
    refine thn h1 fun _ s2 h2 => thn h2 fun _ s3 h3 => thn h3 fun ok s4 h4 => ?_
    cases ok with
    | false =>
      simp only [Bool.false_eq_true, if_false] at h4 ⊢
      exact wpAny_pure ⟨rfl, h4⟩
    | true =>
      simp only [if_true] at h4 ⊢
      exact (wpAny_bind (wpAny_bind (thn h4 fun y s5 h5 => wpAny_bind (wpAny_standAt (wpAny_bind (thn h5 fun _ s6 h6 => wpAny_pure (wpAny_pure ⟨rfl, h6⟩)))))))
/-- the second source is begun -/
theorem startS_in (h0 : codeAny (model prog w) A (.compLoop (S2 e t i t1 i1 c1 sc ps) 1 it acc env) R s)
    (h : wpAny (model prog w) A (pyIter it) (fun z s1 => codeAny (model prog w) A (.compLoop (S2 e t i t1 i1 c1 sc ps) 1 z acc env) R s1) noE s) :
    codeAny (model prog w) A (.compStart (S2 e t i t1 i1 c1 sc ps) 1 it acc env) R s := by
  refine codeAny_of_tree ?_
  show wpAny _ _ ((compStart (S2 e t i t1 i1 c1 sc ps) 1 it acc env).onRaise (fun x => do noteFrame x env; standAt theWindowsPlace)) _ _ s
  refine wpAny_notedAt (noE.up ?_)
  unfold compStart
  show wpAny _ _ (ask >>= _) _ _ s
  refine wpAny_bind (wpAny_askSetting (wpAny_ite ?_))
  split
  · first
      | exact wpAny_pure ⟨rfl, h0⟩
      | exact wpAny_bind (wpAny_pure (wpAny_pure ⟨rfl, h0⟩))
  · refine wpAny_bind (wpAny_rule ?_)
    show wpAny _ _ (standAt i1.pos >>= _) _ _ s
    exact wpAny_bind (wpAny_standAt (wpAny_bind (thn h fun z s1 h1 => wpAny_pure ⟨rfl, h1⟩)))
end
/-! ### what it computes -/
def insI (l : List Int) (n : Int) : List Int := if n ∈ l then l else l ++ [n]
open Classical in
/-- the turns of the inner clause -/
noncomputable def s2in (gd : GD) (bind : W → En → Option En) (t : FT) (f : FE) (env : En) : List W → List Int → Sto → An (List Int)
  | [], acc, st => if gdOk gd st then .ok acc st else .bad
  | x :: xs, acc, st => if gdOk gd st then (match bind x env with
    | some env1 => (t env1 st).noex.bind fun k st2 => if k = true then (f env1 st2).noex.bind fun y st3 => (match y with
        | .int n => if acc.length < 4000 then s2in gd bind t f env xs (insI acc n) st3 else .bad
        | _ => .bad) else s2in gd bind t f env xs acc st2
    | none => .bad) else .bad
open Classical in
/-- .. of the outer one -/
noncomputable def s2out (gd : GD) (bind : W → En → Option En) (it1 : FI) (own1 : List Nat) (bind1 : W → En → Option En) (t : FT) (f : FE) (env : En) : List W → List Int → Sto → An (List Int)
  | [], acc, st => if gdOk gd st then .ok acc st else .bad
  | x :: xs, acc, st => if gdOk gd st then (match bind x env with
    | some env1 => (it1 env1 st).noex.bind fun p st2 => (s2in p.2 bind1 t f (wipeW env1 own1) p.1 acc st2).bind fun acc2 st3 => s2out gd bind it1 own1 bind1 t f env xs acc2 st3
    | none => .bad) else .bad
noncomputable def fLenS2 (own own1 : List Nat) (it it1 : FI) (bind bind1 : W → En → Option En) (t : FT) (f : FE) : FE := fun env st =>
  (it env st).bind fun p st1 => (s2out p.2 bind it1 own1 bind1 t f (wipeW env own) p.1 [] st1).bind fun acc st2 => .ok (.int (acc.length : Nat)) st2
/-- the ints at D are these -/
abbrev IsS (w : World) (h : Heap) (D : Addr) (acc : List Int) : Prop := SetR w h D (fun k => decide (k ∈ acc)) acc.length ∧ acc.length ≤ 4000
theorem IsS.at {w : World} {h h' : Heap} {D : Addr} {acc : List Int} (z : IsS w h D acc) (k : ∀ o, h.get? D = some o → h'.get? D = some o) : IsS w h' D acc := ⟨z.1.at k, z.2⟩
theorem IsS.ins {w : World} {h : Heap} {D : Addr} {acc : List Int} {n : Int} (hl : acc.length < 4000) (z : SetR w h D (fun j => decide (j ∈ acc) || decide (j = n)) (if decide (n ∈ acc) = true then acc.length else acc.length + 1)) : IsS w h D (insI acc n) := by
  unfold insI
  by_cases hn : n ∈ acc
  · rw [if_pos (by simpa using hn)] at z
    rw [if_pos hn]
    refine ⟨z.congr fun k => ?_, Nat.le_of_lt hl⟩
    by_cases hk : k = n
    · subst hk
      simp [hn]
    · simp [hk]
  · rw [if_neg (by simpa using hn)] at z
    rw [if_neg hn]
    refine ⟨?_, by simp; omega⟩
    have e : (acc ++ [n]).length = acc.length + 1 := by simp
    rw [e]
    exact z.congr fun k => by simp
theorem IsS.obj {w : World} {h : Heap} {D : Addr} {acc : List Int} (z : IsS w h D acc) : ∃ o, h.get? D = some o ∧ ∀ v, o.data ≠ .cell v := by
  obtain ⟨o, es, ep, t, ho, _, hd, _⟩ := z.1
  exact ⟨o, ho, fun v q => by rw [hd] at q; cases q⟩
section
variable {B : Cx} {pins : List (Addr × Obj)} {σ : L2.St} {H : Hp} {s : Shared} {D : Addr} {acc : List Int}
/-- the set is held fast -/
theorem hold_set (I : Inv B pins σ H s) (f : FpOk B pins H D) (z : IsS B.w s.heap D acc) : Inv B (pins ++ pinsAt [D] s.heap) σ H s :=
  I.pinned (fp := [D]) (fun b hb => by rw [List.mem_singleton.mp hb]; exact f) fun b hb => by rw [List.mem_singleton.mp hb]; exact z.obj
theorem held_set {h0 : Heap} {pl : List (Addr × Obj)} (I : Inv B pl σ H s) (hp : ∀ p ∈ pinsAt [D] h0, p ∈ pl) (z : IsS B.w h0 D acc) : IsS B.w s.heap D acc := by
  refine z.at fun o ho => ?_
  exact (I.pin (D, o) (List.mem_append_right _ (hp _ (mem_pinsAt (List.mem_singleton.mpr rfl) ho)))).1
theorem held_free {h0 : Heap} {pl : List (Addr × Obj)} (I : Inv B pl σ H s) (hp : ∀ p ∈ pinsAt [D] h0, p ∈ pl) (z : IsS B.w h0 D acc) : H D = none := by
  obtain ⟨o, ho, _⟩ := z.obj
  exact (I.pin (D, o) (List.mem_append_right _ (hp _ (mem_pinsAt (List.mem_singleton.mpr rfl) ho)))).2.1
theorem fewer_pins {pl : List (Addr × Obj)} (I : Inv B pl σ H s) (h : ∀ p ∈ pins, p ∈ pl) : Inv B pins σ H s := I.pins_of fun p hp => I.pin p (List.mem_append_right _ (h p hp))
/-- a member more -/
theorem add_set {Q : Value → Shared → Prop} {y : Value} {n : Int} (I : Inv B pins σ H s) (f : FpOk B pins H D) (z : IsS B.w s.heap D acc) (hl : acc.length < 4000) (hy : RelV (.int n) y)
    (hQ : ∀ s', Inv B pins σ H s' → IsS B.w s'.heap D (insI acc n) → (∀ b, b ≠ D → s'.heap.get? b = s.heap.get? b) → Q .none s') : wpAny (model B.prog B.w) B.A (call (.builtin "set.add") [.ref D, y]) Q noE s := by
  obtain ⟨tk, rfl⟩ := hy
  refine setR_add z.1 (by unfold scanBound; omega) fun h' sb new => ?_
  obtain ⟨f0, f1, f2, f3, f4, f5⟩ := f
  exact hQ _ (I.turned (t' := s.toks + 1) (fun b o hb e => (sb.2 b hb).trans e) f0 f1 f3 f4 f5) (IsS.ins hl new) fun b hb => sb.2 b hb
end
/-! ### len of it -/
section
variable {X : Cx} {Wx : WX}
theorem s2_core {pins : List (Addr × Obj)} {s : Shared} {σ : L2.St} {H : Hp} {Q : Int → Hp → Prop} {elt tg iter tg1 iter1 : Expr} {c1 : List Expr} {scope : Scope} {own : List (Str × Nat)} {own1 : List Nat} {pos pos' : Pos} {g g1 : TG} {fi fi1 : FI} {bind bind1 : W → En → Option En} {t : FT} {f : FE} {Qf : Value → Shared → Prop}
    (hc : X.calm = true) (hN : X.N.Nodup) (I : Inv X pins σ H s) (hi : PI X tg iter (tI (gx X) Wx fi)) (ok : BlkOk X.N X.env.scope scope own) (hv : ∀ i ∈ own1, i ∈ own.map (·.2))
    (hb : BindOk (gx X) (own.map (·.2)) g bind) (hb1 : BindOk (gx X) own1 g1 bind1)
    (hg : ∀ (s : Shared) (H : Hp) (C : Addr) (cl : List (Str × Addr)) (fp : List Addr), PG (X.blk s H scope (compEnvC scope cl C X.env) fp) tg g)
    (hi1 : ∀ (s : Shared) (H : Hp) (C : Addr) (cl : List (Str × Addr)) (fp : List Addr), PI (X.blk s H scope (compEnvC scope cl C X.env) fp) tg1 iter1 (tI (gx X) W0 fi1))
    (hg1 : ∀ (s : Shared) (H : Hp) (C : Addr) (cl : List (Str × Addr)) (fp : List Addr), PG (X.blk s H scope (compEnvC scope cl C X.env) fp) tg1 g1)
    (ht : ∀ (s : Shared) (H : Hp) (C : Addr) (cl : List (Str × Addr)) (fp : List Addr), PTs (X.blk s H scope (compEnvC scope cl C X.env) fp) c1 (tT (gx X) W0 t))
    (he : ∀ (s : Shared) (H : Hp) (C : Addr) (cl : List (Str × Addr)) (fp : List Addr), PE (X.blk s H scope (compEnvC scope cl C X.env) fp) elt (tE (gx X) W0 f))
    (hs : ∀ x, foldedSetIterable iter X.env x = pure x) (hs1 : ∀ env x, foldedSetIterable iter1 env x = pure x)
    {env : En} {r : List Addr} {st : Sto} (en : EnR (gx X) r H env σ) (sm : Sim (gx X) r H st)
    (p : Po (gx X) Wx σ (fun w r' H' => ∀ n, w = .int n → Q n H') r H (fLenS2 (own.map (·.2)) own1 fi fi1 bind bind1 t f env st))
    (hQ : ∀ D acc s' H', Inv X pins σ H' s' → IsS X.w s'.heap D acc → Q (acc.length : Nat) H' → Qf (.ref D) s') :
    wpAny (model X.prog X.w) X.A (comprehension (S2 elt tg iter tg1 iter1 c1 scope pos) scope X.env pos' (newSet (.type "set")) false (eval iter X.env) none) Qf X.xe s := by
  have hfree : ∀ y ∈ scope.names, y.2 = .free → ∃ c, X.env.cells.lookup y.1 = some c := fun y hy e => (ok.free y hy e).elim (fun k => I.ok.has _ (.inl k)) fun k => I.ok.has _ (.inr k)
  have start := hi.run pins s σ H (fun J H1 => ∃ r1 st1 items gd, Grow r H r1 H1 ∧ Sim (gx X) r1 H1 st1 ∧ ItR (gx X) J items gd r1 H1 ∧
      Po (gx X) Wx σ (fun (acc : List Int) r' H' => Q (acc.length : Nat) H') r1 H1 (s2out gd bind fi1 own1 bind1 t f (wipeW env (own.map (·.2))) items [] st1)) I
    ⟨env, r, st, en, sm, (Po.bind p).imp fun pr r1 H1 g1 ⟨st1, sm1, _, p1⟩ J it => ⟨r1, st1, pr.1, pr.2, g1, sm1, it, (Po.bind p1).imp fun acc r2 H2 g2 ⟨st2, sm2, _, p2⟩ => Po.ok p2 sm2 _ rfl⟩⟩
  refine wpAny_comprehension_free (use := none) rfl hs (closure_ok hfree) ok.kind (fun y hy e => by rw [ok.uniq y hy, e]) (thn start fun xv s1 hx => thn hx fun itv s2 h2 => PpSet.newSet_ok (newEnv_comp ?_))
  obtain ⟨it, fp, tn, J, H2, rfl, I2, T, st2, f2, r1, sto1, items, gd, gr1, sm1, itr, p1⟩ := h2
  -- the set lies at D
  obtain ⟨D, hD⟩ : ∃ D, D = s2.heap.objs.size := ⟨_, rfl⟩
  rw [← hD]
  have fD : FpOk X pins H2 D := I2.fpOk (Nat.le_of_eq hD.symm) (I2.hok.fresh (Nat.le_of_eq hD.symm))
  obtain ⟨s3, hs3⟩ : ∃ s3 : Shared, s3 = { s2 with heap := s2.heap.push { cls := .type "set", dict := none, data := .set #[] 0 (.fresh 0 0 (!X.w.params.followText "set-order")) } } := ⟨_, rfl⟩
  rw [← hs3]
  have k3 : ∀ b o, s2.heap.get? b = some o → s3.heap.get? b = some o := fun b o e => by rw [hs3]; exact Heap.get?_push_of_some _ e
  have I3 : Inv X pins σ H2 s3 := by rw [hs3]; exact I2.kept (t' := s2.toks) fun b o e => Heap.get?_push_of_some _ e
  have z3 : IsS X.w s3.heap D [] := ⟨by
    have q := (setR_fresh (h := s2.heap) X.w).congr (S' := fun k => decide (k ∈ ([] : List Int))) (fun k => by simp)
    rw [hs3, hD]
    exact q, by simp⟩
  have ltD : ∀ b ∈ fp, b < D := fun b hb => by
    obtain ⟨o, e, _⟩ := T.obj _ _ st2 b hb
    rw [hD]
    exact Heap.lt_size e
  have neD : ∀ b ∈ fp, b ≠ D := fun b hb => Nat.ne_of_lt (ltD b hb)
  have f3 : ∀ b ∈ D :: fp, FpOk X pins H2 b ∧ b < s3.heap.objs.size := fun b hb => by
    have sz : s3.heap.objs.size = D + 1 := by rw [hs3, hD]; exact Heap.size_push _ _
    rcases List.mem_cons.mp hb with rfl | hb
    · exact ⟨fD, by rw [sz]; exact Nat.lt_succ_self _⟩
    · exact ⟨f2 b hb, by rw [sz]; exact Nat.lt_succ_of_lt (ltD b hb)⟩
  have I4 := block_start I3 ok hN f3
  have pg := hg s3 H2 s3.heap.objs.size (cellsFrom (s3.heap.objs.size + 1) scope.names (cloFrom X.env.cells scope.names [])) (D :: fp)
  have pi1 := hi1 s3 H2 s3.heap.objs.size (cellsFrom (s3.heap.objs.size + 1) scope.names (cloFrom X.env.cells scope.names [])) (D :: fp)
  have pg1 := hg1 s3 H2 s3.heap.objs.size (cellsFrom (s3.heap.objs.size + 1) scope.names (cloFrom X.env.cells scope.names [])) (D :: fp)
  have pt := ht s3 H2 s3.heap.objs.size (cellsFrom (s3.heap.objs.size + 1) scope.names (cloFrom X.env.cells scope.names [])) (D :: fp)
  have pe := he s3 H2 s3.heap.objs.size (cellsFrom (s3.heap.objs.size + 1) scope.names (cloFrom X.env.cells scope.names [])) (D :: fp)
  change codeAny _ _ (.compStart (S2 elt tg iter tg1 iter1 c1 scope pos) 0 (.ref it) (.ref D) (compEnvC scope (cellsFrom (s3.heap.objs.size + 1) scope.names (cloFrom X.env.cells scope.names [])) s3.heap.objs.size X.env)) (compPost (model X.prog X.w) X.A X.xe none Qf (.ref D) s3.heap.objs.size) { s3 with heap := pushCells (s3.heap.push { cls := .type "dict", data := .dict #[] }) scope.names }
  generalize hce : compEnvC scope (cellsFrom (s3.heap.objs.size + 1) scope.names (cloFrom X.env.cells scope.names [])) s3.heap.objs.size X.env = ce at I4 pg pi1 pg1 pt pe ⊢
  have cL : ce.locals = s3.heap.objs.size := by subst hce; rfl
  have k4 : ∀ b o, s3.heap.get? b = some o → (pushCells (s3.heap.push { cls := .type "dict", data := .dict #[] }) scope.names).get? b = some o := fun b o e => pushCells_keeps _ _ _ _ (Heap.get?_push_of_some _ e)
  generalize hs4 : ({ s3 with heap := pushCells (s3.heap.push { cls := .type "dict", data := .dict #[] }) scope.names } : Shared) = s4 at I4 ⊢
  have k4 : ∀ b o, s3.heap.get? b = some o → s4.heap.get? b = some o := fun b o e => by rw [← hs4]; exact k4 b o e
  have st4 : tn 0 s4.heap := T.keep _ _ _ st2 fun b _ o e => k4 b o (k3 b o e)
  have z4 : IsS X.w s4.heap D [] := z3.at fun o e => k4 D o e
  obtain ⟨B, hB⟩ : ∃ B, B = X.blk s3 H2 scope ce (D :: fp) := ⟨_, rfl⟩
  have hBp : B.prog = X.prog := by rw [hB]
  -- what is ours in the block
  have ours : ∀ {pl : List (Addr × Obj)} {σ' : L2.St} {H' : Hp} {s' : Shared} {b : Addr}, Inv (X.blk s3 H2 scope ce (D :: fp)) pl σ' H' s' → b ∈ D :: fp → H' b = none → (∀ p ∈ pl, p.1 ≠ b) → FpOk (X.blk s3 H2 scope ce (D :: fp)) pl H' b := fun {pl σ' H' s' b} I' hb hn hp =>
    ⟨hn, (I'.ok.exf b hb).1, I'.ok.exfs b hb, .inl hb, fun x c e => (I'.ok.exf b hb).2 x c e, fun p hm => hp p (by simpa using hm)⟩
  have nD : ∀ {pl : List (Addr × Obj)} {h : Heap}, (∀ p ∈ pl, p.1 ∈ fp) → ∀ p ∈ pl, p.1 ≠ D := fun k p hp => neD _ (k p hp)
  have loop : codeAny (model X.prog X.w) X.A (.compLoop (S2 elt tg iter tg1 iter1 c1 scope pos) 0 (.ref it) (.ref D) ce) (compPost (model X.prog X.w) X.A X.xe none Qf (.ref D) s3.heap.objs.size) s4 := by
    refine loopS_out (hs1 ce) (fun n s' => ∃ i rr sto H' acc, n + i = items.length ∧ Inv (X.blk s3 H2 scope ce (D :: fp)) [] (wipe σ (own.map (·.2))) H' s' ∧ tn i s'.heap ∧ (∀ b ∈ D :: fp, H' b = none) ∧ IsS X.w s'.heap D acc ∧ Grow r1 H2 rr H' ∧ Sim (gx X) rr H' sto ∧
      Po (gx X) Wx σ (fun (acc : List Int) r' H' => Q (acc.length : Nat) H') rr H' (s2out gd bind fi1 own1 bind1 t f (wipeW env (own.map (·.2))) (items.drop i) acc sto)) ?_ items.length
      ⟨0, r1, sto1, H2, [], rfl, I4, st4, fun b hb => (f3 b hb).1.1, z4, Grow.refl _ _, sm1, p1⟩
    rintro n s5 ⟨i, r5, sto5, H5, acc, en5, I5, st5, n5, z5, g5, sm5, p5⟩
    have pD := hold_set I5 (ours I5 List.mem_cons_self (n5 D List.mem_cons_self) (by simp)) z5
    have inD : ∀ p ∈ pinsAt [D] s5.heap, p ∈ [] ++ pinsAt [D] s5.heap := fun p hp => hp
    have stat : ∀ b ∈ fp, FpOk (X.blk s3 H2 scope ce (D :: fp)) ([] ++ pinsAt [D] s5.heap) H5 b := fun b hb => ours pD (List.mem_cons_of_mem _ hb) (n5 b (List.mem_cons_of_mem _ hb)) fun p hp => by
      have e : p.1 = D := List.mem_singleton.mp (of_pinsAt hp).1
      rw [e]
      exact (neD b hb).symm
    by_cases hlt : i < items.length
    · rw [List.drop_eq_getElem_cons hlt] at p5
      simp only [s2out] at p5
      obtain ⟨hgd, p5⟩ := ite_bad p5
      have go := itr.go i r5 H5 sto5 g5 sm5 hgd hlt
      refine thn (T.item (X.blk s3 H2 scope ce (D :: fp)) rfl rfl rfl hc i _ s5 _ H5 noE pD stat st5 go) fun rv s6 ⟨u, hr, h6⟩ => ?_
      subst hr
      refine thn h6 fun _ s7 ⟨x, H7, I7, r7, y7, st7, n7⟩ => ?_
      obtain ⟨sy, sm7, rx⟩ := itr.yld i r5 H5 sto5 x H7 items[i] g5 sm5 hgd (List.getElem?_eq_getElem hlt) y7
      have g7 : Grow r5 H5 r5 H7 := Grow.same sy
      cases eb : bind items[i] (wipeW env (own.map (·.2))) with
      | none => simp only [eb] at p5; exact p5.elim
      | some env1 =>
        simp only [eb] at p5
        have p7 := Po.grow g7 p5
        have I7' := I7.pinned (fun b hb => ours I7 (List.mem_cons_of_mem _ hb) (n7 b hb) fun p hp => by
          have e : p.1 = D := List.mem_singleton.mp (of_pinsAt hp).1
          rw [e]
          exact (neD b hb).symm) (T.obj _ _ st7)
        have en7 : EnR (gx X) r5 H7 (wipeW env (own.map (·.2))) (wipe σ (own.map (·.2))) := EnR.wipe (((en.grow gr1).grow g5).grow g7) _
        refine thn (pg.run _ s7 _ H7 x u (fun σ8 H8 => H8 = H7 ∧ EnR (gx X) r5 H7 env1 σ8 ∧ wipe σ8 (own.map (·.2)) = wipe σ (own.map (·.2))) I7' r7 (hb items[i] x σ env env1 r5 H7 _ rx en7 eb fun s2 e2 w2 => ⟨rfl, e2, w2⟩)) fun _ s8 ⟨σ8, H8, I8, eH8, en8, hw8⟩ => ?_
        subst eH8
        refine thn (pi1.run _ s8 σ8 H8 (fun J1 H9 => ∃ r9 sto9 items1 gd1, Grow r5 H8 r9 H9 ∧ Sim (gx X) r9 H9 sto9 ∧ ItR (gx X) J1 items1 gd1 r9 H9 ∧
            Po (gx X) Wx σ (fun (acc : List Int) r' H' => Q (acc.length : Nat) H') r9 H9 ((s2in gd1 bind1 t f (wipeW env1 own1) items1 acc sto9).bind fun acc2 st3 => s2out gd bind fi1 own1 bind1 t f (wipeW env (own.map (·.2))) (items.drop (i + 1)) acc2 st3)) I8
          ⟨env1, r5, sto5, en8, sm7, Po.noex ((Po.bind p7).imp fun pr r9 H9 g9 ⟨st9, sm9, _, p9⟩ J1 it1 => ⟨r9, st9, pr.1, pr.2, g9, sm9, it1, p9⟩)⟩) fun xv1 s9 hx => thn hx fun itv1 s10 h10 => ?_
        obtain ⟨it1, fp1, tn1, J1, H9, rfl, I9, T1, stt9, f9, r9, sto9, items1, gd1, g9, sm9, itr1, p9⟩ := h10
        -- the inner loop
        have sub0 : ∀ p ∈ [] ++ pinsAt fp s7.heap, p ∈ ([] ++ pinsAt [D] s5.heap) ++ pinsAt fp s7.heap := fun p hp => List.mem_append_right _ hp
        have z9 : IsS X.w s10.heap D acc := held_set (B := X.blk s3 H2 scope ce (D :: fp)) I9 (fun p hp => List.mem_append_left _ hp) z5
        have D9 : H9 D = none := held_free (B := X.blk s3 H2 scope ce (D :: fp)) I9 (fun p hp => List.mem_append_left _ hp) z5
        have nD0 : ∀ p ∈ [] ++ pinsAt fp s7.heap, p.1 ≠ D := fun p hp => neD _ (of_pinsAt hp).1
        have nD1 : ∀ b ∈ fp1, b ≠ D := fun b hb e => by
          obtain ⟨o, ho, _⟩ := z5.obj
          exact (f9 b hb).2.2.2.2.2 (D, o) (List.mem_append_right _ (List.mem_append_left _ (mem_pinsAt (List.mem_singleton.mpr rfl) ho))) e.symm
        have f9' : ∀ b ∈ fp1, ∀ (pl : List (Addr × Obj)) (H' : Hp), H' b = none → (∀ p ∈ pl, p ∈ [] ++ pinsAt fp s7.heap ∨ p.1 = D) → FpOk (X.blk s3 H2 scope ce (D :: fp)) pl H' b := fun b hb pl H' hn hp => by
          obtain ⟨_, q1, q2, q3, q4, q5⟩ := f9 b hb
          refine ⟨hn, q1, q2, q3, q4, fun p hm => ?_⟩
          rcases hp p (by simpa using hm) with k | k
          · exact q5 p (List.mem_append_right _ (sub0 p k))
          · rw [k]
            exact (nD1 b hb).symm
        have hl8 : (wipe σ (own.map (·.2))).length = (wipe σ8 own1).length := by rw [← hw8, wipe_length, wipe_length]
        have hk8 : ∀ (j : Nat) v, (wipe σ (own.map (·.2)))[j]? = some (some v) → (wipe σ8 own1)[j]? = some (some v) := fun j v e => by
          rw [← hw8] at e
          obtain ⟨e1, e2⟩ := wipe_some e
          rw [wipe_out fun q => e2 (hv j q)]
          exact e1
        have env9 : EnR (gx X) r9 H9 (wipeW env1 own1) (wipe σ8 own1) := EnR.wipe (en8.grow g9) _
        have g59 : Grow r1 H2 r9 H9 := (g5.trans g7).trans g9
        have loop1 : codeAny (model X.prog X.w) X.A (.compLoop (S2 elt tg iter tg1 iter1 c1 scope pos) 1 (.ref it1) (.ref D) ce) (fun q s6 => (∃ fl, q = .ok fl) ∧ ∃ m, m < n ∧ ∃ i rr sto H' acc, m + i = items.length ∧ Inv (X.blk s3 H2 scope ce (D :: fp)) [] (wipe σ (own.map (·.2))) H' s6 ∧ tn i s6.heap ∧ (∀ b ∈ D :: fp, H' b = none) ∧ IsS X.w s6.heap D acc ∧ Grow r1 H2 rr H' ∧ Sim (gx X) rr H' sto ∧
            Po (gx X) Wx σ (fun (acc : List Int) r' H' => Q (acc.length : Nat) H') rr H' (s2out gd bind fi1 own1 bind1 t f (wipeW env (own.map (·.2))) (items.drop i) acc sto)) s10 := by
          refine loopS_in (fun m s' => ∃ j rr sto H' acc, m + j = items1.length ∧ Inv (X.blk s3 H2 scope ce (D :: fp)) ([] ++ pinsAt fp s7.heap) (wipe σ8 own1) H' s' ∧ tn1 j s'.heap ∧ (∀ b ∈ fp1, H' b = none) ∧ H' D = none ∧ IsS X.w s'.heap D acc ∧ Grow r9 H9 rr H' ∧ Sim (gx X) rr H' sto ∧
            Po (gx X) Wx σ (fun (acc : List Int) r' H' => Q (acc.length : Nat) H') rr H' ((s2in gd1 bind1 t f (wipeW env1 own1) (items1.drop j) acc sto).bind fun acc2 st3 => s2out gd bind fi1 own1 bind1 t f (wipeW env (own.map (·.2))) (items.drop (i + 1)) acc2 st3)) ?_ items1.length
            ⟨0, r9, sto9, H9, acc, rfl, (fewer_pins I9 sub0).weak (wipe_length _ _) (fun j v e => (wipe_some e).1), stt9, fun b hb => (f9 b hb).1, D9, z9, Grow.refl _ _, sm9, p9⟩
          rintro m s11 ⟨j, ra, stoa, Ha, acca, ena, Ia, sta, na, Da, za, ga, sma, pa⟩
          have pDa := hold_set Ia (ours Ia List.mem_cons_self Da nD0) za
          have inDa : ∀ p ∈ pinsAt [D] s11.heap, p ∈ ([] ++ pinsAt fp s7.heap) ++ pinsAt [D] s11.heap := fun p hp => List.mem_append_right _ hp
          have pla : ∀ p ∈ ([] ++ pinsAt fp s7.heap) ++ pinsAt [D] s11.heap, p ∈ [] ++ pinsAt fp s7.heap ∨ p.1 = D := fun p hp => (List.mem_append.mp hp).imp_right fun q => List.mem_singleton.mp (of_pinsAt q).1
          have stata : ∀ b ∈ fp1, FpOk (X.blk s3 H2 scope ce (D :: fp)) (([] ++ pinsAt fp s7.heap) ++ pinsAt [D] s11.heap) Ha b := fun b hb => f9' b hb _ _ (na b hb) pla
          by_cases hj : j < items1.length
          · rw [List.drop_eq_getElem_cons hj] at pa
            simp only [s2in] at pa
            have hgd1 : gdOk gd1 stoa := by
              by_cases q : gdOk gd1 stoa
              · exact q
              · rw [if_neg q] at pa
                exact pa.elim
            rw [if_pos hgd1] at pa
            refine thn (T1.item (X.blk s3 H2 scope ce (D :: fp)) rfl rfl rfl hc j _ s11 _ Ha noE pDa stata sta (itr1.go j ra Ha stoa ga sma hgd1 hj)) fun rv s12 ⟨u1, hr, h12⟩ => ?_
            subst hr
            refine thn h12 fun _ s13 ⟨x1, Hb, Ib, rb, yb, stb, nb⟩ => ?_
            obtain ⟨syb, smb, rxb⟩ := itr1.yld j ra Ha stoa x1 Hb items1[j] ga sma hgd1 (List.getElem?_eq_getElem hj) yb
            have gb : Grow ra Ha ra Hb := Grow.same syb
            cases eb1 : bind1 items1[j] (wipeW env1 own1) with
            | none => simp only [eb1] at pa; exact pa.elim
            | some env2 =>
              simp only [eb1] at pa
              have pb := Po.grow gb pa
              have Ib' := Ib.pinned (fun b hb => f9' b hb _ _ (nb b hb) pla) (T1.obj _ _ stb)
              refine thn (pg1.run _ s13 _ Hb x1 u1 (fun σc Hc => Hc = Hb ∧ EnR (gx X) ra Hb env2 σc ∧ wipe σc own1 = wipe σ8 own1) Ib' rb (hb1 items1[j] x1 σ8 env1 env2 ra Hb _ rxb ((env9.grow ga).grow gb) eb1 fun s2 e2 w2 => ⟨rfl, e2, w2⟩)) fun _ s14 ⟨σc, Hc, Ic, eHc, enc, hwc⟩ => ?_
              subst eHc
              have cut : ∀ {α : Type} {mm : An α} {k1 : α → Sto → An (List Int)} {k2 : List Int → Sto → An (List Int)}, (mm.bind k1).bind k2 = mm.bind fun a st => (k1 a st).bind k2 := fun {α mm k1 k2} => by cases mm <;> rfl
              rw [cut] at pb
              refine thn (pt.run _ s14 σc Hc (fun k Hd => ∃ rd stod, Sim (gx X) rd Hd stod ∧ Grow ra Hc rd Hd ∧ Po (gx X) Wx σ (fun (acc : List Int) r' H' => Q (acc.length : Nat) H') rd Hd
                  ((if k = true then (f env2 stod).noex.bind fun y st3 => (match y with
                    | .int n => if acca.length < 4000 then s2in gd1 bind1 t f (wipeW env1 own1) (items1.drop (j + 1)) (insI acca n) st3 else .bad
                    | _ => .bad) else s2in gd1 bind1 t f (wipeW env1 own1) (items1.drop (j + 1)) acca stod).bind fun acc2 st3 => s2out gd bind fi1 own1 bind1 t f (wipeW env (own.map (·.2))) (items.drop (i + 1)) acc2 st3)) Ic
                ⟨env2, ra, stoa, enc, smb, Po.noex ((Po.bind pb).imp fun k rd Hd gd' ⟨stod, smd, _, pd⟩ => ⟨rd, stod, smd, gd', pd⟩)⟩) fun k s15 ⟨Hd, Id, rd, stod, smd, gd', pd⟩ => ?_
              -- the turn's end
              have fin : ∀ {s' : Shared} {H' : Hp} {rr : List Addr} {sto : Sto} {acc' : List Int}, Inv (X.blk s3 H2 scope ce (D :: fp)) (([] ++ pinsAt fp s7.heap) ++ pinsAt fp1 s13.heap) σc H' s' → H' D = none → IsS X.w s'.heap D acc' → Grow r9 H9 rr H' → Sim (gx X) rr H' sto →
                  Po (gx X) Wx σ (fun (acc : List Int) r' H' => Q (acc.length : Nat) H') rr H' ((s2in gd1 bind1 t f (wipeW env1 own1) (items1.drop (j + 1)) acc' sto).bind fun acc2 st3 => s2out gd bind fi1 own1 bind1 t f (wipeW env (own.map (·.2))) (items.drop (i + 1)) acc2 st3) →
                  ∃ m', m' < m ∧ ∃ j rr sto H' acc, m' + j = items1.length ∧ Inv (X.blk s3 H2 scope ce (D :: fp)) ([] ++ pinsAt fp s7.heap) (wipe σ8 own1) H' s' ∧ tn1 j s'.heap ∧ (∀ b ∈ fp1, H' b = none) ∧ H' D = none ∧ IsS X.w s'.heap D acc ∧ Grow r9 H9 rr H' ∧ Sim (gx X) rr H' sto ∧
                    Po (gx X) Wx σ (fun (acc : List Int) r' H' => Q (acc.length : Nat) H') rr H' ((s2in gd1 bind1 t f (wipeW env1 own1) (items1.drop j) acc sto).bind fun acc2 st3 => s2out gd bind fi1 own1 bind1 t f (wipeW env (own.map (·.2))) (items.drop (i + 1)) acc2 st3) := fun {s' H' rr sto acc'} I' nD' z' g' sm' p' => by
                have pin' : ∀ b ∈ fp1, ∀ o, s13.heap.get? b = some o → s'.heap.get? b = some o ∧ H' b = none := fun b hb o e =>
                  let q := I'.pin (b, o) (List.mem_append_right _ (List.mem_append_right _ (mem_pinsAt hb e)))
                  ⟨q.1, q.2.1⟩
                refine ⟨m - 1, by omega, j + 1, rr, sto, H', acc', by omega, I'.unpinned.weak (by rw [← hwc, wipe_length]) (fun j v e => by rw [← hwc] at e; exact (wipe_some e).1), T1.keep _ _ _ stb fun b hb o e => (pin' b hb o e).1, fun b hb => ?_, nD', z', g', sm', p'⟩
                obtain ⟨o, e, _⟩ := T1.obj _ _ stb b hb
                exact (pin' b hb o e).2
              have sub1 : ∀ p ∈ ([] ++ pinsAt fp s7.heap) ++ pinsAt fp1 s13.heap, p ∈ (([] ++ pinsAt fp s7.heap) ++ pinsAt [D] s11.heap) ++ pinsAt fp1 s13.heap := fun p hp => (List.mem_append.mp hp).elim (fun q => List.mem_append_left _ (List.mem_append_left _ q)) fun q => List.mem_append_right _ q
              have inDb : ∀ p ∈ pinsAt [D] s11.heap, p ∈ (([] ++ pinsAt fp s7.heap) ++ pinsAt [D] s11.heap) ++ pinsAt fp1 s13.heap := fun p hp => List.mem_append_left _ (inDa p hp)
              cases k with
              | false =>
                simp only [Bool.false_eq_true, if_false] at pd ⊢
                exact fin (fewer_pins Id sub1) (held_free (B := X.blk s3 H2 scope ce (D :: fp)) Id inDb za) (held_set (B := X.blk s3 H2 scope ce (D :: fp)) Id inDb za) (((ga.trans gb).trans gd')) smd pd
              | true =>
                simp only [if_true] at pd ⊢
                rw [cut] at pd
                refine thn (pe.run _ s15 σc Hd (fun y He => ∃ (re : List Addr) (stoe : Sto) (n : Int), y = .int n ∧ acca.length < 4000 ∧ Sim (gx X) re He stoe ∧ Grow rd Hd re He ∧ Po (gx X) Wx σ (fun (acc : List Int) r' H' => Q (acc.length : Nat) H') re He
                    ((s2in gd1 bind1 t f (wipeW env1 own1) (items1.drop (j + 1)) (insI acca n) stoe).bind fun acc2 st3 => s2out gd bind fi1 own1 bind1 t f (wipeW env (own.map (·.2))) (items.drop (i + 1)) acc2 st3)) Id
                  ⟨env2, rd, stod, enc.grow gd', smd, Po.noex ((Po.bind pd).imp fun yw re He ge ⟨stoe, sme, _, pe'⟩ vy ry => ?_)⟩) fun yv s16 ⟨y, He, Ie, ry, re, stoe, nn, ey, hl, sme, ge, pe'⟩ => ?_
                · cases ry with
                  | int n =>
                    by_cases hl : acca.length < 4000
                    · simp only [if_pos hl] at pe'
                      exact ⟨re, stoe, n, rfl, hl, sme, ge, pe'⟩
                    · simp only [if_neg hl] at pe'
                      exact pe'.elim
                  | _ => exact pe'.elim
                · subst ey
                  have De : He D = none := held_free (B := X.blk s3 H2 scope ce (D :: fp)) Ie inDb za
                  have nDe : ∀ p ∈ ([] ++ pinsAt fp s7.heap) ++ pinsAt fp1 s13.heap, p.1 ≠ D := fun p hp => (List.mem_append.mp hp).elim (nD0 p) fun q => nD1 _ (of_pinsAt q).1
                  have Ie' := fewer_pins Ie sub1
                  exact add_set (B := X.blk s3 H2 scope ce (D :: fp)) Ie' (ours Ie' List.mem_cons_self De nDe) (held_set (B := X.blk s3 H2 scope ce (D :: fp)) Ie inDb za) hl ry fun s17 I17 z17 _ => fin I17 De z17 (((ga.trans gb).trans gd').trans ge) sme pe'
          · have ed : items1.drop j = [] := List.drop_eq_nil_of_le (by omega)
            rw [ed] at pa
            simp only [s2in] at pa
            have hgd1 : gdOk gd1 stoa := by
              by_cases q : gdOk gd1 stoa
              · exact q
              · rw [if_neg q] at pa
                exact pa.elim
            rw [if_pos hgd1] at pa
            have ej : j = items1.length := by omega
            subst ej
            refine thn (T1.done (X.blk s3 H2 scope ce (D :: fp)) rfl rfl rfl hc _ _ s11 _ Ha noE pDa stata sta (itr1.stop ra Ha stoa ga sma hgd1)) fun rv s12 ⟨hr, Ib⟩ => ?_
            subst hr
            have pin' : ∀ b ∈ fp, ∀ o, s7.heap.get? b = some o → s12.heap.get? b = some o ∧ Ha b = none := fun b hb o e =>
              let q := Ib.pin (b, o) (List.mem_append_right _ (List.mem_append_left _ (mem_pinsAt hb e)))
              ⟨q.1, q.2.1⟩
            refine ⟨⟨_, rfl⟩, n - 1, by omega, i + 1, ra, stoa, Ha, acca, by omega, (fewer_pins Ib (fun p hp => by simp at hp)).weak hl8 hk8, T.keep _ _ _ st7 fun b hb o e => (pin' b hb o e).1, fun b hb => ?_, held_set (B := X.blk s3 H2 scope ce (D :: fp)) Ib inDa za, g59.trans ga, sma, pa⟩
            rcases List.mem_cons.mp hb with rfl | hb
            · exact Da
            · obtain ⟨o, e, _⟩ := T.obj _ _ st7 b hb
              exact (pin' b hb o e).2
        exact startS_in loop1 (T1.self X.A 0 _ _ _ stt9 loop1)
    · have ed : items.drop i = [] := List.drop_eq_nil_of_le (by omega)
      rw [ed] at p5
      simp only [s2out] at p5
      obtain ⟨hgd, p5⟩ := ite_bad p5
      have ei : i = items.length := by omega
      subst ei
      refine thn (T.done (X.blk s3 H2 scope ce (D :: fp)) rfl rfl rfl hc _ _ s5 _ H5 noE pD stat st5 (itr.stop r5 H5 sto5 g5 sm5 hgd)) fun rv s6 ⟨hr, I6⟩ => ?_
      subst hr
      have I7 : Inv X pins σ H5 s6 := I3.call' (ch := D :: fp) I6.os I6.base I6.hok I6.bare fun b hb => ⟨(f3 b hb).1.2.2.2.1, (f3 b hb).1.2.1, (f3 b hb).1.2.2.2.2.1, (f3 b hb).1.2.2.2.2.2⟩
      have nC : H5 s3.heap.objs.size = none := by
        have q : H5 ce.locals = none := I6.free
        rwa [cL] at q
      obtain ⟨m, hn, _⟩ := I6.loc
      have hn : s6.heap.Ns ce.locals m := hn
      rw [cL] at hn
      refine ⟨m, hn, fun h'' sb => ?_⟩
      obtain ⟨c0, c1', c2, c3, c4, c5⟩ := I3.fpOk (Nat.le_refl _) nC
      have DC : D ≠ s3.heap.objs.size := Nat.ne_of_lt (f3 D List.mem_cons_self).2
      refine hQ D acc _ H5 (I7.turned (t' := s6.toks) (fun b o hb e => (sb.2 b hb).trans e) c0 c1' c3 c4 c5) ((held_set (B := X.blk s3 H2 scope ce (D :: fp)) I6 inD z5).at fun o e => (sb.2 D DC).trans e) ?_
      exact Po.ok p5 sm5
  exact PpSet.codeAny_compStart_set loop (T.self X.A 0 _ _ _ st4 loop)
theorem wipe_set_in {s : L2.St} {i : Nat} {v : Option V} : ∀ {vs : List Nat}, i ∈ vs → wipe (s.set i v) vs = wipe s vs
  | [], h => by simp at h
  | j :: vs, h => by
    unfold wipe
    by_cases hj : i = j
    · subst hj
      by_cases hm : i ∈ vs
      · rw [wipe_set_in hm]
      · have e : wipe (s.set i v) vs = (wipe s vs).set i v := wipe_set_out hm
        rw [e, List.set_set]
    · rw [wipe_set_in ((List.mem_cons.mp h).resolve_left hj)]
where wipe_set_out {s : L2.St} {i : Nat} {v : Option V} : ∀ {vs : List Nat}, i ∉ vs → wipe (s.set i v) vs = (wipe s vs).set i v
  | [], _ => rfl
  | j :: vs, h => by
    have h1 : i ≠ j := fun e => h (by rw [e]; exact List.mem_cons_self)
    unfold wipe
    rw [wipe_set_out fun q => h (List.mem_cons_of_mem _ q), List.set_comm _ _ h1]
theorem wipe_wipe (s : L2.St) (vs : List Nat) : wipe (wipe s vs) vs = wipe s vs := by
  have one : ∀ (ws : List Nat), (∀ i ∈ ws, i ∈ vs) → wipe (wipe s ws) vs = wipe s vs := fun ws => by
    induction ws with
    | nil => intro _; rfl
    | cons j ws ih =>
      intro h
      show wipe ((wipe s ws).set j none) vs = _
      rw [wipe_set_in (h j List.mem_cons_self)]
      exact ih fun i hi => h i (List.mem_cons_of_mem _ hi)
  exact one vs fun _ h => h
/-- targets of a block with more names -/
theorem bind_nameS {G : Gx} {i : Nat} {vs : List Nat} (h : i ∈ vs) : BindOk G vs (gName i) (bN i) := fun w v s env env1 r H Q rw' en e q => by
  cases e
  exact q _ (en.set rw') (by rw [wipe_set_in h, wipe_wipe])
theorem bind_twoS {G : Gx} {i j : Nat} {vs : List Nat} (hi : i ∈ vs) (hj : j ∈ vs) : BindOk G vs (gTup G.K 2 (gCons (gName i) (gCons (gName j) gNil))) (b2 i j) := fun w v s env env1 r H Q rw' en e q => by
  cases rw' with
  | tup h k =>
    cases k with
    | nil => cases e
    | cons h1 k =>
      cases k with
      | nil => cases e
      | cons h2 k =>
        cases k with
        | cons _ _ => cases e
        | nil =>
          cases e
          exact ⟨_, _, rfl, h, rfl, _, _, rfl, _, _, rfl, rfl, q _ ((en.set h1).set h2) (by rw [wipe_set_in hj, wipe_set_in hi, wipe_wipe])⟩
  | _ => cases e
/-- len({elt for tg in iter for tg1 in iter1 if ..}) -/
theorem e_lenS2 {elt tg iter tg1 iter1 : Expr} {c1 : List Expr} {scope : Scope} {own : List (Str × Nat)} {own1 : List Nat} {pos pos2 pl : Pos} {g g1 : TG} {fi fi1 : FI} {bind bind1 : W → En → Option En} {t : FT} {f : FE}
    (hgl : Gl X "len") (hml : X.mg "len" = none) (hN : X.N.Nodup) (hi : PI X tg iter (tI (gx X) Wx fi)) (ok : BlkOk X.N X.env.scope scope own) (hv : ∀ i ∈ own1, i ∈ own.map (·.2))
    (hb : BindOk (gx X) (own.map (·.2)) g bind) (hb1 : BindOk (gx X) own1 g1 bind1)
    (hg : ∀ (s : Shared) (H : Hp) (C : Addr) (cl : List (Str × Addr)) (fp : List Addr), PG (X.blk s H scope (compEnvC scope cl C X.env) fp) tg g)
    (hi1 : ∀ (s : Shared) (H : Hp) (C : Addr) (cl : List (Str × Addr)) (fp : List Addr), PI (X.blk s H scope (compEnvC scope cl C X.env) fp) tg1 iter1 (tI (gx (X.blk s H scope (compEnvC scope cl C X.env) fp)) W0 fi1))
    (hg1 : ∀ (s : Shared) (H : Hp) (C : Addr) (cl : List (Str × Addr)) (fp : List Addr), PG (X.blk s H scope (compEnvC scope cl C X.env) fp) tg1 g1)
    (ht : ∀ (s : Shared) (H : Hp) (C : Addr) (cl : List (Str × Addr)) (fp : List Addr), PTs (X.blk s H scope (compEnvC scope cl C X.env) fp) c1 (tT (gx (X.blk s H scope (compEnvC scope cl C X.env) fp)) W0 t))
    (he : ∀ (s : Shared) (H : Hp) (C : Addr) (cl : List (Str × Addr)) (fp : List Addr), PE (X.blk s H scope (compEnvC scope cl C X.env) fp) elt (tE (gx (X.blk s H scope (compEnvC scope cl C X.env) fp)) W0 f))
    (hc : X.calm = true := by rfl) (hs : ∀ x, foldedSetIterable iter X.env x = pure x := by intro _; rfl) (hs1 : ∀ env x, foldedSetIterable iter1 env x = pure x := by intro _ _; rfl)
    (na : starEach [S2 elt tg iter tg1 iter1 c1 scope pos] X.env = (false, eval (S2 elt tg iter tg1 iter1 c1 scope pos) X.env) :: starEach [] X.env := by rfl) :
    PE X (.Call (.Name "len" pl) [S2 elt tg iter tg1 iter1 c1 scope pos] [] pos2) (tE (gx X) Wx (fLenS2 (own.map (·.2)) own1 fi fi1 bind bind1 t f)) := by
  refine ⟨fun pins s σ H Q I h => ?_⟩
  obtain ⟨env, r, st, en, sm, p⟩ := h
  refine Call_ (ld_blt I hgl hml boot_len (PyProof.Rows.callWith_builtin1 (PyProof.Rows.args_cons ?_ na) na rfl))
  rw [PpSet.eval_SetComp]
  refine s2_core (Q := fun n H' => Q (.int n) H') hc hN I hi ok hv hb hb1 hg hi1 hg1 ht he hs hs1 en sm (p.imp fun w r' H' _ q n e => q (.int n) (by rw [e]; exact .int n)) fun D acc s' H' I' z q => PyProof.Rows.args_nil ?_
  obtain ⟨o, es, ep, t, ho, hex, hd, _, _, _, _, hf, hn, _⟩ := z.1
  have hl := z.2
  exact call_len_set ho hex hd hf (by rw [hn]; omega) ⟨.int (acc.length : Nat), H', I'.tok _, ⟨_, by rw [hn]⟩, q⟩
end
/-- a block within a block -/
theorem blkOk_in {N : List Str} {sc0 scope : Scope} {cl : List (Str × Addr)} {C : Addr} {env : Env} {own : List (Str × Nat)} (h : blkC N (relS sc0 env.scope) scope own = true) : BlkOk N (compEnvC sc0 cl C env).scope scope own := blkOk_by h
end Sw
/-! Pl: plain laws of the plain functions. -/
namespace Sw
open PySem PySem.Spec PyProof.Rows L2
/-! ### the store -/
@[simp] theorem sto_at {st : Sto} {o : Ob} {g : Sto} : (st ++ o :: g)[st.length]? = some o := by
  rw [List.getElem?_append_right (Nat.le_refl _)]
  simp
@[simp] theorem sto_at1 {st : Sto} {g : Sto} {k : Nat} : (st ++ g)[st.length + k]? = g[k]? := by
  rw [List.getElem?_append_right (Nat.le_add_right _ _)]
  simp
@[simp] theorem sto_set {st g : Sto} {k : Nat} {o : Ob} : (st ++ g).set (st.length + k) o = st ++ g.set k o := by
  rw [List.set_append_right _ _ (Nat.le_add_right _ _)]
  simp
@[simp] theorem sto_set0 {st g : Sto} {o : Ob} : (st ++ g).set st.length o = st ++ g.set 0 o := by
  rw [List.set_append_right _ _ (Nat.le_refl _)]
  simp
theorem sto_lt {st : Sto} {n : Nat} {o : Ob} (h : st[n]? = some o) : n < st.length := (List.getElem?_eq_some_iff.mp h).1
theorem sto_app {st g : Sto} {n : Nat} {o : Ob} (h : st[n]? = some o) : (st ++ g)[n]? = some o := by
  rw [List.getElem?_append_left (sto_lt h)]
  exact h
theorem sto_setl {st g : Sto} {n : Nat} {o : Ob} (h : n < st.length) : (st ++ g).set n o = st.set n o ++ g := by
  rw [List.set_append_left _ _ h]
/-! ### comprehensions that leave the store as it is -/
theorem lc_pure {bind : W → En → Option En} {t : FT} {f : FE} {env : En} {st : Sto} {g : W → W} : ∀ {items acc : List W}, acc.length + items.length ≤ 100000 →
    (∀ acc, ∀ w ∈ items, ∃ env1, bind w env = some env1 ∧ t env1 (st ++ [.lst acc]) = .ok true (st ++ [.lst acc]) ∧ f env1 (st ++ [.lst acc]) = .ok (g w) (st ++ [.lst acc])) →
    lcS none bind t f st.length env items (st ++ [.lst acc]) = .ok () (st ++ [.lst (acc ++ items.map g)])
  | [], acc, _, _ => by simp [lcS, gdOk]
  | w :: items, acc, hl, h => by
    obtain ⟨env1, h1, h2, h3⟩ := h acc w List.mem_cons_self
    have hl' : acc.length + (items.length + 1) ≤ 100000 := by simpa using hl
    have ih := lc_pure (bind := bind) (t := t) (f := f) (env := env) (st := st) (g := g) (items := items) (acc := acc ++ [g w]) (by simp; omega) fun acc x hx => h acc x (List.mem_cons_of_mem _ hx)
    have hlt : acc.length < 100000 := by omega
    simp only [lcS, gdOk, if_true, h1, h2, h3, An.noex_ok, An.bind_ok, sto_at, hlt, sto_set0, List.set_cons_zero]
    simpa using ih
theorem fYes_ok {env : En} {st : Sto} : fYes env st = .ok true st := rfl
/-- .. the whole of it -/
theorem fLc_pure {own : List Nat} {it : FI} {bind : W → En → Option En} {f : FE} {env : En} {st st1 : Sto} {items : List W} {g : W → W} (hi : it env st = .ok (items, none) st1) (hl : items.length ≤ 100000)
    (h : ∀ acc, ∀ w ∈ items, ∃ env1, bind w (wipeW env own) = some env1 ∧ f env1 (st1 ++ [.lst acc]) = .ok (g w) (st1 ++ [.lst acc])) : fLc own it bind fYes f env st = .ok (.ref st1.length) (st1 ++ [.lst (items.map g)]) := by
  unfold fLc
  rw [hi, An.bind_ok]
  have := lc_pure (bind := bind) (t := fYes) (f := f) (env := wipeW env own) (st := st1) (g := g) (items := items) (acc := []) (by simpa using hl) fun acc w hw => by
    obtain ⟨e, h1, h2⟩ := h acc w hw
    exact ⟨e, h1, fYes_ok, h2⟩
  rw [this]
  simp
/-! ### equal lists of plain things -/
theorem mapM_all {α β : Type} {f : α → Option β} {g : α → β} : ∀ {l : List α}, (∀ x ∈ l, f x = some (g x)) → l.mapM f = some (l.map g)
  | [], _ => rfl
  | x :: l, h => by
    rw [List.mapM_cons, h x List.mem_cons_self, mapM_all (l := l) fun y hy => h y (List.mem_cons_of_mem _ hy)]
    rfl
theorem toD_lst {st : Sto} {n k : Nat} {l : List W} (h : st[n]? = some (.lst l)) : toD st (k + 1) (.ref n) = (l.mapM (toD st k)).map .list := by
  unfold toD
  simp only [h]
theorem toD_bls {st : Sto} {n : Nat} {bs : List Bool} (h : st[n]? = some (.lst (bs.map W.bl))) : toD st 64 (.ref n) = some (.list (bs.map PyData.bool)) := by
  refine (toD_lst (k := 63) h).trans ?_
  rw [mapM_all (g := fun w => match w with | .bl b => .bool b | _ => .none)]
  · simp [Function.comp_def]
  · intro x hx
    obtain ⟨b, _, rfl⟩ := List.mem_map.mp hx
    rfl
theorem eqv_bls : ∀ {bs cs : List Bool}, PyData.eqv (.list (bs.map PyData.bool)) (.list (cs.map PyData.bool)) = decide (bs = cs)
  | [], [] => by simp [PyData.eqv, PyData.eqvAll]
  | [], _ :: _ => by simp [PyData.eqv, PyData.eqvAll]
  | _ :: _, [] => by simp [PyData.eqv, PyData.eqvAll]
  | a :: bs, b :: cs => by
    have ih := eqv_bls (bs := bs) (cs := cs)
    simp only [PyData.eqv, List.map_cons, PyData.eqvAll] at ih ⊢
    rw [ih]
    cases a <;> cases b <;> simp [PyData.eqv]
theorem eqW_bls {st : Sto} {n m : Nat} {bs cs : List Bool} (h : st[n]? = some (.lst (bs.map W.bl))) (k : st[m]? = some (.lst (cs.map W.bl))) : eqW st (.ref n) (.ref m) = some (decide (bs = cs)) := by
  show ((toD st 64 (.ref n)).bind fun d => (toD st 64 (.ref m)).map fun e => PyData.eqv d e) = _
  rw [toD_bls h, toD_bls k]
  simp only [Option.bind_some, Option.map_some, eqv_bls]
/-! ### what is forgotten -/
theorem clean_app' {F : FF} {ws : List W} {st : Sto} {w : W} (g : Sto) (h : F ws st = .ok w (st ++ g)) (h2 : closedW st.length w = true) : clean F ws st = .ok w st := clean_app h h2
theorem clean_id {F : FF} {ws : List W} {st : Sto} {w : W} (h : F ws st = .ok w st) : clean F ws st = .ok w st := by
  unfold clean
  rw [h]
  dsimp only
  split
  · rw [List.take_of_length_le (Nat.le_refl _)]
  · rfl
/-- one object changed, new ones behind -/
theorem clean_put {F : FF} {ws : List W} {st g : Sto} {w : W} {n : Nat} {o : Ob} (h : F ws st = .ok w (st.set n o ++ g)) (h1 : closedO st.length o = true) (h2 : closedW st.length w = true) : clean F ws st = .ok w (st.set n o) :=
  clean_set h (by simp) (fun i u e => by
    by_cases hi : n = i
    · subst hi
      by_cases hl : n < st.length
      · rw [List.getElem?_set_self hl] at e
        cases e
        exact .inr h1
      · rw [List.getElem?_eq_none (by simpa using hl)] at e
        cases e
    · rw [List.getElem?_set_ne hi] at e
      exact .inl e) h2
/-- what is handed out is new: nothing is forgotten -/
theorem clean_new {F : FF} {ws : List W} {st st' : Sto} {m : Nat} (h : F ws st = .ok (.ref m) st') (hm : st.length ≤ m) : clean F ws st = .ok (.ref m) st' := by
  unfold clean
  rw [h]
  dsimp only
  rw [if_neg]
  rintro ⟨_, c⟩
  simp only [closedW, decide_eq_true_eq] at c
  omega
/-! ### pots -/
/-- a pot of draws at n: at most c draws of its later kind so far -/
def Pot (st : Sto) (n : Nat) (c : Int) : Prop := ∃ a m k : Int, st[n]? = some (.lst [.int a, .int m, .int k]) ∧ 0 ≤ a ∧ a < 10 ^ 900 ∧ 0 ≤ m ∧ m < 10 ^ 20 ∧ 0 ≤ k ∧ k ≤ c
theorem Pot.mono {st : Sto} {n : Nat} {c d : Int} (h : Pot st n c) (l : c ≤ d) : Pot st n d := by
  obtain ⟨a, m, k, h1, h2, h3, h4, h5, h6, h7⟩ := h
  exact ⟨a, m, k, h1, h2, h3, h4, h5, h6, Int.le_trans h7 l⟩
theorem Pot.app {st g : Sto} {n : Nat} {c : Int} (h : Pot st n c) : Pot (st ++ g) n c := by
  obtain ⟨a, m, k, h1, h2⟩ := h
  exact ⟨a, m, k, sto_app h1, h2⟩
theorem Pot.lt {st : Sto} {n : Nat} {c : Int} (h : Pot st n c) : n < st.length := by
  obtain ⟨a, m, k, h1, h2⟩ := h
  exact sto_lt h1
theorem fRun_rt {n : Nat} {f : FS} {ws : List W} {st s : Sto} {w : W} {e : En} (he : Sw.start n ws = e) (h : f e st = .rt w s) : fRun n f ws st = .ok w s := by
  subst he
  unfold fRun
  rw [h]
theorem fRun_nx {n : Nat} {f : FS} {ws : List W} {st s : Sto} {e e' : En} (he : Sw.start n ws = e) (h : f e st = .nx e' s) : fRun n f ws st = .ok .non s := by
  subst he
  unfold fRun
  rw [h]
theorem fSeq_nx {f g : FS} {env env1 : En} {st st1 : Sto} (h : f env st = .nx env1 st1) : fSeq f g env st = g env1 st1 := by
  simp only [fSeq, h]
end Sw
/-! PotL: the laws' pots of draws. -/
namespace Sw
open PySem PySem.Spec PyProof.Rows L2
theorem wIx_list {st : Sto} {x : W} {l : List W} (h : getL st x = some l) (i : Int) : wIx x (.int i) st = atI l i := by
  cases x with
  | rol l' => simp only [getL, Option.some.injEq] at h; subst h; rfl
  | ref n => simp only [wIx, getS, h, Option.bind_some]
  | _ => simp [getL] at h
theorem wLen_list {st : Sto} {x : W} {l : List W} (h : getL st x = some l) : wLen [x] st = .ok (.int l.length) st := by
  cases x with
  | rol l' => simp only [getL, Option.some.injEq] at h; subst h; rfl
  | ref n =>
    simp only [getL] at h
    split at h
    · rename_i l' e
      cases h
      simp only [wLen, e]
    · cases h
  | _ => simp [getL] at h
theorem pow_big {i : Int} {k : Nat} (h0 : 0 ≤ i) : i ^ k = ((i.toNat ^ k : Nat) : Int) := by
  conv => lhs; rw [← Int.toNat_of_nonneg h0]
  simp
def potB : FS := (fSeq (fSet 2 (fC (.int 0))) (fSeq (fIfS (fCmp wLt (fVar 1) (fCall wLen (fCons (fVar 0) fNil))) (fSet 2 (fBin wMod (fCall wAbs (fCons (fBin wIxA (fVar 0) (fVar 1)) fNil)) (fBin wPow (fBin wPow (fC (.int 10)) (fC (.int 60))) (fC (.int 14))))) fNext) (fSeq (fSet 3 (fBin wMod (fBin wPow (fBin wAdd (fBin wAdd (fBin wMod (fVar 2) (fC (.int 2147483629))) (fBin wMul (fC (.int 7919)) (fVar 1))) (fC (.int 1))) (fC (.int 5))) (fC (.int 2305843009213693951)))) (fRet (fLst (fCons (fBin wMul (fVar 2) (fCall wInt (fCons (fCmpE wGe (fVar 2) (fBin wPow (fC (.int 10)) (fC (.int 18)))) fNil))) (fCons (fVar 3) (fCons (fC (.int 0)) fNil))))))))
noncomputable def potF : FF := clean (fRun 4 potB)
noncomputable def takeB : FS := (fSeq (fIfS (fCmp wGt (fBin wIxA (fVar 0) (fC (.int 0))) (fC (.int 0))) (fSeq (fSet 4 (fBin wMod (fBin wIxA (fVar 0) (fC (.int 0))) (fVar 1))) (fSeq (fAsg (fBin wFdiv (fBin wIxA (fVar 0) (fC (.int 0))) (fVar 1)) (gSubW (fVar 0) (fC (.int 0)))) (fRet (fVar 4)))) fNext) (fSeq (fAsg (fBin wAdd (fBin wIxA (fVar 0) (fC (.int 2))) (fC (.int 1))) (gSubW (fVar 0) (fC (.int 2)))) (fSeq (fSet 2 (fBin wMod (fBin wPow (fBin wAdd (fBin wIxA (fVar 0) (fC (.int 1))) (fBin wMul (fC (.int 104729)) (fBin wIxA (fVar 0) (fC (.int 2))))) (fC (.int 3))) (fC (.int 2305843009213693921)))) (fSeq (fSet 3 (fBin wMod (fBin wPow (fBin wAdd (fBin wAdd (fVar 2) (fBin wMod (fBin wIxA (fVar 0) (fC (.int 1))) (fC (.int 65537)))) (fBin wMul (fC (.int 31)) (fBin wIxA (fVar 0) (fC (.int 2))))) (fC (.int 5))) (fC (.int 2305843009213693907)))) (fRet (fBin wMod (fBin wFdiv (fVar 3) (fC (.int 1024))) (fVar 1)))))))
noncomputable def takeF : FF := clean (fRun 5 takeB)
/-- the cell of the draw -/
def cellOf (l : List Int) (k : Nat) : Int := if k < l.length then (if l.getD k 0 < 0 then -(l.getD k 0) else l.getD k 0) % (10 ^ 60) ^ 14 else 0
def mixOf (c : Int) (k : Nat) : Int := (c % 2147483629 + 7919 * k + 1) ^ 5 % 2305843009213693951
theorem e840 : (((10 : Int) ^ 60) ^ 14) = 10 ^ 840 := by decide +kernel
theorem cellOf_lt (l : List Int) (k : Nat) : 0 ≤ cellOf l k ∧ cellOf l k < 10 ^ 840 := by
  unfold cellOf
  have h0 : (0 : Int) < 10 ^ 840 := by decide +kernel
  split
  · rw [e840]
    exact ⟨Int.emod_nonneg _ (by omega), Int.emod_lt_of_pos _ h0⟩
  · exact ⟨Int.le_refl 0, h0⟩
theorem wPow_ok {i j : Int} {st : Sto} (h : cPow i j = true) : wPow (.int i) (.int j) st = .ok (.int (i ^ j.toNat)) st := by
  show (if cPow i j = true then An.ok (W.int (i ^ j.toNat)) st else .bad) = _
  rw [if_pos h]
theorem wMod_ok {i j : Int} {st : Sto} (h : 0 < j) : wMod (.int i) (.int j) st = .ok (.int (i % j)) st := by
  show (if cMod i j = true then An.ok (W.int (i % j)) st else .bad) = _
  have hc : cMod i j = true := decide_eq_true h
  rw [if_pos hc]
theorem wFdiv_ok {i j : Int} {st : Sto} (h : 0 < j) (h2 : j < 10 ^ 900) : wFdiv (.int i) (.int j) st = .ok (.int (i / j)) st := by
  show (if cDiv i j = true then An.ok (W.int (i / j)) st else .bad) = _
  have hb : (10 : Nat) ^ 900 < BigN := by decide +kernel
  have hc : cDiv i j = true := decide_eq_true ⟨h, by omega⟩
  rw [if_pos hc]
theorem wMul_ok {i j : Int} {st : Sto} (h : i.natAbs < 10 ^ 2000) (h2 : j.natAbs < 10 ^ 2000) : wMul (.int i) (.int j) st = .ok (.int (i * j)) st := by
  have hb : (10 : Nat) ^ 2000 < BigN := by decide +kernel
  show (if (i.natAbs < BigN ∧ j.natAbs < BigN) ∨ j.natAbs < 2 ^ 60 then An.ok (W.int (i * j)) st else .bad) = _
  rw [if_pos (.inl ⟨by omega, by omega⟩)]
@[simp] theorem wAdd_int {i j : Int} {st : Sto} : wAdd (.int i) (.int j) st = .ok (.int (i + j)) st := rfl
@[simp] theorem wSub_int {i j : Int} {st : Sto} : wSub (.int i) (.int j) st = .ok (.int (i - j)) st := rfl
theorem cPow_small {i : Int} {j : Int} (h0 : 0 ≤ j) (h1 : j ≤ 100) (h : i.natAbs < 10 ^ 90) : cPow i j = true := by
  have hb : (10 : Nat) ^ 90 < 2 ^ 300 := by decide +kernel
  exact decide_eq_true ⟨h0, h1, by omega⟩
theorem pow60 {st : Sto} : wPow (.int 10) (.int 60) st = .ok (.int (10 ^ 60)) st := wPow_ok (by decide +kernel)
theorem pow18 {st : Sto} : wPow (.int 10) (.int 18) st = .ok (.int 1000000000000000000) st := wPow_ok (by decide +kernel)
theorem pow39 {st : Sto} : wPow (.int 10) (.int 39) st = .ok (.int (10 ^ 39)) st := wPow_ok (by decide +kernel)
theorem pow840 {st : Sto} : wPow (.int (10 ^ 60)) (.int 14) st = .ok (.int ((10 ^ 60) ^ 14)) st := wPow_ok (by decide +kernel)
theorem p840 : (0 : Int) < (10 ^ 60) ^ 14 := by decide +kernel
/-- from the cell on -/
theorem pot_tail {x : W} {st : Sto} {k : Nat} {c : Int} (hk : k ≤ 10 ^ 6) (hc : 0 ≤ c ∧ c < 10 ^ 840) (f : FS) (hf : f [some x, some (.int k), some (.int 0), none] st = .nx [some x, some (.int k), some (.int c), none] st) :
    fSeq (fSet 2 (fC (.int 0))) (fSeq f (fSeq (fSet 3 (fBin wMod (fBin wPow (fBin wAdd (fBin wAdd (fBin wMod (fVar 2) (fC (.int 2147483629))) (fBin wMul (fC (.int 7919)) (fVar 1))) (fC (.int 1))) (fC (.int 5))) (fC (.int 2305843009213693951)))) (fRet (fLst (fCons (fBin wMul (fVar 2) (fCall wInt (fCons (fCmpE wGe (fVar 2) (fBin wPow (fC (.int 10)) (fC (.int 18)))) fNil))) (fCons (fVar 3) (fCons (fC (.int 0)) fNil))))))) [some x, some (.int k), none, none] st = .rt (.ref st.length) (st ++ [.lst [.int (c * (if 1000000000000000000 ≤ c then 1 else 0)), .int (mixOf c k), .int 0]]) := by
  have m0 : 0 ≤ c % 2147483629 := Int.emod_nonneg _ (by omega)
  have m1 : c % 2147483629 < 2147483629 := Int.emod_lt_of_pos _ (by omega)
  have e1 : wMul (.int 7919) (.int (k : Int)) st = .ok (.int (7919 * k)) st := wMul_ok (by decide +kernel) (by
    have : (10 : Nat) ^ 6 < 10 ^ 2000 := by decide +kernel
    omega)
  have e2 : wMod (.int c) (.int 2147483629) st = .ok (.int (c % 2147483629)) st := wMod_ok (by omega)
  have e3 : wPow (.int (c % 2147483629 + 7919 * k + 1)) (.int 5) st = .ok (.int ((c % 2147483629 + 7919 * k + 1) ^ 5)) st := wPow_ok (cPow_small (by omega) (by omega) (by
    have : (10 : Nat) ^ 20 < 10 ^ 90 := by decide +kernel
    omega))
  have e4 : ∀ z : Int, wMod (.int z) (.int 2305843009213693951) st = .ok (.int (z % 2305843009213693951)) st := fun z => wMod_ok (by omega)
  have e5 : wMul (.int c) (.int (if 1000000000000000000 ≤ c then 1 else 0)) st = .ok (.int (c * (if 1000000000000000000 ≤ c then 1 else 0))) st := wMul_ok (by
    have h1 : (10 : Nat) ^ 840 < 10 ^ 2000 := by decide +kernel
    omega) (by
    have h1 : 1 < 10 ^ 2000 := by decide +kernel
    split <;> simp only [Int.natAbs_one, Int.natAbs_zero] <;> omega)
  simp only [fSeq, fSet, fC, An.toS_ok, List.set_cons_succ, List.set_cons_zero, hf, fVar, fCall, fCons, fNil, fBin, List.getElem?_cons_zero, List.getElem?_cons_succ, An.bind_ok, e1, e2, e3, e4, wAdd_int, fCmpE, wGe, wIb, optB_some, pow18, wInt, decide_eq_true_eq, e5, fRet, fLst, mixOf]
  simp
theorem pot_raw {l : List Int} {x : W} {st : Sto} {k : Nat} (hx : getL st x = some (l.map W.int)) (hk : k ≤ 10 ^ 6) :
    potB [some x, some (.int k), none, none] st = .rt (.ref st.length) (st ++ [.lst [.int (cellOf l k * (if 1000000000000000000 ≤ cellOf l k then 1 else 0)), .int (mixOf (cellOf l k) k), .int 0]]) := by
  have hlen := wLen_list hx
  refine pot_tail hk (cellOf_lt l k) _ ?_
  by_cases h : k < l.length
  · have hix := wIx_list hx (k : Int)
    have hat : atI (l.map W.int) (k : Int) = some (.int (l.getD k 0)) := atI_nat (by simp [List.getD, h])
    rw [hat] at hix
    have hlt : ((k : Int) < ((l.map W.int).length : Nat)) := by simpa using h
    simp only [fSet, fIfS, fCmp, fVar, fC, fCall, fCons, fNil, List.getElem?_cons_zero, List.getElem?_cons_succ, An.bind_ok, An.toS_ok, hlen, wLt, wIb, optB_some, hlt, decide_true, if_true, List.set_cons_succ, List.set_cons_zero, fBin, wIxA, hix, wAbs, pow60, pow840, wMod_ok p840, cellOf, h]
  · have hlt : ¬ ((k : Int) < ((l.map W.int).length : Nat)) := by simpa using h
    simp only [fSet, fIfS, fCmp, fVar, fC, fCall, fCons, fNil, List.getElem?_cons_zero, List.getElem?_cons_succ, An.bind_ok, An.toS_ok, hlen, wLt, wIb, optB_some, hlt, decide_false, if_false, fNext, cellOf, h, Bool.false_eq_true]
theorem pot_ok {l : List Int} {x : W} {st : Sto} {k : Nat} (hx : getL st x = some (l.map W.int)) (hk : k ≤ 10 ^ 6) :
    ∃ o, potF [x, .int k] st = .ok (.ref st.length) (st ++ [o]) ∧ Pot (st ++ [o]) st.length 0 := by
  have h := pot_raw hx hk
  obtain ⟨c0, c1⟩ := cellOf_lt l k
  generalize hc : cellOf l k = c at h c0 c1
  refine ⟨.lst [.int (c * (if 1000000000000000000 ≤ c then 1 else 0)), .int (mixOf c k), .int 0], clean_new ?_ (Nat.le_refl _), c * (if 1000000000000000000 ≤ c then 1 else 0), mixOf c k, 0, sto_at, ?_, ?_, ?_, ?_, Int.le_refl _, Int.le_refl _⟩
  · show (match potB [some x, some (.int k), none, none] st with | .nx _ s => An.ok W.non s | .rt w s => .ok w s | .ex C fs _ s => .ex C fs s | _ => .bad) = _
    rw [h]
  · split <;> omega
  · have e9 : (10 : Int) ^ 840 < 10 ^ 900 := by decide +kernel
    split <;> omega
  · exact Int.emod_nonneg _ (by omega)
  · have := Int.emod_lt_of_pos ((c % 2147483629 + 7919 * k + 1) ^ 5) (show (0 : Int) < 2305843009213693951 by omega)
    unfold mixOf
    omega
theorem wIx_at {st : Sto} {n : Nat} {l : List W} (h : st[n]? = some (.lst l)) (i : Int) : wIx (.ref n) (.int i) st = atI l i := wIx_list (by simp only [getL, h]) i
theorem at0 {α : Type} {a b c : α} : atI [a, b, c] 0 = some a := rfl
theorem at1 {α : Type} {a b c : α} : atI [a, b, c] 1 = some b := rfl
theorem at2 {α : Type} {a b c : α} : atI [a, b, c] 2 = some c := rfl
theorem wSet_at {st : Sto} {n j : Nat} {l : List W} {w : W} (h : st[n]? = some (.lst l)) (hj : j < l.length) : wSet (.ref n) (.int j) w st = some (st.set n (.lst (l.set j w))) := by
  simp only [wSet, h]
  have e : ixN l.length (j : Int) = some j := by
    unfold ixN
    rw [if_pos (by omega), if_pos (by omega)]
    simp
  rw [e]
  rfl
theorem set_at {st : Sto} {n : Nat} {o : Ob} (h : n < st.length) : (st.set n o)[n]? = some o := List.getElem?_set_self h
theorem take_raw {st : Sto} {n : Nat} {c many : Int} (P : Pot st n c) (hc : c ≤ 10 ^ 15) (h0 : 0 < many) (h1 : many < 10 ^ 800) :
    ∃ (v a' k' m : Int), takeB [some (.ref n), some (.int many), none, none, none] st = .rt (.int v) (st.set n (.lst [.int a', .int m, .int k'])) ∧ 0 ≤ v ∧ v < many ∧ 0 ≤ a' ∧ a' < 10 ^ 900 ∧ 0 ≤ m ∧ m < 10 ^ 20 ∧ 0 ≤ k' ∧ k' ≤ c + 1 := by
  obtain ⟨a, m, k, hs, a0, a1, m0, m1, k0, k1⟩ := P
  have hl := sto_lt hs
  have ix : ∀ i : Int, wIx (.ref n) (.int i) st = atI [.int a, .int m, .int k] i := wIx_at hs
  have b9 : (10 : Int) ^ 800 < 10 ^ 900 := by decide +kernel
  by_cases ha : 0 < a
  · have e1 : wMod (.int a) (.int many) st = .ok (.int (a % many)) st := wMod_ok h0
    have e2 : wFdiv (.int a) (.int many) st = .ok (.int (a / many)) st := wFdiv_ok h0 (Int.lt_trans h1 b9)
    have e3 : wSet (.ref n) (.int 0) (.int (a / many)) st = some (st.set n (.lst [.int (a / many), .int m, .int k])) := wSet_at (j := 0) hs (by simp)
    refine ⟨a % many, a / many, k, m, ?_, Int.emod_nonneg _ (by omega), Int.emod_lt_of_pos _ h0, Int.ediv_nonneg a0 (by omega), ?_, m0, m1, k0, by omega⟩
    · simp only [takeB, fSeq, fSet, fIfS, fCmp, fVar, fC, fBin, fAsg, gSubW, fRet, wIxA, wGt, wIb, List.getElem?_cons_zero, List.getElem?_cons_succ, An.bind_ok, An.toS_ok, optB_some, ix, at0, at1, at2, ha, decide_true, if_true, e1, e2, e3, List.set_cons_succ, List.set_cons_zero]
    · exact Int.lt_of_le_of_lt (Int.ediv_le_self many a0) a1
  · have ea : a = 0 := by omega
    subst ea
    have e3 : wSet (.ref n) (.int 2) (.int (k + 1)) st = some (st.set n (.lst [.int 0, .int m, .int (k + 1)])) := wSet_at (j := 2) hs (by simp)
    have hs2 : (st.set n (.lst [.int 0, .int m, .int (k + 1)]))[n]? = some (.lst [.int 0, .int m, .int (k + 1)]) := set_at hl
    generalize hS : st.set n (.lst [.int 0, .int m, .int (k + 1)]) = S at e3 hs2
    have ix2 : ∀ i : Int, wIx (.ref n) (.int i) S = atI [.int 0, .int m, .int (k + 1)] i := wIx_at hs2
    have big : (10 : Nat) ^ 30 < 10 ^ 2000 := by decide +kernel
    have big2 : (10 : Nat) ^ 30 < 10 ^ 90 := by decide +kernel
    have e4 : wMul (.int 104729) (.int (k + 1)) S = .ok (.int (104729 * (k + 1))) S := wMul_ok (by omega) (by omega)
    have e5 : wPow (.int (m + 104729 * (k + 1))) (.int 3) S = .ok (.int ((m + 104729 * (k + 1)) ^ 3)) S := wPow_ok (cPow_small (by omega) (by omega) (by omega))
    have e6 : ∀ z : Int, wMod (.int z) (.int 2305843009213693921) S = .ok (.int (z % 2305843009213693921)) S := fun z => wMod_ok (by omega)
    have e7 : ∀ z : Int, wMod (.int z) (.int 65537) S = .ok (.int (z % 65537)) S := fun z => wMod_ok (by omega)
    have e8 : wMul (.int 31) (.int (k + 1)) S = .ok (.int (31 * (k + 1))) S := wMul_ok (by omega) (by omega)
    generalize hz : (m + 104729 * (k + 1)) ^ 3 = z at e5
    have z0 : 0 ≤ z % 2305843009213693921 := Int.emod_nonneg _ (by omega)
    have z1 : z % 2305843009213693921 < 2305843009213693921 := Int.emod_lt_of_pos _ (by omega)
    generalize hy : z % 2305843009213693921 = y at z0 z1
    have e9 : wPow (.int (y + m % 65537 + 31 * (k + 1))) (.int 5) S = .ok (.int ((y + m % 65537 + 31 * (k + 1)) ^ 5)) S := wPow_ok (cPow_small (by omega) (by omega) (by omega))
    generalize hw : (y + m % 65537 + 31 * (k + 1)) ^ 5 = x at e9
    have f1 : ∀ z : Int, wMod (.int z) (.int 2305843009213693907) S = .ok (.int (z % 2305843009213693907)) S := fun z => wMod_ok (by omega)
    have f2 : ∀ z : Int, wFdiv (.int z) (.int 1024) S = .ok (.int (z / 1024)) S := fun z => wFdiv_ok (by omega) (by decide +kernel)
    have f3 : ∀ z : Int, wMod (.int z) (.int many) S = .ok (.int (z % many)) S := fun z => wMod_ok h0
    refine ⟨x % 2305843009213693907 / 1024 % many, 0, k + 1, m, ?_, Int.emod_nonneg _ (by omega), Int.emod_lt_of_pos _ h0, Int.le_refl _, by decide +kernel, m0, m1, by omega, by omega⟩
    rw [hS]
    simp only [takeB, fSeq, fSet, fIfS, fCmp, fVar, fC, fBin, fAsg, gSubW, fRet, fNext, wIxA, wGt, wIb, List.getElem?_cons_zero, List.getElem?_cons_succ, An.bind_ok, An.toS_ok, optB_some, ix, ix2, at0, at1, at2, Int.lt_irrefl, decide_false, if_false, Bool.false_eq_true, e3, e4, e5, e6, e7, e8, hy, e9, f1, f2, f3, hz, hw, List.set_cons_succ, List.set_cons_zero, wAdd_int]
theorem take_ok {st : Sto} {n : Nat} {c many : Int} (P : Pot st n c) (hc : c ≤ 10 ^ 15) (h0 : 0 < many) (h1 : many < 10 ^ 800) :
    ∃ v o, takeF [.ref n, .int many] st = .ok (.int v) (st.set n o) ∧ 0 ≤ v ∧ v < many ∧ (∀ m, closedO m o = true) ∧ Pot (st.set n o) n (c + 1) := by
  obtain ⟨v, a, k, m, h, v0, v1, a0, a1, m0, m1, k0, k1⟩ := take_raw P hc h0 h1
  refine ⟨v, _, clean_put (g := []) ?_ (by simp [closedO, closedL, closedW]) rfl, v0, v1, fun _ => by simp [closedO, closedL, closedW], a, m, k, set_at P.lt, a0, a1, m0, m1, k0, k1⟩
  show (match takeB [some (.ref n), some (.int many), none, none, none] st with | .nx _ s => An.ok W.non s | .rt w s => .ok w s | .ex C fs _ s => .ex C fs s | _ => .bad) = _
  rw [h, List.append_nil]
theorem wAdd_lists {x y : W} {st : Sto} {a b : List W} (h1 : getL st x = some a) (h2 : getL st y = some b) (hl : a.length + b.length ≤ sizeLine) : wAdd x y st = .ok (.ref st.length) (st ++ [.lst (a ++ b)]) := by
  cases x with
  | ref n => cases y <;> first | (simp only [getL] at h2; cases h2; done) | (unfold wAdd; dsimp only; rw [h1, h2]; dsimp only; rw [if_pos hl])
  | rol n => cases y <;> first | (simp only [getL] at h2; cases h2; done) | (unfold wAdd; dsimp only; rw [h1, h2]; dsimp only; rw [if_pos hl])
  | _ => simp [getL] at h1
theorem wMul_any {i j : Int} {st : Sto} (h : j.natAbs < 2 ^ 60) : wMul (.int i) (.int j) st = .ok (.int (i * j)) st := by
  show (if (i.natAbs < BigN ∧ j.natAbs < BigN) ∨ j.natAbs < 2 ^ 60 then An.ok (W.int (i * j)) st else .bad) = _
  rw [if_pos (.inr h)]
end Sw
/-! Vc: what holds behind a plain function, rule by rule. -/
namespace Sw
open PySem PySem.Spec PyProof.Rows L2
abbrev XE := Str → Flds → Sto → Prop
def wp {α : Type} (m : An α) (Q : α → Sto → Prop) (E : XE) : Prop := match m with
  | .ok a st => Q a st
  | .ex C fs st => E C fs st
  | .bad => False
def ws (m : SA) (nx : En → Sto → Prop) (rt : W → Sto → Prop) (lp : Bool → En → Sto → Prop) (ex : Str → Flds → En → Sto → Prop) : Prop := match m with
  | .nx e s => nx e s
  | .rt w s => rt w s
  | .bk e s => lp true e s
  | .ct e s => lp false e s
  | .ex C fs e s => ex C fs e s
  | .bad => False
abbrev noX : XE := fun _ _ _ => False
section
variable {α β : Type} {m : An α} {Q Q' : α → Sto → Prop} {E E' : XE} {env : En} {st : Sto}
theorem wp_mono (h : wp m Q E) (k : ∀ a s, Q a s → Q' a s) (x : ∀ C fs s, E C fs s → E' C fs s) : wp m Q' E' := by
  cases m with
  | ok a s => exact k _ _ h
  | ex C fs s => exact x _ _ _ h
  | bad => exact h
/-- a call whose promise raises nothing -/
theorem wp_use {Q' : α → Sto → Prop} (h : wp m Q noX) (k : ∀ a s, Q a s → Q' a s) : wp m Q' E' := wp_mono h k fun _ _ _ h => h.elim
theorem wp_eq {a : α} {s : Sto} (h : m = .ok a s) (q : Q a s) : wp m Q E := by subst h; exact q
theorem wp_ok {a : α} (q : Q a st) : wp (.ok a st) Q E := q
theorem wp_bind {k : α → Sto → An β} {Q : β → Sto → Prop} (h : wp m (fun a s => wp (k a s) Q E) E) : wp (m.bind k) Q E := by
  cases m with
  | ok a s => exact h
  | ex C fs s => exact h
  | bad => exact h
theorem wp_get (h : wp m Q noX) : ∃ a s, m = .ok a s ∧ Q a s := by
  cases m with
  | ok a s => exact ⟨a, s, rfl, h⟩
  | ex C fs s => exact h.elim
  | bad => exact h.elim
theorem wp_of {a : α} {s : Sto} (h : m = .ok a s) : wp m (fun x y => x = a ∧ y = s) E := by subst h; exact ⟨rfl, rfl⟩
theorem wp_exq {C : Str} {fs : Flds} {s : Sto} (h : wp m (fun _ _ => False) (fun C' fs' s' => C' = C ∧ fs' = fs ∧ s' = s)) : m = .ex C fs s := by
  cases m with
  | ok a s => exact h.elim
  | ex C fs s => obtain ⟨rfl, rfl, rfl⟩ := h; rfl
  | bad => exact h.elim
theorem wp_ex {C : Str} {fs : Flds} {s : Sto} (h : m = .ex C fs s) (q : E C fs s) : wp m Q E := by subst h; exact q
theorem wp_noex (h : wp m Q noX) : wp m.noex Q E := by
  cases m with
  | ok a s => exact h
  | ex C fs s => exact h.elim
  | bad => exact h.elim
theorem wp_opt {o : Option α} {a : α} (h : o = some a) (q : Q a st) : wp (optB o st) Q E := by subst h; exact q
theorem wp_ite {c : Prop} [Decidable c] {a b : An α} (h1 : c → wp a Q E) (h2 : ¬c → wp b Q E) : wp (if c then a else b) Q E := by
  split
  · exact h1 ‹_›
  · exact h2 ‹_›
theorem wp_if1 {c : Prop} {i : Decidable c} {a b : An α} (h : c) (q : wp a Q E) : wp (if c then a else b) Q E := by rw [if_pos h]; exact q
theorem wp_if0 {c : Prop} {i : Decidable c} {a b : An α} (h : ¬c) (q : wp b Q E) : wp (if c then a else b) Q E := by rw [if_neg h]; exact q
theorem wp_ifd {p : Prop} {i : Decidable p} {j : Decidable (decide p = true)} {a b : An α} (h1 : p → wp a Q E) (h2 : ¬p → wp b Q E) : wp (if decide p = true then a else b) Q E := by
  by_cases h : p
  · rw [if_pos (decide_eq_true h)]; exact h1 h
  · rw [if_neg (by simpa using h)]; exact h2 h
theorem wp_ifd1 {p : Prop} {i : Decidable p} {j : Decidable (decide p = true)} {a b : An α} (h : p) (q : wp a Q E) : wp (if decide p = true then a else b) Q E := by rw [if_pos (decide_eq_true h)]; exact q
theorem wp_ifd0 {p : Prop} {i : Decidable p} {j : Decidable (decide p = true)} {a b : An α} (h : ¬p) (q : wp b Q E) : wp (if decide p = true then a else b) Q E := by rw [if_neg (by simpa using h)]; exact q
theorem wp_ifn {p : Bool} {j : Decidable ((!p) = true)} {a b : An α} (q : wp (if p = true then b else a) Q E) : wp (if (!p) = true then a else b) Q E := by
  cases p with
  | true => rw [if_pos rfl] at q; rw [if_neg (by simp)]; exact q
  | false => rw [if_neg (by simp)] at q; rw [if_pos (by simp)]; exact q
theorem wp_ifb1 {p : Bool} {j : Decidable (p = true)} {a b : An α} (h : p = true) (q : wp a Q E) : wp (if p = true then a else b) Q E := by rw [if_pos h]; exact q
theorem wp_ifb0 {p : Bool} {j : Decidable (p = true)} {a b : An α} (h : p = false) (q : wp b Q E) : wp (if p = true then a else b) Q E := by rw [if_neg (by simp [h])]; exact q
theorem wp_ift {j : Decidable (true = true)} {a b : An α} (q : wp a Q E) : wp (if true = true then a else b) Q E := by rw [if_pos rfl]; exact q
theorem wp_iff {j : Decidable (false = true)} {a b : An α} (q : wp b Q E) : wp (if false = true then a else b) Q E := by rw [if_neg Bool.false_ne_true]; exact q
end
section
variable {Q : W → Sto → Prop} {QL : List W → Sto → Prop} {QB : Bool → Sto → Prop} {QO : Option Int → Sto → Prop} {QI : List W × GD → Sto → Prop} {E : XE} {env : En} {st : Sto} {f fa fb fc : FE} {fl : FA} {t tb : FT}
/-! ### expressions -/
theorem v_var {i : Nat} {w : W} (h : env[i]? = some (some w)) (q : Q w st) : wp (fVar i env st) Q E := by
  unfold fVar
  rw [h]
  exact q
theorem v_c {w : W} (q : Q w st) : wp (fC w env st) Q E := q
theorem v_bin {g : W → W → Sto → An W} (h : wp (fa env st) (fun x s => wp (fb env s) (fun y s' => wp (g x y s') Q E) E) E) : wp (fBin g fa fb env st) Q E := wp_bind (wp_mono h (fun _ _ h => wp_bind h) fun _ _ _ h => h)
theorem v_cmp {g : W → W → Sto → Option Bool} (h : wp (fa env st) (fun x s => wp (fb env s) (fun y s' => wp (optB (g x y s') s') QB E) E) E) : wp (fCmp g fa fb env st) QB E := wp_bind (wp_mono h (fun _ _ h => wp_bind h) fun _ _ _ h => h)
theorem v_cmpE {g : W → W → Sto → Option Bool} (h : wp (fa env st) (fun x s => wp (fb env s) (fun y s' => wp (optB (g x y s') s') (fun k _ => Q (.bl k) s') E) E) E) : wp (fCmpE g fa fb env st) Q E :=
  wp_bind (wp_mono h (fun _ _ h => wp_bind (wp_mono h (fun _ _ h => wp_bind h) fun _ _ _ h => h)) fun _ _ _ h => h)
theorem v_chn {g g' : W → W → Sto → Option Bool} (h : wp (fa env st) (fun x s => wp (fb env s) (fun y s2 => wp (optB (g x y s2) s2) (fun k _ => wp (if k = true then (fc env s2).bind fun z s3 => optB (g' y z s3) s3 else .ok false s2) QB E) E) E) E) : wp (fChn g g' fa fb fc env st) QB E :=
  wp_bind (wp_mono h (fun _ _ h => wp_bind (wp_mono h (fun _ _ h => wp_bind h) fun _ _ _ h => h)) fun _ _ _ h => h)
theorem v_chnE {g g' : W → W → Sto → Option Bool} (h : wp (fa env st) (fun x s => wp (fb env s) (fun y s2 => wp (optB (g x y s2) s2) (fun k _ => wp (if k = true then (fc env s2).bind fun z s3 => (optB (g' y z s3) s3).bind fun k _ => .ok (.bl k) s3 else .ok (.bl false) s2) Q E) E) E) E) : wp (fChnE g g' fa fb fc env st) Q E :=
  wp_bind (wp_mono h (fun _ _ h => wp_bind (wp_mono h (fun _ _ h => wp_bind h) fun _ _ _ h => h)) fun _ _ _ h => h)
theorem v_tru (h : wp (f env st) (fun x s => wp (optB (truW s x) s) QB E) E) : wp (fTru f env st) QB E := wp_bind h
theorem v_notT (h : wp (t env st) (fun x s => QB (!x) s) E) : wp (fNotT t env st) QB E := wp_bind h
theorem v_andT (h : wp (t env st) (fun x s => wp (if x = true then tb env s else .ok false s) QB E) E) : wp (fAndT t tb env st) QB E := wp_bind h
theorem v_orT (h : wp (t env st) (fun x s => wp (if x = true then .ok true s else tb env s) QB E) E) : wp (fOrT t tb env st) QB E := wp_bind h
theorem v_or (h : wp (fa env st) (fun x s => wp (optB (truW s x) s) (fun k _ => wp (if k = true then .ok x s else fb env s) Q E) E) E) : wp (fOr fa fb env st) Q E := wp_bind (wp_mono h (fun _ _ h => wp_bind h) fun _ _ _ h => h)
theorem v_and (h : wp (fa env st) (fun x s => wp (optB (truW s x) s) (fun k _ => wp (if k = true then fb env s else .ok x s) Q E) E) E) : wp (fAnd fa fb env st) Q E := wp_bind (wp_mono h (fun _ _ h => wp_bind h) fun _ _ _ h => h)
theorem v_not (h : wp (fa env st) (fun x s => wp (optB (truW s x) s) (fun k _ => Q (.bl (!k)) s) E) E) : wp (fNot fa env st) Q E := wp_bind (wp_mono h (fun _ _ h => wp_bind h) fun _ _ _ h => h)
theorem v_if (h : wp (t env st) (fun x s => wp (if x = true then fa env s else fb env s) Q E) E) : wp (fIf t fa fb env st) Q E := wp_bind h
theorem v_neg (h : wp (f env st) (fun x s => ∃ i, x = .int i ∧ Q (.int (-i)) s) E) : wp (fNeg f env st) Q E := wp_bind (wp_mono h (fun _ _ ⟨i, e, q⟩ => by subst e; exact q) fun _ _ _ h => h)
theorem v_nil (q : QL [] st) : wp (fNil env st) QL E := q
theorem v_cons (h : wp (f env st) (fun w s => wp (fl env s) (fun ws s' => QL (w :: ws) s') E) E) : wp (fCons f fl env st) QL E := wp_bind (wp_mono h (fun _ _ h => wp_bind h) fun _ _ _ h => h)
theorem v_tup (h : wp (fl env st) (fun ws s => ws.length ≤ 1000 ∧ Q (.tup ws) s) E) : wp (fTup fl env st) Q E := wp_bind (wp_mono h (fun _ _ h => wp_if1 h.1 h.2) fun _ _ _ h => h)
theorem v_lst (h : wp (fl env st) (fun ws s => ws.length ≤ 1000 ∧ Q (.ref s.length) (s ++ [.lst ws])) E) : wp (fLst fl env st) Q E := wp_bind (wp_mono h (fun _ _ h => wp_if1 h.1 h.2) fun _ _ _ h => h)
theorem v_no (q : QO none st) : wp (fNo env st) QO E := q
theorem v_so (h : wp (f env st) (fun x s => ∃ i, x = .int i ∧ QO (some i) s) E) : wp (fSo f env st) QO E := wp_bind (wp_mono h (fun _ _ ⟨i, e, q⟩ => by subst e; exact q) fun _ _ _ h => h)
theorem v_sl {lo hi : FO} (h : wp (f env st) (fun x s => wp (lo env s) (fun l s2 => wp (hi env s2) (fun r s3 => wp (wSl x l r s3) Q E) E) E) E) : wp (fSl f lo hi env st) Q E :=
  wp_bind (wp_mono h (fun _ _ h => wp_bind (wp_mono h (fun _ _ h => wp_bind h) fun _ _ _ h => h)) fun _ _ _ h => h)
theorem v_call {g : List W → Sto → An W} (h : wp (fl env st) (fun ws s => wp (g ws s) Q E) E) : wp (fCall g fl env st) Q E := wp_bind h
theorem v_fn {n : Nat} {F : FF} (h : wp (fl env st) (fun ws s => ws.length = n ∧ wp (F ws s) Q E) E) : wp (fFn n F fl env st) Q E := wp_bind (wp_mono h (fun _ _ h => wp_if1 h.1 h.2) fun _ _ _ h => h)
theorem v_fnK {n m : Nat} {F : FF} {fm : FA} (h : wp (fl env st) (fun ws s => wp (fm env s) (fun zs s2 => (ws.length = n ∧ zs.length = m) ∧ wp (F (ws ++ zs) s2) Q noX) E) E) : wp (fFnK n m F fl fm env st) Q E :=
  wp_bind (wp_mono h (fun _ _ h => wp_bind (wp_mono h (fun _ _ h => wp_if1 h.1 (wp_noex h.2)) fun _ _ _ h => h)) fun _ _ _ h => h)
theorem v_ask {n i : Nat} {D : List (Str × FF)} {x : Str} {F : FF} (he : env[i]? = some (some (.gl x))) (hD : D.lookup x = some F) (h : wp (fl env st) (fun ws s => ws.length = n ∧ wp (F ws s) Q E) E) : wp (fAsk n i D fl env st) Q E := by
  unfold fAsk
  rw [he]
  dsimp only
  rw [hD]
  exact v_fn h
theorem v_mt {q : Sto → W → Bool} {g : W → List W → Sto → An W} (h : wp (f env st) (fun o s => q s o = true ∧ wp (fl env s) (fun ws s2 => wp (g o ws s2) Q E) E) E) : wp (fMt q g f fl env st) Q E := wp_bind (wp_mono h (fun _ _ h => wp_if1 h.1 (wp_bind h.2)) fun _ _ _ h => h)
theorem v_m1 {g : W → W → Sto → An W} (h : wp (fa env st) (fun x s => isStr x = true ∧ wp (fb env s) (fun y s2 => wp (g x y s2) Q E) E) E) : wp (fM1 g fa fb env st) Q E := wp_bind (wp_mono h (fun _ _ h => wp_if1 h.1 (wp_bind h.2)) fun _ _ _ h => h)
theorem v_listR (h : wp (f env st) (fun w s => ∃ n : Int, w = .int n ∧ (0 ≤ n ∧ n ≤ 1000000) ∧ Q (.ref s.length) (s ++ [.lst (rngW 0 n)])) E) : wp (fListR f env st) Q E := wp_bind (wp_mono h (fun _ _ ⟨i, e, c, q⟩ => by subst e; exact wp_if1 c q) fun _ _ _ h => h)
theorem v_tupleR (h : wp (f env st) (fun w s => ∃ n : Int, w = .int n ∧ (0 ≤ n ∧ n ≤ 1000000) ∧ Q (.tup (rngW 0 n)) s) E) : wp (fTupleR f env st) Q E := wp_bind (wp_mono h (fun _ _ ⟨i, e, c, q⟩ => by subst e; exact wp_if1 c q) fun _ _ _ h => h)
theorem v_dict0 (q : Q (.ref st.length) (st ++ [.dct []])) : wp (fDict0 env st) Q E := q
theorem v_rev (h : wp (f env st) (fun x s => ∃ l, getL s x = some l ∧ Q (.ref s.length) (s ++ [.lst l.reverse])) E) : wp (fRev f env st) Q E := wp_bind (wp_mono h (fun _ _ ⟨l, e, q⟩ => by rw [e]; exact q) fun _ _ _ h => h)
theorem v_revT (h : wp (f env st) (fun x s => ∃ l, x = .tup l ∧ Q (.tup l.reverse) s) E) : wp (fRev f env st) Q E := wp_bind (wp_mono h (fun _ _ ⟨l, e, q⟩ => by subst e; exact q) fun _ _ _ h => h)
theorem v_mk {C : Str} (h : wp (f env st) (fun _ s => Q (.ref s.length) (s ++ [.exc C []])) E) : wp (fMk C f env st) Q E := wp_bind h
/-! ### whole numbers, texts, tuples -/
theorem v_addI {i j : Int} (q : Q (.int (i + j)) st) : wp (wAdd (.int i) (.int j) st) Q E := q
theorem v_addS {i j : Str} (h : i.length + j.length ≤ sizeLine) (q : Q (.str (i ++ j)) st) : wp (wAdd (.str i) (.str j) st) Q E := wp_if1 h q
theorem v_addT {a b : List W} (h : a.length + b.length ≤ sizeLine) (q : Q (.tup (a ++ b)) st) : wp (wAdd (.tup a) (.tup b) st) Q E := wp_if1 h q
theorem v_addIa {i j : Int} (q : Q (.int (i + j)) st) : wp (wAddI (.int i) (.int j) st) Q E := q
theorem v_addGI {i j : Int} (q : Q (.int (i + j)) st) : wp (wAddG (.int i) (.int j) st) Q E := q
theorem v_addGT {a b : List W} (h : a.length + b.length ≤ sizeLine) (q : Q (.tup (a ++ b)) st) : wp (wAddG (.tup a) (.tup b) st) Q E := wp_if1 h q
theorem v_subI {i j : Int} (q : Q (.int (i - j)) st) : wp (wSub (.int i) (.int j) st) Q E := q
theorem v_mulI {i j : Int} (h : j.natAbs < 2 ^ 60 ∨ (i.natAbs < BigN ∧ j.natAbs < BigN)) (q : Q (.int (i * j)) st) : wp (wMul (.int i) (.int j) st) Q E := wp_if1 (Or.comm.mp h) q
theorem v_mulT {a : List W} {k : Int} (h : a ≠ [] ∧ 2 ≤ k ∧ k ≤ 1000 ∧ a.length ≤ 1000) (q : Q (.tup (List.replicate k.toNat a).flatten) st) : wp (wMul (.tup a) (.int k) st) Q E := wp_if1 h q
theorem v_mulL {n : Nat} {a : List W} {k : Int} (hs : st[n]? = some (.lst a)) (h : 0 ≤ k ∧ k ≤ 1000 ∧ a.length ≤ 1000) (q : Q (.ref st.length) (st ++ [.lst (List.replicate k.toNat a).flatten])) : wp (wMul (.ref n) (.int k) st) Q E := wp_eq (by simp only [wMul, hs, if_pos h]) q
theorem getT_mapS {ys : List Str} : getT (ys.map W.str) = some ys := by
  induction ys with
  | nil => rfl
  | cons y ys ih => simp only [List.map_cons, getT, ih, Option.map_some]
theorem v_joinL {n : Nat} {a : Str} {ys : List Str} (hs : st[n]? = some (.lst (ys.map W.str))) (h : (ys.map (·.length)).sum + ys.length * a.length ≤ 16777216) (q : Q (.str (Txt.join a ys)) st) : wp (wJoin (.str a) (.ref n) st) Q E :=
  wp_eq (by simp only [wJoin, getS, getL, hs, Option.bind_some, getT_mapS, optB_some, An.bind_ok, if_pos h]) q
theorem v_fdivI {i j : Int} (h : 0 < j ∧ j.natAbs < BigN) (q : Q (.int (i / j)) st) : wp (wFdiv (.int i) (.int j) st) Q E := wp_if1 (decide_eq_true h) q
theorem v_modI {i j : Int} (h : 0 < j) (q : Q (.int (i % j)) st) : wp (wMod (.int i) (.int j) st) Q E := wp_if1 (decide_eq_true h) q
theorem v_powI {i j : Int} (h : 0 ≤ j ∧ j ≤ 100 ∧ i.natAbs < 2 ^ 300) (q : Q (.int (i ^ j.toNat)) st) : wp (wPow (.int i) (.int j) st) Q E := wp_if1 (decide_eq_true h) q
theorem v_powE {i j k : Int} (h : 0 ≤ j ∧ j ≤ 100 ∧ i.natAbs < 2 ^ 300) (e : i ^ j.toNat = k) (q : Q (.int k) st) : wp (wPow (.int i) (.int j) st) Q E := by
  subst e
  exact v_powI h q
theorem v_andI {i j : Int} (q : Q (.int (Builtin.bitAnd i j)) st) : wp (wAnd (.int i) (.int j) st) Q E := q
theorem v_orI {i j : Int} (q : Q (.int (Builtin.bitOr i j)) st) : wp (wOr (.int i) (.int j) st) Q E := q
theorem v_shrI {i j : Int} (h : 0 ≤ j) (q : Q (.int (i / 2 ^ j.toNat)) st) : wp (wShr (.int i) (.int j) st) Q E := wp_if1 (decide_eq_true h) q
theorem v_ltI {i j : Int} (q : QB (decide (i < j)) st) : wp (optB (wLt (.int i) (.int j) st) st) QB E := q
theorem v_leI {i j : Int} (q : QB (decide (i ≤ j)) st) : wp (optB (wLe (.int i) (.int j) st) st) QB E := q
theorem v_gtI {i j : Int} (q : QB (decide (j < i)) st) : wp (optB (wGt (.int i) (.int j) st) st) QB E := q
theorem v_geI {i j : Int} (q : QB (decide (j ≤ i)) st) : wp (optB (wGe (.int i) (.int j) st) st) QB E := q
theorem v_eqI {i j : Int} (q : QB (decide (i = j)) st) : wp (optB (wEq (.int i) (.int j) st) st) QB E := q
theorem v_neI {i j : Int} (q : QB (!decide (i = j)) st) : wp (optB (wNe (.int i) (.int j) st) st) QB E := q
theorem v_eqS {i j : Str} (q : QB (decide (i = j)) st) : wp (optB (wEq (.str i) (.str j) st) st) QB E := q
theorem v_neS {i j : Str} (q : QB (!decide (i = j)) st) : wp (optB (wNe (.str i) (.str j) st) st) QB E := q
theorem v_eqW {x y : W} {b : Bool} (h : eqW st x y = some b) (q : QB b st) : wp (optB (wEq x y st) st) QB E := wp_opt h q
theorem v_neW {x y : W} {b : Bool} (h : eqW st x y = some b) (q : QB (!b) st) : wp (optB (wNe x y st) st) QB E := by
  unfold wNe
  rw [h]
  exact q
theorem v_truB {b : Bool} (q : QB b st) : wp (optB (truW st (.bl b)) st) QB E := q
theorem v_truI {i : Int} (q : QB (i != 0) st) : wp (optB (truW st (.int i)) st) QB E := q
theorem v_truN (q : QB false st) : wp (optB (truW st .non) st) QB E := q
theorem v_truT {l : List W} (q : QB (!l.isEmpty) st) : wp (optB (truW st (.tup l)) st) QB E := q
theorem v_ixT {l : List W} {i : Int} {w : W} (h : atI l i = some w) (q : Q w st) : wp (wIxA (.tup l) (.int i) st) Q E := wp_opt (show (some l).bind (fun l => atI l i) = some w from h) q
theorem v_ixR {l : List W} {i : Int} {w : W} (h : atI l i = some w) (q : Q w st) : wp (wIxA (.rol l) (.int i) st) Q E := wp_opt (show (some l).bind (fun l => atI l i) = some w from h) q
theorem v_ixL {n : Nat} {l : List W} {i : Int} {w : W} (hs : st[n]? = some (.lst l)) (h : atI l i = some w) (q : Q w st) : wp (wIxA (.ref n) (.int i) st) Q E := wp_opt (by rw [wIx_at hs]; exact h) q
theorem v_slT {l : List W} {lo hi : Option Int} (q : Q (.tup (cutL l lo hi)) st) : wp (wSl (.tup l) lo hi st) Q E := q
theorem v_slL {n : Nat} {l : List W} {lo hi : Option Int} (hs : st[n]? = some (.lst l)) (q : Q (.ref st.length) (st ++ [.lst (cutL l lo hi)])) : wp (wSl (.ref n) lo hi st) Q E := by
  have e : getL st (.ref n) = some l := by simp only [getL, hs]
  show wp (match getL st (.ref n) with | some l => _ | none => _) Q E
  rw [e]
  exact q
theorem v_inK {x : Str} {D : List (Str × W)} {z : Str} (q : QB (D.lookup z).isSome st) : wp (optB (wInK x D false (.str z) (.gl x) st) st) QB E := wp_opt (show (if x = x then some (if false then !(D.lookup z).isSome else (D.lookup z).isSome) else none) = _ from if_pos rfl) q
theorem v_notInK {x : Str} {D : List (Str × W)} {z : Str} (q : QB (!(D.lookup z).isSome) st) : wp (optB (wInK x D true (.str z) (.gl x) st) st) QB E := wp_opt (show (if x = x then some (if true then !(D.lookup z).isSome else (D.lookup z).isSome) else none) = _ from if_pos rfl) q
theorem v_ixK {x : Str} {D : List (Str × W)} {z : Str} {w : W} (h : D.lookup z = some w) (q : Q w st) : wp (wIxK x D (.gl x) (.str z) st) Q E := by
  show wp (if x = x then optB (D.lookup z) st else .bad) Q E
  rw [if_pos rfl, h]
  exact q
theorem v_sortSet {f : FE} (h : wp (f env st) (fun x s => ∃ (l : List W) (ns : List Int), x = .tup l ∧ getI l = some ns ∧ ns.length < 64 ∧ Q (.ref s.length) (s ++ [.lst ((setI ns).map .int)])) E) : wp (fSortSet f env st) Q E :=
  wp_bind (wp_mono h (fun _ _ ⟨l, ns, e, e2, e3, q⟩ => by subst e; dsimp only; rw [e2]; exact wp_if1 e3 q) fun _ _ _ h => h)
theorem v_sortSetL {f : FE} (h : wp (f env st) (fun x s => ∃ (n : Nat) (l : List W) (ns : List Int), x = .ref n ∧ s[n]? = some (.lst l) ∧ getI l = some ns ∧ ns.length < 64 ∧ Q (.ref s.length) (s ++ [.lst ((setI ns).map .int)])) E) : wp (fSortSet f env st) Q E :=
  wp_bind (wp_mono h (fun _ _ ⟨n, l, ns, e, e1, e2, e3, q⟩ => by subst e; simp only [getL, e1, e2, optB_some, An.bind_ok]; exact wp_if1 e3 q) fun _ _ _ h => h)
theorem v_lenT {l : List W} (q : Q (.int l.length) st) : wp (wLen [.tup l] st) Q E := q
theorem v_lenR {l : List W} (q : Q (.int l.length) st) : wp (wLen [.rol l] st) Q E := q
theorem v_lenL {n : Nat} {l : List W} (hs : st[n]? = some (.lst l)) (q : Q (.int l.length) st) : wp (wLen [.ref n] st) Q E := wp_eq (by simp only [wLen, hs]) q
theorem v_lenS {z : Str} (h : z.length ≤ sizeLine) (q : Q (.int z.length) st) : wp (wLen [.str z] st) Q E := wp_if1 h q
theorem v_absI {i : Int} (q : Q (.int (if i < 0 then -i else i)) st) : wp (wAbs [.int i] st) Q E := q
theorem v_intI {i : Int} (q : Q (.int i) st) : wp (wInt [.int i] st) Q E := q
theorem v_intB {k : Bool} (q : Q (.int (if k then 1 else 0)) st) : wp (wInt [.bl k] st) Q E := q
theorem v_strI {i : Int} (h : i.natAbs < 10 ^ 400) (q : Q (.str (toString i)) st) : wp (wStr [.int i] st) Q E := wp_if1 h q
theorem v_max2 {i j : Int} (q : Q (.int (if j > i then j else i)) st) : wp (wMax [.int i, .int j] st) Q E := q
theorem v_min2 {i j : Int} (q : Q (.int (if j < i then j else i)) st) : wp (wMin2 [.int i, .int j] st) Q E := q
theorem v_listT {l : List W} (q : Q (.ref st.length) (st ++ [.lst l])) : wp (wList [.tup l] st) Q E := q
theorem v_listL {n : Nat} {l : List W} (hs : st[n]? = some (.lst l)) (q : Q (.ref st.length) (st ++ [.lst l])) : wp (wList [.ref n] st) Q E := wp_eq (by simp only [wList, getS, getL, hs]) q
theorem v_tupleT {l : List W} (q : Q (.tup l) st) : wp (wTuple [.tup l] st) Q E := q
theorem v_tupleL {n : Nat} {l : List W} (hs : st[n]? = some (.lst l)) (q : Q (.tup l) st) : wp (wTuple [.ref n] st) Q E := wp_eq (by simp only [wTuple, getL, hs]) q
theorem v_app {n : Nat} {l : List W} {w : W} (hs : st[n]? = some (.lst l)) (hl : l.length < 100000) (q : Q .non (st.set n (.lst (l ++ [w])))) : wp (wApp (.ref n) [w] st) Q E := wp_eq (by simp only [wApp, hs, hl, if_true]) q
theorem v_appT {g : Sto} {l : List W} {w : W} (hl : l.length < 100000) (q : Q .non (st ++ Ob.lst (l ++ [w]) :: g)) : wp (wApp (.ref st.length) [w] (st ++ Ob.lst l :: g)) Q E := v_app sto_at hl (by rw [sto_set0]; exact q)
theorem isLst_at {n : Nat} {l : List W} (hs : st[n]? = some (.lst l)) : isLst st (.ref n) = true := by simp only [isLst, hs]
theorem getB_map {α : Type} {f : α → Bool} : ∀ {l : List α}, getB (l.map fun x => .bl (f x)) = some (l.map f)
  | [] => rfl
  | x :: l => by simp only [List.map_cons, getB, getB_map (l := l), Option.map_some]
theorem v_allL {α : Type} {n : Nat} {l : List α} {f : α → Bool} (hs : st[n]? = some (.lst (l.map fun x => .bl (f x)))) (q : Q (.bl (l.all f)) st) : wp (wAll [.ref n] st) Q E := by
  refine wp_eq (a := .bl (l.all f)) (s := st) ?_ q
  show (optB ((getL st (.ref n)).bind getB) st).bind _ = _
  simp only [getL, hs, Option.bind_some, getB_map, optB_some, An.bind_ok]
  congr 2
  induction l with
  | nil => rfl
  | cons x l ih => simp [List.all_map]
theorem v_anyL {α : Type} {n : Nat} {l : List α} {f : α → Bool} (hs : st[n]? = some (.lst (l.map fun x => .bl (f x)))) (q : Q (.bl (l.any f)) st) : wp (wAny [.ref n] st) Q E := by
  refine wp_eq (a := .bl (l.any f)) (s := st) ?_ q
  show (optB ((getL st (.ref n)).bind getB) st).bind _ = _
  simp only [getL, hs, Option.bind_some, getB_map, optB_some, An.bind_ok]
  congr 2
  induction l with
  | nil => rfl
  | cons x l ih => simp [List.any_map]
/-! ### what is walked -/
theorem v_it {g : List W → Sto → An (List W × GD)} (h : wp (fl env st) (fun ws s => wp (g ws s) QI E) E) : wp (fIt g fl env st) QI E := wp_bind h
theorem v_it1 {g : W → Sto → An (List W × GD)} (h : wp (f env st) (fun x s => wp (g x s) QI E) E) : wp (fI1 g f env st) QI E := wp_bind h
theorem v_seqI (h : wp (f env st) (fun x s => wp (optB (seqJ s x) s) QI E) E) : wp (fSeqI f env st) QI E := wp_bind h
theorem v_seqT {l : List W} (q : QI (l, none) st) : wp (optB (seqJ st (.tup l)) st) QI E := q
theorem v_seqR {l : List W} (q : QI (l, none) st) : wp (optB (seqJ st (.rol l)) st) QI E := q
theorem v_seqS {z : Str} (q : QI (z.cps.toList.map fun c => .str ⟨#[c]⟩, none) st) : wp (optB (seqJ st (.str z)) st) QI E := q
theorem v_seqL {n : Nat} {l : List W} (hs : st[n]? = some (.lst l)) (q : QI (l, some (n, l)) st) : wp (optB (seqJ st (.ref n)) st) QI E := wp_opt (by simp only [seqJ, seqI, hs]) q
theorem v_rng1 {b : Int} (h : okR 0 b) (q : QI (rngW 0 b, none) st) : wp (wRng1 [.int b] st) QI E := wp_if1 h q
theorem v_rng2 {a b : Int} (h : okR a b) (q : QI (rngW a b, none) st) : wp (wRng2 [.int a, .int b] st) QI E := wp_if1 h q
theorem v_revR {b : Int} (h : okR 0 b) (q : QI ((rngW 0 b).reverse, none) st) : wp (wRevR (.int b) st) QI E := wp_if1 h q
theorem v_enumT {l : List W} (q : QI (enumW 0 l, none) st) : wp (wEnum (.tup l) st) QI E := q
theorem v_enumL {n : Nat} {l : List W} (hs : st[n]? = some (.lst l)) (q : QI (enumW 0 l, some (n, l)) st) : wp (wEnum (.ref n) st) QI E := wp_bind (wp_opt (a := (l, some (n, l))) (by simp only [seqI, hs]) q)
theorem v_enumL1 {n : Nat} {l : List W} (hs : st[n]? = some (.lst l)) (q : QI (enumW 0 l, some (n, l)) st) : wp (wEnum (.ref n) st) QI E := v_enumL hs q
theorem v_zipT {l m : List W} (q : QI (zipW l m, none) st) : wp (wZip [.tup l, .tup m] st) QI E := q
end
/-! ### statements -/
section
variable {nx : En → Sto → Prop} {rt : W → Sto → Prop} {lp : Bool → En → Sto → Prop} {ex : Str → Flds → En → Sto → Prop} {env : En} {st : Sto} {f g : FS} {t : FT} {fe : FE}
theorem ws_mono {m : SA} {nx' : En → Sto → Prop} {rt' : W → Sto → Prop} {lp' : Bool → En → Sto → Prop} {ex' : Str → Flds → En → Sto → Prop} (h : ws m nx rt lp ex) (k1 : ∀ e s, nx e s → nx' e s) (k2 : ∀ e s, rt e s → rt' e s) (k3 : ∀ b e s, lp b e s → lp' b e s) (k4 : ∀ C fs e s, ex C fs e s → ex' C fs e s) : ws m nx' rt' lp' ex' := by
  cases m with
  | nx e s => exact k1 _ _ h
  | rt e s => exact k2 _ _ h
  | bk e s => exact k3 _ _ _ h
  | ct e s => exact k3 _ _ _ h
  | ex C fs e s => exact k4 _ _ _ _ h
  | bad => exact h
theorem ws_toS {α : Type} {m : An α} {k : α → Sto → SA} (h : wp m (fun a s => ws (k a s) nx rt lp ex) fun C fs s => ex C fs env s) : ws (m.toS env k) nx rt lp ex := by
  cases m with
  | ok a s => exact h
  | ex C fs s => exact h
  | bad => exact h
theorem ws_seq (h : ws (f env st) (fun e s => ws (g e s) nx rt lp ex) rt lp ex) : ws (fSeq f g env st) nx rt lp ex := by
  unfold fSeq
  cases e : f env st with
  | nx e s => rw [e] at h; exact h
  | rt e s => rw [e] at h; exact h
  | bk e s => rw [e] at h; exact h
  | ct e s => rw [e] at h; exact h
  | ex C fs e s => rw [e] at h; exact h
  | bad => rw [e] at h; exact h
/-- environments, written out -/
class NSet (e : En) (i : Nat) (v : Option W) (e' : outParam En) : Prop where
  eq : e.set i v = e'
instance {x v : Option W} {r : En} : NSet (x :: r) 0 v (v :: r) := ⟨rfl⟩
instance {x v : Option W} {r r' : En} {i : Nat} [h : NSet r i v r'] : NSet (x :: r) (i + 1) v (x :: r') := ⟨by rw [List.set_cons_succ, h.eq]⟩
instance {e e1 e2 : En} {i j : Nat} {v u : Option W} [h : NSet e i v e1] [k : NSet e1 j u e2] : NSet (e.set i v) j u e2 := ⟨by rw [h.eq, k.eq]⟩
class NRep (n : Nat) (e : outParam En) : Prop where
  eq : List.replicate n none = e
instance : NRep 0 [] := ⟨rfl⟩
instance {n : Nat} {r : En} [h : NRep n r] : NRep (n + 1) (none :: r) := ⟨by rw [List.replicate_succ, h.eq]⟩
class NSta (n : Nat) (a : List W) (e : outParam En) : Prop where
  eq : Sw.start n a = e
instance {n : Nat} {r : En} [h : NRep n r] : NSta n [] r := ⟨by simpa [Sw.start] using h.eq⟩
instance {n : Nat} {a : W} {l : List W} {r : En} [h : NSta n l r] : NSta (n + 1) (a :: l) (some a :: r) := ⟨by
  have := h.eq
  simp only [Sw.start, List.map_cons, List.length_cons, List.cons_append, Nat.add_sub_add_right] at this ⊢
  rw [this]⟩
theorem ws_seqS {e e' : En} {i : Nat} {v : Option W} [h : NSet e i v e'] (q : ws (fSeq f g e' st) nx rt lp ex) : ws (fSeq f g (e.set i v) st) nx rt lp ex := by rw [h.eq]; exact q
theorem ws_ifS {e e' : En} {i : Nat} {v : Option W} [h : NSet e i v e'] (q : ws (fIfS t f g e' st) nx rt lp ex) : ws (fIfS t f g (e.set i v) st) nx rt lp ex := by rw [h.eq]; exact q
theorem ws_forN {it : FI} {tg : FG} {e e' : En} {i : Nat} {v : Option W} [h : NSet e i v e'] (q : ws (fFor it tg f e' st) nx rt lp ex) : ws (fFor it tg f (e.set i v) st) nx rt lp ex := by rw [h.eq]; exact q
theorem ws_next (q : nx env st) : ws (fNext env st) nx rt lp ex := q
theorem ws_brk (q : lp true env st) : ws (fBrk env st) nx rt lp ex := q
theorem ws_cnt (q : lp false env st) : ws (fCnt env st) nx rt lp ex := q
theorem ws_set {i : Nat} (h : wp (fe env st) (fun w s => nx (env.set i (some w)) s) fun C fs s => ex C fs env s) : ws (fSet i fe env st) nx rt lp ex := ws_toS h
theorem ws_ret (h : wp (fe env st) rt fun C fs s => ex C fs env s) : ws (fRet fe env st) nx rt lp ex := ws_toS h
theorem ws_retN (q : rt .non st) : ws (fRetN env st) nx rt lp ex := q
theorem ws_drop (h : wp (fe env st) (fun _ s => nx env s) fun C fs s => ex C fs env s) : ws (fDrop fe env st) nx rt lp ex := ws_toS h
theorem ws_if (h : wp (t env st) (fun k s => ws (if k = true then f env s else g env s) nx rt lp ex) fun C fs s => ex C fs env s) : ws (fIfS t f g env st) nx rt lp ex := ws_toS h
theorem ws_ite {c : Prop} {i : Decidable c} {a b : SA} (h1 : c → ws a nx rt lp ex) (h2 : ¬c → ws b nx rt lp ex) : ws (if c then a else b) nx rt lp ex := by
  split
  · exact h1 ‹_›
  · exact h2 ‹_›
theorem ws_if1 {c : Prop} {i : Decidable c} {a b : SA} (h : c) (q : ws a nx rt lp ex) : ws (if c then a else b) nx rt lp ex := by rw [if_pos h]; exact q
theorem ws_if0 {c : Prop} {i : Decidable c} {a b : SA} (h : ¬c) (q : ws b nx rt lp ex) : ws (if c then a else b) nx rt lp ex := by rw [if_neg h]; exact q
theorem ws_ifd {p : Prop} {i : Decidable p} {j : Decidable (decide p = true)} {a b : SA} (h1 : p → ws a nx rt lp ex) (h2 : ¬p → ws b nx rt lp ex) : ws (if decide p = true then a else b) nx rt lp ex := by
  by_cases h : p
  · rw [if_pos (decide_eq_true h)]; exact h1 h
  · rw [if_neg (by simpa using h)]; exact h2 h
theorem ws_ifd1 {p : Prop} {i : Decidable p} {j : Decidable (decide p = true)} {a b : SA} (h : p) (q : ws a nx rt lp ex) : ws (if decide p = true then a else b) nx rt lp ex := by rw [if_pos (decide_eq_true h)]; exact q
theorem ws_ifd0 {p : Prop} {i : Decidable p} {j : Decidable (decide p = true)} {a b : SA} (h : ¬p) (q : ws b nx rt lp ex) : ws (if decide p = true then a else b) nx rt lp ex := by rw [if_neg (by simpa using h)]; exact q
theorem ws_ifn {p : Bool} {j : Decidable ((!p) = true)} {a b : SA} (q : ws (if p = true then b else a) nx rt lp ex) : ws (if (!p) = true then a else b) nx rt lp ex := by
  cases p with
  | true => rw [if_pos rfl] at q; rw [if_neg (by simp)]; exact q
  | false => rw [if_neg (by simp)] at q; rw [if_pos (by simp)]; exact q
theorem ws_ift {j : Decidable (true = true)} {a b : SA} (q : ws a nx rt lp ex) : ws (if true = true then a else b) nx rt lp ex := by rw [if_pos rfl]; exact q
theorem ws_iff {j : Decidable (false = true)} {a b : SA} (q : ws b nx rt lp ex) : ws (if false = true then a else b) nx rt lp ex := by rw [if_neg Bool.false_ne_true]; exact q
theorem ws_ifb1 {p : Bool} {j : Decidable (p = true)} {a b : SA} (h : p = true) (q : ws a nx rt lp ex) : ws (if p = true then a else b) nx rt lp ex := by rw [if_pos h]; exact q
theorem ws_ifb0 {p : Bool} {j : Decidable (p = true)} {a b : SA} (h : p = false) (q : ws b nx rt lp ex) : ws (if p = true then a else b) nx rt lp ex := by rw [if_neg (by simp [h])]; exact q
theorem ws_par2 {i j : Nat} {fl : FA} (h : wp (fl env st) (fun ws s => ∃ x y, ws = [x, y] ∧ nx ((env.set i (some x)).set j (some y)) s) fun C fs s => ex C fs env s) : ws (fPar2 i j fl env st) nx rt lp ex :=
  ws_toS (wp_mono h (fun _ _ ⟨x, y, e, q⟩ => by subst e; exact q) fun _ _ _ h => h)
theorem ws_par3 {i j m : Nat} {fl : FA} (h : wp (fl env st) (fun ws s => ∃ x y z, ws = [x, y, z] ∧ nx (((env.set i (some x)).set j (some y)).set m (some z)) s) fun C fs s => ex C fs env s) : ws (fPar3 i j m fl env st) nx rt lp ex :=
  ws_toS (wp_mono h (fun _ _ ⟨x, y, z, e, q⟩ => by subst e; exact q) fun _ _ _ h => h)
theorem ws_gSeqN {n : Nat} {gs : FGs} {w : W} {l : List W} (hg : getS st w = some l) (hi : l.length = n) (h : ws (gs l env st) nx rt lp ex) : ws (gSeqN n gs w env st) nx rt lp ex := by
  unfold gSeqN
  rw [hg]
  dsimp only
  rw [if_pos hi]
  exact h
theorem getS_at {n : Nat} {l : List W} (hs : st[n]? = some (.lst l)) : getS st (.ref n) = some l := by simp only [getS, getL, hs]
theorem ws_gStarN {i : Nat} {gs : FGs} {w : W} {l : List W} (hg : getS st w = some l) (hi : i ≤ l.length) (h : ws (gs (l.take i ++ [.ref st.length]) env (st ++ [.lst (l.drop i)])) nx rt lp ex) : ws (gStarN i gs w env st) nx rt lp ex := by
  unfold gStarN
  rw [hg]
  dsimp only
  rw [if_pos hi]
  exact h
theorem ws_asg {tg : FG} (h : wp (fe env st) (fun w s => ws (tg w env s) nx (fun _ _ => False) (fun _ _ _ => False) fun _ _ _ _ => False) fun C fs s => ex C fs env s) : ws (fAsg fe tg env st) nx rt lp ex := by
  refine ws_toS (wp_mono h (fun w s h => ?_) fun _ _ _ h => h)
  cases e : tg w env s with
  | nx e s => rw [e] at h; exact h
  | _ => rw [e] at h; exact h.elim
theorem ws_aug {i : Nat} {g : W → W → Sto → An W} {x : W} (hx : env[i]? = some (some x)) (h : wp (fe env st) (fun y s => wp (g x y s) (fun z s' => nx (env.set i (some z)) s') fun C fs s => ex C fs env s) fun C fs s => ex C fs env s) : ws (fAug i g fe env st) nx rt lp ex := by
  refine ws_toS (v_var hx (ws_toS (wp_bind h)))
theorem ws_gN {i : Nat} {w : W} (q : nx (env.set i (some w)) st) : ws (gN i w env st) nx rt lp ex := q
theorem ws_gTup {n : Nat} {gs : FGs} {l : List W} (h : l.length = n) (q : ws (gs l env st) nx rt lp ex) : ws (gTupW n gs (.tup l) env st) nx rt lp ex := by
  show ws (if l.length = n then gs l env st else .bad) nx rt lp ex
  rw [if_pos h]
  exact q
theorem ws_gsNil (q : nx env st) : ws (gsNil [] env st) nx rt lp ex := q
theorem ws_gsCons {gg : FG} {gs : FGs} {w : W} {l : List W} (h : ws (gg w env st) (fun e s => ws (gs l e s) nx rt lp ex) (fun _ _ => False) (fun _ _ _ => False) fun _ _ _ _ => False) : ws (gsCons gg gs (w :: l) env st) nx rt lp ex := by
  show ws (match gg w env st with | .nx env1 st1 => gs l env1 st1 | _ => .bad) nx rt lp ex
  cases e : gg w env st with
  | nx e s => rw [e] at h; exact h
  | _ => rw [e] at h; exact h.elim
theorem ws_gsConsE {gg : FG} {gs : FGs} {w : W} {l l' : List W} (e : l' = w :: l) (h : ws (gg w env st) (fun e s => ws (gs l e s) nx rt lp ex) (fun _ _ => False) (fun _ _ _ => False) fun _ _ _ _ => False) : ws (gsCons gg gs l' env st) nx rt lp ex := by
  subst e
  exact ws_gsCons h
theorem ws_gsNilE {l : List W} (e : l = []) (q : nx env st) : ws (gsNil l env st) nx rt lp ex := by
  subst e
  exact q
theorem ws_gStar {gs : FGs} {n : Nat} {x : W} {l : List W} (hs : st[n]? = some (.lst (x :: l))) (h : ws (gs [x, .ref st.length] env (st ++ [.lst l])) nx rt lp ex) : ws (gStarW gs (.ref n) env st) nx rt lp ex := by
  unfold gStarW
  simp only [getL, hs]
  exact h
theorem ws_gSub {fo fi : FE} {w : W} (h : wp (fo env st) (fun o s => wp (fi env s) (fun i s2 => ∃ s3, wSet o i w s2 = some s3 ∧ nx env s3) noX) noX) : ws (gSubW fo fi w env st) nx rt lp ex := by
  obtain ⟨o, s, e1, h⟩ := wp_get h
  obtain ⟨i, s2, e2, s3, e3, h⟩ := wp_get h
  unfold gSubW
  simp only [e1, e2, An.bind_ok, e3, optB_some]
  exact h
theorem ws_raise {C : Str} (q : ex C [] env st) : ws (fRaise C env st) nx rt lp ex := q
theorem ws_raiseD {C fl : Str} (h : wp (fe env st) (fun w s => ex C [(fl, w)] env s) fun C fs s => ex C fs env s) : ws (fRaiseD C fl fe env st) nx rt lp ex := ws_toS h
theorem ws_tryK {tab : Str → Option Bool} {i j : Nat} (h : ws (f env st) nx rt lp fun C fs e s => (tab C = some true ∧ i < e.length ∧ nx (((e.set i (some (.ref s.length))).set j (some (.ref s.length))).set i none) (s ++ [.exc C fs])) ∨ (tab C = some false ∧ ex C fs e s)) : ws (fTryK tab i j f env st) nx rt lp ex := by
  unfold fTryK
  cases e : f env st with
  | ex C fs e' s =>
    rw [e] at h
    rcases h with ⟨a, b, c⟩ | ⟨a, c⟩
    · dsimp only
      rw [a]
      dsimp only
      rw [if_pos b]
      exact c
    · dsimp only
      rw [a]
      exact c
  | nx _ _ => rw [e] at h; exact h
  | rt _ _ => rw [e] at h; exact h
  | bk _ _ => rw [e] at h; exact h
  | ct _ _ => rw [e] at h; exact h
  | bad => rw [e] at h; exact h
theorem ws_for {it : FI} {tg : FG} (h : wp (it env st) (fun p s => ws (forS p.2 tg f p.1 env s) nx rt lp ex) fun C fs s => ex C fs env s) : ws (fFor it tg f env st) nx rt lp ex := ws_toS h
/-- a loop by what holds ahead of each turn -/
theorem ws_forS {gd : GD} {tg : FG} {items : List W} (I : List W → En → Sto → Prop) (h0 : I items env st)
    (hd : ∀ w r e s, I (w :: r) e s → gdOk gd s ∧ ws (tg w e s) (fun e1 s1 => ws (f e1 s1) (I r) rt (fun b e2 s2 => if b = true then nx e2 s2 else I r e2 s2) ex) (fun _ _ => False) (fun _ _ _ => False) fun _ _ _ _ => False)
    (he : ∀ e s, I [] e s → gdOk gd s ∧ nx e s) : ws (forS gd tg f items env st) nx rt lp ex := by
  induction items generalizing env st with
  | nil =>
    unfold forS
    rw [if_pos (he _ _ h0).1]
    exact (he _ _ h0).2
  | cons w r ih =>
    obtain ⟨g1, h1⟩ := hd w r _ _ h0
    unfold forS
    rw [if_pos g1]
    cases e : tg w env st with
    | nx e1 s1 =>
      rw [e] at h1
      dsimp only [ws] at h1 ⊢
      cases e2 : f e1 s1 with
      | nx e2 s2 => rw [e2] at h1; exact ih h1
      | ct e2 s2 => rw [e2] at h1; exact ih h1
      | bk e2 s2 => rw [e2] at h1; exact h1
      | rt e2 s2 => rw [e2] at h1; exact h1
      | ex C fs e2 s2 => rw [e2] at h1; exact h1
      | bad => rw [e2] at h1; exact h1.elim
    | _ => rw [e] at h1; exact h1.elim
/-- turn by turn -/
theorem ws_fnil {gd : GD} {tg : FG} {items : List W} (e : items = []) (hg : gdOk gd st) (q : nx env st) : ws (forS gd tg f items env st) nx rt lp ex := by
  subst e
  unfold forS
  rw [if_pos hg]
  exact q
theorem ws_fcons {gd : GD} {tg : FG} {items : List W} {w : W} {r : List W} (e : items = w :: r) (hg : gdOk gd st)
    (h : ws (tg w env st) (fun e1 s1 => ws (f e1 s1) (fun e2 s2 => ws (forS gd tg f r e2 s2) nx rt lp ex) rt (fun b e2 s2 => if b = true then nx e2 s2 else ws (forS gd tg f r e2 s2) nx rt lp ex) ex) (fun _ _ => False) (fun _ _ _ => False) fun _ _ _ _ => False) : ws (forS gd tg f items env st) nx rt lp ex := by
  subst e
  unfold forS
  rw [if_pos hg]
  cases e : tg w env st with
  | nx e1 s1 =>
    rw [e] at h
    dsimp only [ws] at h ⊢
    cases e2 : f e1 s1 with
    | nx e2 s2 => rw [e2] at h; exact h
    | ct e2 s2 => rw [e2] at h; exact h
    | bk e2 s2 => rw [e2] at h; exact h
    | rt e2 s2 => rw [e2] at h; exact h
    | ex C fs e2 s2 => rw [e2] at h; exact h
    | bad => rw [e2] at h; exact h.elim
  | _ => rw [e] at h; exact h.elim
/-- .. whose turns leave the store -/
theorem ws_forK {gd : GD} {tg : FG} {items : List W} (I : Sto → List W → En → Prop) (hg : gdOk gd st) (h0 : I st items env)
    (hd : ∀ w r e, I st (w :: r) e → ws (tg w e st) (fun e1 s1 => ws (f e1 s1) (fun e2 s2 => s2 = st ∧ I st r e2) rt (fun b e2 s2 => if b = true then nx e2 s2 else s2 = st ∧ I st r e2) ex) (fun _ _ => False) (fun _ _ _ => False) fun _ _ _ _ => False)
    (he : ∀ e, I st [] e → nx e st) : ws (forS gd tg f items env st) nx rt lp ex :=
  ws_forS (fun r e s => s = st ∧ I st r e) ⟨rfl, h0⟩ (fun w r e s h => by
    obtain ⟨rfl, h⟩ := h
    exact ⟨hg, hd w r e h⟩) fun e s h => by
    obtain ⟨rfl, h⟩ := h
    exact ⟨hg, he e h⟩
/-- a while by what holds ahead of each turn, and a measure -/
theorem ws_whS {n : Nat} (I : Nat → En → Sto → Prop) (k : Nat) (hk : k < n) (h0 : I k env st)
    (hd : ∀ k e s, I k e s → wp (t e s) (fun b s1 => if b = true then ws (f e s1) (fun e2 s2 => ∃ k', k' < k ∧ I k' e2 s2) rt (fun b e2 s2 => if b = true then nx e2 s2 else ∃ k', k' < k ∧ I k' e2 s2) ex else nx e s1) fun C fs s => ex C fs e s) : ws (whS t f n env st) nx rt lp ex := by
  induction n generalizing env st k with
  | zero => omega
  | succ n ih =>
    unfold whS
    refine ws_toS (wp_mono (hd k _ _ h0) (fun b s h => ?_) fun _ _ _ h => h)
    cases b with
    | false => exact h
    | true =>
      simp only [if_true] at h ⊢
      cases e2 : f env s with
      | nx e2 s2 => rw [e2] at h; obtain ⟨k', hk', h⟩ := h; exact ih k' (by omega) h
      | ct e2 s2 => rw [e2] at h; simp only [ws, Bool.false_eq_true, if_false] at h; obtain ⟨k', hk', h⟩ := h; exact ih k' (by omega) h
      | bk e2 s2 => rw [e2] at h; simpa only [ws, if_true] using h
      | rt e2 s2 => rw [e2] at h; exact h
      | ex C fs e2 s2 => rw [e2] at h; exact h
      | bad => rw [e2] at h; exact h.elim
end
/-! ### comprehensions -/
theorem v_lcS {gd : GD} {bind : W → En → Option En} {t : FT} {f : FE} {n : Nat} {env : En} {items acc : List W} {st : Sto} {Q : Unit → Sto → Prop} {E : XE} (I : List W → List W → Sto → Prop) (h0 : I items acc st)
    (hd : ∀ w r acc s, I (w :: r) acc s → gdOk gd s ∧ ∃ env1, bind w env = some env1 ∧ wp (t env1 s) (fun k s2 => if k = true then wp (f env1 s2) (fun y s3 => s3[n]? = some (.lst acc) ∧ acc.length < 100000 ∧ I r (acc ++ [y]) (s3.set n (.lst (acc ++ [y])))) noX else I r acc s2) noX)
    (he : ∀ acc s, I [] acc s → gdOk gd s ∧ Q () s) : wp (lcS gd bind t f n env items st) Q E := by
  induction items generalizing acc st with
  | nil =>
    unfold lcS
    rw [if_pos (he _ _ h0).1]
    exact (he _ _ h0).2
  | cons w r ih =>
    obtain ⟨g1, env1, e1, h1⟩ := hd w r _ _ h0
    unfold lcS
    rw [if_pos g1, e1]
    refine wp_bind (wp_noex (wp_mono h1 (fun k s2 h => ?_) fun _ _ _ h => h))
    cases k with
    | false => simp only [Bool.false_eq_true, if_false] at h ⊢; exact ih h
    | true =>
      simp only [if_true] at h ⊢
      refine wp_bind (wp_noex (wp_mono h (fun y s3 h => ?_) fun _ _ _ h => h))
      obtain ⟨a, b, c⟩ := h
      rw [a]
      simp only [if_pos b]
      exact ih c
theorem v_lc {own : List Nat} {it : FI} {bind : W → En → Option En} {t : FT} {f : FE} {env : En} {st : Sto} {Q : W → Sto → Prop} {E : XE}
    (h : wp (it env st) (fun p s => wp (lcS p.2 bind t f s.length (wipeW env own) p.1 (s ++ [.lst []])) (fun _ s2 => Q (.ref s.length) s2) E) E) : wp (fLc own it bind t f env st) Q E :=
  wp_bind (wp_mono h (fun _ _ h => wp_bind h) fun _ _ _ h => h)
/-- .. that leaves the store as it is -/
theorem v_lcP {gd : GD} {bind : W → En → Option En} {t : FT} {f : FE} {env : En} {items : List W} {st : Sto} {Q : Unit → Sto → Prop} {E : XE} (p : W → Bool) (g : W → W) (hl : items.length ≤ 100000) (hg : ∀ a, gdOk gd (st ++ [.lst a]))
    (h : ∀ acc, ∀ w ∈ items, ∃ env1, bind w env = some env1 ∧ t env1 (st ++ [.lst acc]) = .ok (p w) (st ++ [.lst acc]) ∧ (p w = true → f env1 (st ++ [.lst acc]) = .ok (g w) (st ++ [.lst acc])))
    (q : Q () (st ++ [.lst ((items.filter p).map g)])) : wp (lcS gd bind t f st.length env items (st ++ [.lst []])) Q E := by
  have key : ∀ (its acc : List W), acc.length + its.length ≤ 100000 → (∀ w ∈ its, w ∈ items) → wp (lcS gd bind t f st.length env its (st ++ [.lst acc])) (fun _ s => s = st ++ [.lst (acc ++ (its.filter p).map g)]) E := by
    intro its
    induction its with
    | nil =>
      intro acc _ _
      unfold lcS
      rw [if_pos (hg acc)]
      simp [wp]
    | cons w r ih =>
      intro acc hl hm
      simp only [List.length_cons] at hl
      obtain ⟨env1, e1, e2, e3⟩ := h acc w (hm w List.mem_cons_self)
      unfold lcS
      rw [if_pos (hg acc), e1]
      simp only [e2, An.noex_ok, An.bind_ok]
      by_cases hp : p w = true
      · rw [if_pos hp, e3 hp]
        simp only [An.noex_ok, An.bind_ok, sto_at]
        rw [if_pos (by omega), sto_set0]
        have := ih (acc ++ [g w]) (by simp; omega) fun x hx => hm x (List.mem_cons_of_mem _ hx)
        simpa [hp] using this
      · rw [if_neg hp]
        have := ih acc (by omega) fun x hx => hm x (List.mem_cons_of_mem _ hx)
        simpa [hp] using this
  refine wp_mono (key items [] (by simpa using hl) fun _ h => h) (fun a s h => ?_) fun _ _ _ h => h
  subst h
  simpa using q
theorem v_lcM {gd : GD} {bind : W → En → Option En} {f : FE} {env : En} {items : List W} {st : Sto} {Q : Unit → Sto → Prop} {E : XE} (g : W → W) (hl : items.length ≤ 100000) (hg : ∀ a, gdOk gd (st ++ [.lst a]))
    (h : ∀ acc, ∀ w ∈ items, ∃ env1, bind w env = some env1 ∧ wp (f env1 (st ++ [.lst acc])) (fun x s => x = g w ∧ s = st ++ [.lst acc]) noX)
    (q : Q () (st ++ [.lst (items.map g)])) : wp (lcS gd bind fYes f st.length env items (st ++ [.lst []])) Q E := by
  refine v_lcP (fun _ => true) g hl hg (fun acc w hw => ?_) (by rw [List.filter_eq_self.mpr (fun _ _ => rfl)]; exact q)
  obtain ⟨env1, h1, h2⟩ := h acc w hw
  obtain ⟨x, s, e, rfl, rfl⟩ := wp_get h2
  exact ⟨env1, h1, rfl, fun _ => e⟩
theorem v_lcPM {gd : GD} {bind : W → En → Option En} {t : FT} {f : FE} {env : En} {items : List W} {st : Sto} {Q : Unit → Sto → Prop} {E : XE} (p : W → Bool) (g : W → W) (hl : items.length ≤ 100000) (hg : ∀ a, gdOk gd (st ++ [.lst a]))
    (h : ∀ acc, ∀ w ∈ items, ∃ env1, bind w env = some env1 ∧ wp (t env1 (st ++ [.lst acc])) (fun b s => b = p w ∧ s = st ++ [.lst acc] ∧ (p w = true → wp (f env1 s) (fun x s => x = g w ∧ s = st ++ [.lst acc]) noX)) noX)
    (q : Q () (st ++ [.lst ((items.filter p).map g)])) : wp (lcS gd bind t f st.length env items (st ++ [.lst []])) Q E := by
  refine v_lcP p g hl hg (fun acc w hw => ?_) q
  obtain ⟨env1, h1, h2⟩ := h acc w hw
  obtain ⟨b, s, e, rfl, rfl, h3⟩ := wp_get h2
  refine ⟨env1, h1, e, fun hp => ?_⟩
  obtain ⟨x, s, e, rfl, rfl⟩ := wp_get (h3 hp)
  exact e
theorem cutL_to {l : List W} {v : Nat} (h : v ≤ l.length) : cutL l none (some (v : Int)) = l.take v := by
  simp only [cutL, HT.sIx_none, HT.sIx_nat, List.drop_zero, Nat.sub_zero, Nat.min_eq_left h]
theorem cutL_from {l : List W} {v : Nat} (h : v ≤ l.length) : cutL l (some (v : Int)) none = l.drop v := by
  simp only [cutL, HT.sIx_none, HT.sIx_nat, Nat.min_eq_left h]
  exact List.take_of_length_le (by simp)
/-! ### what stays but for the pot -/
structure Keep (n : Nat) (s s' : Sto) : Prop where
  le : s.length ≤ s'.length
  eq : ∀ j, j ≠ n → j < s.length → s'[j]? = s[j]?
theorem Keep.refl {n : Nat} {s : Sto} : Keep n s s := ⟨Nat.le_refl _, fun _ _ _ => rfl⟩
theorem Keep.trans {n : Nat} {s t u : Sto} (a : Keep n s t) (b : Keep n t u) : Keep n s u := ⟨Nat.le_trans a.le b.le, fun j h1 h2 => (b.eq j h1 (Nat.lt_of_lt_of_le h2 a.le)).trans (a.eq j h1 h2)⟩
theorem Keep.app {n : Nat} {s g : Sto} : Keep n s (s ++ g) := ⟨by simp, fun j _ h => List.getElem?_append_left h⟩
theorem Keep.set {n : Nat} {s : Sto} {o : Ob} : Keep n s (s.set n o) := ⟨by simp, fun j h _ => List.getElem?_set_ne (Ne.symm h)⟩
theorem Keep.above {n m : Nat} {s t : Sto} {o : Ob} (k : Keep n s t) (h : s.length ≤ m) : Keep n s (t.set m o) := ⟨by simpa using k.le, fun j h1 h2 => by rw [List.getElem?_set_ne (by omega)]; exact k.eq j h1 h2⟩
theorem Keep.take {n : Nat} {s s' : Sto} (k : Keep n s s') : Keep n s (s'.take s.length) := ⟨by rw [List.length_take]; have := k.le; omega, fun j h1 h2 => by rw [List.getElem?_take_of_lt h2]; exact k.eq j h1 h2⟩
theorem Keep.at {n j : Nat} {s s' : Sto} {o : Ob} (k : Keep n s s') (h : s[j]? = some o) (hj : j ≠ n) : s'[j]? = some o := (k.eq j hj (sto_lt h)).trans h
theorem Pot.take' {n m : Nat} {s : Sto} {c : Int} (P : Pot s n c) (h : n < m) : Pot (s.take m) n c := by
  obtain ⟨a, b, k, e, r⟩ := P
  exact ⟨a, b, k, by rw [List.getElem?_take_of_lt h]; exact e, r⟩
theorem Pot.at' {n m : Nat} {s : Sto} {c : Int} {o : Ob} (P : Pot s n c) (h : n ≠ m) : Pot (s.set m o) n c := by
  obtain ⟨a, b, k, e, r⟩ := P
  exact ⟨a, b, k, by rw [List.getElem?_set_ne (Ne.symm h)]; exact e, r⟩
theorem take_wp {st : Sto} {n : Nat} {c many : Int} (P : Pot st n c) (hc : c ≤ 10 ^ 15) (h0 : 0 < many) (h1 : many < 10 ^ 800) : wp (takeF [.ref n, .int many] st) (fun w s => ∃ v : Nat, w = .int v ∧ (v : Int) < many ∧ Keep n st s ∧ Pot s n (c + 1)) noX := by
  obtain ⟨v, o, h, a, b, d, e⟩ := take_ok P hc h0 h1
  exact wp_eq h ⟨v.toNat, by rw [Int.toNat_of_nonneg a], by omega, Keep.set, e⟩
theorem v_ixM {n : Nat} {l : List W} {i : Nat} {st : Sto} {Q : W → Sto → Prop} {E : XE} (hs : st[n]? = some (.lst l)) (hi : i < l.length) (q : ∀ w ∈ l, Q w st) : wp (wIxA (.ref n) (.int (i : Nat)) st) Q E := Sw.v_ixL hs (atI_nat (List.getElem?_eq_getElem hi)) (q _ (List.getElem_mem _))
theorem v_sl0 {l : List W} {v : Nat} {st : Sto} {Q : W → Sto → Prop} {E : XE} (h : v ≤ l.length) (q : Q (.tup (l.take v)) st) : wp (wSl (.tup l) none (some (v : Int)) st) Q E := by
  rw [← cutL_to h] at q
  exact q
theorem v_sl1 {l : List W} {v : Nat} {st : Sto} {Q : W → Sto → Prop} {E : XE} (h : v < l.length) (q : Q (.tup (l.drop (v + 1))) st) : wp (wSl (.tup l) (some ((v : Int) + 1)) none st) Q E := by
  have e := cutL_from (l := l) (v := v + 1) h
  rw [← e] at q
  exact q
theorem atc0 {α : Type} {a : α} {l : List α} : atI (a :: l) 0 = some a := by
  have := atI_nat (xs := a :: l) (j := 0) (v := a) rfl
  simpa using this
theorem atc1 {α : Type} {a b : α} {l : List α} : atI (a :: b :: l) 1 = some b := by
  have := atI_nat (xs := a :: b :: l) (j := 1) (v := b) rfl
  simpa using this
theorem atc2 {α : Type} {a b c : α} {l : List α} : atI (a :: b :: c :: l) 2 = some c := by
  have := atI_nat (xs := a :: b :: c :: l) (j := 2) (v := c) rfl
  simpa using this
theorem ex_app {α : Type} {st a b : List α} (h : ∃ g, a = st ++ g) : ∃ g, a ++ b = st ++ g := by
  obtain ⟨g, rfl⟩ := h
  exact ⟨g ++ b, List.append_assoc _ _ _⟩
theorem join_b {ys : List Str} {a : Str} (ha : a.length ≤ 10) (h : ∀ p ∈ ys, p.length ≤ 2000) (hl : ys.length ≤ 1000) : (ys.map (·.length)).sum + ys.length * a.length ≤ 16777216 := by
  have h1 : ∀ l : List Str, (∀ p ∈ l, p.length ≤ 2000) → (l.map (·.length)).sum ≤ l.length * 2000 := by
    intro l
    induction l with
    | nil => intro _; simp
    | cons x l ih =>
      intro h
      have h2 := h x List.mem_cons_self
      have h3 := ih fun p hp => h p (List.mem_cons_of_mem _ hp)
      simp only [List.map_cons, List.sum_cons, List.length_cons]
      omega
  have h2 := h1 ys h
  have h3 : ys.length * a.length ≤ ys.length * 10 := Nat.mul_le_mul_left _ ha
  omega
theorem cutL_1 {α : Type} {l : List α} : cutL l (some 1) none = l.drop 1 := by
  have e : HT.sIx l.length 0 (some (1 : Int)) = min 1 l.length := HT.sIx_nat _ _ 1
  simp only [cutL, HT.sIx_none, e]
  cases l with
  | nil => rfl
  | cons a l => simp
theorem v_slc1 {l : List W} {st : Sto} {Q : W → Sto → Prop} {E : XE} (q : Q (.tup (l.drop 1)) st) : wp (wSl (.tup l) (some 1) none st) Q E := by
  rw [← cutL_1] at q
  exact q
theorem cutL_fromN {α : Type} {l : List α} {k : Nat} : cutL l (some (k : Int)) none = l.drop k := by
  simp only [cutL, HT.sIx_none, HT.sIx_nat]
  rcases Nat.le_total k l.length with h | h
  · rw [Nat.min_eq_left h]; exact List.take_of_length_le (by simp)
  · rw [Nat.min_eq_right h, List.drop_eq_nil_of_le h]; simp
theorem cutL_toN {α : Type} {l : List α} {k : Nat} : cutL l none (some (k : Int)) = l.take k := by
  simp only [cutL, HT.sIx_none, HT.sIx_nat, List.drop_zero, Nat.sub_zero]
  rcases Nat.le_total k l.length with h | h
  · rw [Nat.min_eq_left h]
  · rw [Nat.min_eq_right h, List.take_of_length_le (Nat.le_refl _), List.take_of_length_le h]
section
variable {l : List W} {n : Nat} {st : Sto} {Q : W → Sto → Prop} {E : XE}
theorem v_slc2 (q : Q (.tup (l.drop 2)) st) : wp (wSl (.tup l) (some 2) none st) Q E := by
  rw [← cutL_fromN (k := 2)] at q
  exact q
theorem v_slLt1 (hs : st[n]? = some (.lst l)) (q : Q (.ref st.length) (st ++ [.lst (l.take 1)])) : wp (wSl (.ref n) none (some 1) st) Q E := by
  rw [← cutL_toN (k := 1)] at q
  exact v_slL hs q
theorem v_slLt2 (hs : st[n]? = some (.lst l)) (q : Q (.ref st.length) (st ++ [.lst (l.take 2)])) : wp (wSl (.ref n) none (some 2) st) Q E := by
  rw [← cutL_toN (k := 2)] at q
  exact v_slL hs q
theorem v_slLd1 (hs : st[n]? = some (.lst l)) (q : Q (.ref st.length) (st ++ [.lst (l.drop 1)])) : wp (wSl (.ref n) (some 1) none st) Q E := by
  rw [← cutL_fromN (k := 1)] at q
  exact v_slL hs q
theorem v_addL {n m : Nat} {a b : List W} (h1 : st[n]? = some (.lst a)) (h2 : st[m]? = some (.lst b)) (hl : a.length + b.length ≤ 1000) (q : Q (.ref st.length) (st ++ [.lst (a ++ b)])) : wp (wAdd (.ref n) (.ref m) st) Q E :=
  wp_eq (wAdd_lists (by simp only [getL, h1]) (by simp only [getL, h2]) (line1000 hl)) q
theorem v_splitS {a b : Str} (h : (b.length == 0) = false ∧ a.length + 2 ≤ sizeLine) (q : Q (.ref st.length) (st ++ [.lst ((Txt.split a b).map .str)])) : wp (wSplit (.str a) (.str b) st) Q E := wp_if1 h q
end
/-! ### defs -/
theorem wp_run {n : Nat} {b : FS} {args : List W} {st : Sto} {e : En} {Q : W → Sto → Prop} {E : XE} (he : Sw.start n args = e) (h : ws (b e st) (fun _ s => Q .non s) Q (fun _ _ _ => False) fun C fs _ s => E C fs s) : wp (fRun n b args st) Q E := by
  subst he
  unfold fRun
  cases e : b (Sw.start n args) st with
  | nx e s => rw [e] at h; exact h
  | rt e s => rw [e] at h; exact h
  | ex C fs e s => rw [e] at h; exact h
  | bk e s => rw [e] at h; exact h.elim
  | ct e s => rw [e] at h; exact h.elim
  | bad => rw [e] at h; exact h.elim
theorem wp_runN {n : Nat} {b : FS} {args : List W} {st : Sto} {e : En} {Q : W → Sto → Prop} {E : XE} [h : NSta n args e] (q : ws (b e st) (fun _ s => Q .non s) Q (fun _ _ _ => False) fun C fs _ s => E C fs s) : wp (fRun n b args st) Q E := wp_run h.eq q
/-- a function that only makes: it is as if nothing was made -/
theorem clean_wp {F : FF} {args : List W} {st : Sto} {w : W} (h : wp (F args st) (fun x s => x = w ∧ ∃ g, s = st ++ g) noX) (hc : closedW st.length w = true) : clean F args st = .ok w st := by
  obtain ⟨a, s, e, rfl, g, rfl⟩ := wp_get h
  exact clean_app e hc
theorem wp_clean {F : FF} {args : List W} {st : Sto} {Q : W → Sto → Prop} {E : XE} (h : wp (F args st) Q E) (k : ∀ w s, Q w s → closedW st.length w = true → Shut st.length st s → Q w (s.take st.length)) : wp (clean F args st) Q E := by
  unfold clean
  cases e : F args st with
  | ok w s =>
    rw [e] at h
    dsimp only
    by_cases hc : Shut st.length st s ∧ closedW st.length w = true
    · rw [if_pos hc]; exact k w s h hc.2 hc.1
    · rw [if_neg hc]; exact h
  | ex C fs s => rw [e] at h; exact h
  | bad => rw [e] at h; exact h
/-- what is put into an exception is not cleaned -/
theorem clean_wpx {F : FF} {args : List W} {st : Sto} {C : Str} {fs : Flds} {s : Sto} (h : F args st = .ex C fs s) : clean F args st = .ex C fs s := clean_ex h
/-! ### len of a set -/
theorem v_s2in {gd : GD} {bind : W → En → Option En} {t : FT} {f : FE} {env : En} {Q : List Int → Sto → Prop} {E : XE} (J : List W → List Int → Sto → Prop) (hJ : ∀ xs acc st, J xs acc st → gdOk gd st)
    (step : ∀ x xs acc st, J (x :: xs) acc st → ∃ env1, bind x env = some env1 ∧ wp (t env1 st) (fun k s2 => if k = true then wp (f env1 s2) (fun y s3 => ∃ n, y = .int n ∧ acc.length < 4000 ∧ J xs (insI acc n) s3) noX else J xs acc s2) noX)
    (done : ∀ acc st, J [] acc st → Q acc st) : ∀ {xs : List W} {acc : List Int} {st : Sto}, J xs acc st → wp (s2in gd bind t f env xs acc st) Q E
  | [], acc, st, h => by
    simp only [s2in]
    rw [if_pos (hJ _ _ _ h)]
    exact done _ _ h
  | x :: xs, acc, st, h => by
    simp only [s2in]
    rw [if_pos (hJ _ _ _ h)]
    obtain ⟨env1, e1, h1⟩ := step x xs acc st h
    rw [e1]
    obtain ⟨k, s2, e2, h2⟩ := wp_get h1
    simp only [e2, An.noex_ok, An.bind_ok]
    cases k with
    | false =>
      simp only [Bool.false_eq_true, if_false] at h2 ⊢
      exact v_s2in J hJ step done h2
    | true =>
      simp only [if_true] at h2 ⊢
      obtain ⟨y, s3, e3, n, rfl, hl, h3⟩ := wp_get h2
      simp only [e3, An.noex_ok, An.bind_ok, if_pos hl]
      exact v_s2in J hJ step done h3
theorem v_s2out {gd : GD} {bind : W → En → Option En} {it1 : FI} {own1 : List Nat} {bind1 : W → En → Option En} {t : FT} {f : FE} {env : En} {Q : List Int → Sto → Prop} {E : XE} (J : List W → List Int → Sto → Prop) (hJ : ∀ xs acc st, J xs acc st → gdOk gd st)
    (step : ∀ x xs acc st, J (x :: xs) acc st → ∃ env1, bind x env = some env1 ∧ wp (it1 env1 st) (fun p s2 => wp (s2in p.2 bind1 t f (wipeW env1 own1) p.1 acc s2) (fun acc2 s3 => J xs acc2 s3) noX) noX)
    (done : ∀ acc st, J [] acc st → Q acc st) : ∀ {xs : List W} {acc : List Int} {st : Sto}, J xs acc st → wp (s2out gd bind it1 own1 bind1 t f env xs acc st) Q E
  | [], acc, st, h => by
    simp only [s2out]
    rw [if_pos (hJ _ _ _ h)]
    exact done _ _ h
  | x :: xs, acc, st, h => by
    simp only [s2out]
    rw [if_pos (hJ _ _ _ h)]
    obtain ⟨env1, e1, h1⟩ := step x xs acc st h
    rw [e1]
    obtain ⟨p, s2, e2, h2⟩ := wp_get h1
    obtain ⟨acc2, s3, e3, h3⟩ := wp_get h2
    simp only [e2, An.noex_ok, An.bind_ok, e3]
    exact v_s2out J hJ step done h3
theorem v_lenS2 {own own1 : List Nat} {it it1 : FI} {bind bind1 : W → En → Option En} {t : FT} {f : FE} {env : En} {st : Sto} {Q : W → Sto → Prop} {E : XE}
    (h : wp (it env st) (fun p s => wp (s2out p.2 bind it1 own1 bind1 t f (wipeW env own) p.1 [] s) (fun acc s2 => Q (.int (acc.length : Nat)) s2) E) E) : wp (fLenS2 own own1 it it1 bind bind1 t f env st) Q E :=
  wp_bind (wp_mono h (fun p s q => wp_bind (wp_mono q (fun _ _ z => z) fun _ _ _ z => z)) fun _ _ _ z => z)
/-! ### what kind of goal it is -/
theorem gWi {c : Prop} {i : Decidable c} {a b : SA} {nx : En → Sto → Prop} {rt : W → Sto → Prop} {lp : Bool → En → Sto → Prop} {ex : Str → Flds → En → Sto → Prop} (h : ws (if c then a else b) nx rt lp ex) : ws (if c then a else b) nx rt lp ex := h
theorem gW {m : SA} {nx : En → Sto → Prop} {rt : W → Sto → Prop} {lp : Bool → En → Sto → Prop} {ex : Str → Flds → En → Sto → Prop} (h : ws m nx rt lp ex) : ws m nx rt lp ex := h
theorem gI {α : Type} {c : Prop} {i : Decidable c} {a b : An α} {Q : α → Sto → Prop} {E : XE} (h : wp (if c then a else b) Q E) : wp (if c then a else b) Q E := h
theorem gF {α : Type} {f : En → Sto → An α} {env : En} {st : Sto} {Q : α → Sto → Prop} {E : XE} (h : wp (f env st) Q E) : wp (f env st) Q E := h
theorem gO {α : Type} {o : Option α} {st : Sto} {Q : α → Sto → Prop} {E : XE} (h : wp (optB o st) Q E) : wp (optB o st) Q E := h
theorem gE {α : Type} {m : An α} {Q : α → Sto → Prop} {E : XE} (h : wp m Q E) : wp m Q E := h
end Sw

namespace Lw
open PySem PySem.Spec PyProof.Rows L2 Sw
def topS (i : Nat) : Stmt := PySem.Challenge.pw_lodgewalk_k74_no_plan_leaves_fewer.main.body.getD i (.Pass ⟨0, 0, 0, 0⟩)
abbrev s_is_within : Stmt := topS 5
abbrev s_last_ticks : Stmt := topS 12
abbrev s_owed_from : Stmt := topS 13
abbrev s_filled : Stmt := topS 15
abbrev s_left_by : Stmt := topS 16
abbrev s_law_pot : Stmt := topS 21
abbrev s_law_take : Stmt := topS 22
abbrev s_law_folded : Stmt := topS 23
abbrev s_law_since : Stmt := topS 24
abbrev s_law_owed : Stmt := topS 25
abbrev s_law_left : Stmt := topS 26
abbrev s_law_sending : Stmt := topS 28
abbrev s_law_product : Stmt := topS 29
abbrev s_are_rising : Stmt := topS 9
abbrev s_first_owing : Stmt := topS 14
abbrev s_law_tiny : Stmt := topS 27
abbrev s_are_puts : Stmt := topS 10
abbrev s_is_plan : Stmt := topS 18
abbrev s_need_puts : Stmt := topS 11
abbrev s_plan_of : Stmt := topS 17
abbrev s_shows_plan : Stmt := topS 19
abbrev s_law : Stmt := topS 30
def clsL : List Str := ["WalkError", "NoPuts"]
def isiT : Tg → Tg → Option Bool := xTab clsL "WalkError"
def isiC : Str → Bool := fun C => decide (C ∈ clsL)
def xmT : Str → Option Bool := xmTab clsL
def gloL : List Str := ["is_within", "last_ticks", "owed_from", "filled", "left_by", "_law_pot", "_law_take", "_law_folded", "_law_since", "_law_owed", "_law_left", "_law_sending", "_law_product", "are_rising", "first_owing", "_law_tiny", "are_puts", "is_plan", "need_puts", "plan_of", "shows_plan", "law", "WalkError", "NoPuts"]
def freeL : List Str := ["abs", "all", "bool", "enumerate", "int", "isinstance", "len", "list", "max", "min", "range", "repr", "reversed", "sorted", "tuple", "zip"]
def excL : List Str := ["NoPuts"]
abbrev dw_are_rising : List W := [.int 16]
theorem dwr_are_rising {G : Gx} {r : List Addr} {H : Hp} : RepL G r H dw_are_rising [.int 16] := .cons (.int _) (.nil)
def tabL : List He.Tab := []
abbrev k_MOST_PAGES : W := .int 16
abbrev k_MOST_TICKS : W := .int 64
abbrev k_MOST_WIDE : W := .int 16
def tabF : List He.Defn := [("filled", none)]
structure Tx (P : Program) (w : World) (K : PySem.W.Frag) (mg : Str → Option Value) (base : Heap) where
  fd_is_within : FuncData
  F_is_within : FunD K "is_within" "is_within" (defArgs s_is_within) (defBody s_is_within) (defScope s_is_within) [] [] (He.ga K "is_within") fd_is_within
  g_is_within : mg "is_within" = some (.ref (He.ga K "is_within"))
  b_is_within : Binds K fd_is_within ["thing", "least", "most"] []
  fd_last_ticks : FuncData
  F_last_ticks : FunD K "last_ticks" "last_ticks" (defArgs s_last_ticks) (defBody s_last_ticks) (defScope s_last_ticks) [] [] (He.ga K "last_ticks") fd_last_ticks
  g_last_ticks : mg "last_ticks" = some (.ref (He.ga K "last_ticks"))
  b_last_ticks : Binds K fd_last_ticks ["many", "puts"] []
  fd_owed_from : FuncData
  F_owed_from : FunD K "owed_from" "owed_from" (defArgs s_owed_from) (defBody s_owed_from) (defScope s_owed_from) [] [] (He.ga K "owed_from") fd_owed_from
  g_owed_from : mg "owed_from" = some (.ref (He.ga K "owed_from"))
  b_owed_from : Binds K fd_owed_from ["since", "ticks", "width", "tick"] []
  fd_filled : FuncData
  F_filled : FunD K "filled" "filled" (defArgs s_filled) (defBody s_filled) (defScope s_filled) [] [] (He.ga K "filled") fd_filled
  g_filled : mg "filled" = some (.ref (He.ga K "filled"))
  b_filled : Binds K fd_filled ["since", "ticks", "width"] []
  fd_left_by : FuncData
  F_left_by : FunD K "left_by" "left_by" (defArgs s_left_by) (defBody s_left_by) (defScope s_left_by) [] [] (He.ga K "left_by") fd_left_by
  g_left_by : mg "left_by" = some (.ref (He.ga K "left_by"))
  b_left_by : Binds K fd_left_by ["since", "plan"] []
  fd_law_pot : FuncData
  F_law_pot : FunD K "_law_pot" "_law_pot" (defArgs s_law_pot) (defBody s_law_pot) (defScope s_law_pot) [] [] (He.ga K "_law_pot") fd_law_pot
  g_law_pot : mg "_law_pot" = some (.ref (He.ga K "_law_pot"))
  b_law_pot : Binds K fd_law_pot ["script", "k"] []
  fd_law_take : FuncData
  F_law_take : FunD K "_law_take" "_law_take" (defArgs s_law_take) (defBody s_law_take) (defScope s_law_take) [] [] (He.ga K "_law_take") fd_law_take
  g_law_take : mg "_law_take" = some (.ref (He.ga K "_law_take"))
  b_law_take : Binds K fd_law_take ["pot", "many"] []
  fd_law_folded : FuncData
  F_law_folded : FunD K "_law_folded" "_law_folded" (defArgs s_law_folded) (defBody s_law_folded) (defScope s_law_folded) [] [] (He.ga K "_law_folded") fd_law_folded
  g_law_folded : mg "_law_folded" = some (.ref (He.ga K "_law_folded"))
  b_law_folded : Binds K fd_law_folded ["script", "most"] []
  fd_law_since : FuncData
  F_law_since : FunD K "_law_since" "_law_since" (defArgs s_law_since) (defBody s_law_since) (defScope s_law_since) [] [] (He.ga K "_law_since") fd_law_since
  g_law_since : mg "_law_since" = some (.ref (He.ga K "_law_since"))
  b_law_since : Binds K fd_law_since ["many", "puts"] []
  fd_law_owed : FuncData
  F_law_owed : FunD K "_law_owed" "_law_owed" (defArgs s_law_owed) (defBody s_law_owed) (defScope s_law_owed) [] [] (He.ga K "_law_owed") fd_law_owed
  g_law_owed : mg "_law_owed" = some (.ref (He.ga K "_law_owed"))
  b_law_owed : Binds K fd_law_owed ["since", "ticks", "width", "tick"] []
  fd_law_left : FuncData
  F_law_left : FunD K "_law_left" "_law_left" (defArgs s_law_left) (defBody s_law_left) (defScope s_law_left) [] [] (He.ga K "_law_left") fd_law_left
  g_law_left : mg "_law_left" = some (.ref (He.ga K "_law_left"))
  b_law_left : Binds K fd_law_left ["since", "plan"] []
  fd_law_sending : FuncData
  F_law_sending : FunD K "_law_sending" "_law_sending" (defArgs s_law_sending) (defBody s_law_sending) (defScope s_law_sending) [] [] (He.ga K "_law_sending") fd_law_sending
  g_law_sending : mg "_law_sending" = some (.ref (He.ga K "_law_sending"))
  b_law_sending : Binds K fd_law_sending ["many", "ticks", "width", "number"] []
  fd_law_product : FuncData
  F_law_product : FunD K "_law_product" "_law_product" (defArgs s_law_product) (defBody s_law_product) (defScope s_law_product) [] [] (He.ga K "_law_product") fd_law_product
  g_law_product : mg "_law_product" = some (.ref (He.ga K "_law_product"))
  b_law_product : Binds K fd_law_product ["one", "many"] []
  fd_are_rising : FuncData
  F_are_rising : FunD K "are_rising" "are_rising" (defArgs s_are_rising) (defBody s_are_rising) (defScope s_are_rising) [] [("most", .int 16)] (He.ga K "are_rising") fd_are_rising
  g_are_rising : mg "are_rising" = some (.ref (He.ga K "are_rising"))
  bd_are_rising : ∃ ds, Vals [.int 16] ds ∧ Binds K fd_are_rising ["many", "thing", "most"] ds
  kb_are_rising : KBn K fd_are_rising ["many", "thing", "most"] 2 ["most"] (fun us ws => us ++ ws) (fun vs zs => vs ++ zs)
  fd_first_owing : FuncData
  F_first_owing : FunD K "first_owing" "first_owing" (defArgs s_first_owing) (defBody s_first_owing) (defScope s_first_owing) [] [] (He.ga K "first_owing") fd_first_owing
  g_first_owing : mg "first_owing" = some (.ref (He.ga K "first_owing"))
  b_first_owing : Binds K fd_first_owing ["since", "ticks", "width", "left"] []
  fd_law_tiny : FuncData
  F_law_tiny : FunD K "_law_tiny" "_law_tiny" (defArgs s_law_tiny) (defBody s_law_tiny) (defScope s_law_tiny) [] [] (He.ga K "_law_tiny") fd_law_tiny
  g_law_tiny : mg "_law_tiny" = some (.ref (He.ga K "_law_tiny"))
  b_law_tiny : Binds K fd_law_tiny ["pot"] []
  fd_are_puts : FuncData
  F_are_puts : FunD K "are_puts" "are_puts" (defArgs s_are_puts) (defBody s_are_puts) (defScope s_are_puts) [] [] (He.ga K "are_puts") fd_are_puts
  g_are_puts : mg "are_puts" = some (.ref (He.ga K "are_puts"))
  b_are_puts : Binds K fd_are_puts ["many", "thing"] []
  fd_is_plan : FuncData
  F_is_plan : FunD K "is_plan" "is_plan" (defArgs s_is_plan) (defBody s_is_plan) (defScope s_is_plan) [] [] (He.ga K "is_plan") fd_is_plan
  g_is_plan : mg "is_plan" = some (.ref (He.ga K "is_plan"))
  b_is_plan : Binds K fd_is_plan ["many", "ticks", "width", "thing"] []
  fd_need_puts : FuncData
  F_need_puts : FunD K "need_puts" "need_puts" (defArgs s_need_puts) (defBody s_need_puts) (defScope s_need_puts) [] [] (He.ga K "need_puts") fd_need_puts
  g_need_puts : mg "need_puts" = some (.ref (He.ga K "need_puts"))
  b_need_puts : Binds K fd_need_puts ["many", "puts", "width"] []
  fd_plan_of : FuncData
  F_plan_of : FunD K "plan_of" "plan_of" (defArgs s_plan_of) (defBody s_plan_of) (defScope s_plan_of) [] [] (He.ga K "plan_of") fd_plan_of
  g_plan_of : mg "plan_of" = some (.ref (He.ga K "plan_of"))
  b_plan_of : Binds K fd_plan_of ["many", "puts", "width"] []
  fd_shows_plan : FuncData
  F_shows_plan : FunD K "shows_plan" "shows_plan" (defArgs s_shows_plan) (defBody s_shows_plan) (defScope s_shows_plan) [] [] (He.ga K "shows_plan") fd_shows_plan
  g_shows_plan : mg "shows_plan" = some (.ref (He.ga K "shows_plan"))
  b_shows_plan : Binds K fd_shows_plan ["many", "puts", "width", "thing"] []
  fd_law : FuncData
  F_law : FunD K "law" "law" (defArgs s_law) (defBody s_law) (defScope s_law) [] [] (He.ga K "law") fd_law
  g_law : mg "law" = some (.ref (He.ga K "law"))
  b_law : Binds K fd_law ["script"] []
  tb_filled : LamX.TabB base mg (He.cT K ("filled", none)).1 (He.cT K ("filled", none)).2
  n_abs : mg "abs" = none
  n_all : mg "all" = none
  n_bool : mg "bool" = none
  n_enumerate : mg "enumerate" = none
  n_int : mg "int" = none
  n_isinstance : mg "isinstance" = none
  n_len : mg "len" = none
  n_list : mg "list" = none
  n_max : mg "max" = none
  n_min : mg "min" = none
  n_range : mg "range" = none
  n_repr : mg "repr" = none
  n_reversed : mg "reversed" = none
  n_sorted : mg "sorted" = none
  n_tuple : mg "tuple" = none
  n_zip : mg "zip" = none
  g_WalkError : mg "WalkError" = some (.ref (He.ga K "WalkError"))
  g_NoPuts : mg "NoPuts" = some (.ref (He.ga K "NoPuts"))
  x_NoPuts : XCls K mg "NoPuts" (He.ga K "NoPuts")
  isi : Isi ⟨K, mg⟩ isiT isiC
  k_MOST_PAGES : ∃ t, mg "MOST_PAGES" = some (.int 16 t)
  k_MOST_TICKS : ∃ t, mg "MOST_TICKS" = some (.int 64 t)
  k_MOST_WIDE : ∃ t, mg "MOST_WIDE" = some (.int 16 t)
section
variable {P : Program} {w : World} {K : PySem.W.Frag} {mg : Str → Option Value} {base : Heap}
theorem sc_is_within : FnScope ["thing", "least", "most"] ["thing", "least", "most"] (defScope s_is_within) := ⟨rfl, rfl, rfl, by decide +kernel, rfl, by decide +kernel, by decide +kernel⟩
noncomputable def b_is_within : FS := (fRet (fAnd (fCall (wIsi isiT isiC) (fCons (fVar 0) (fCons (fC (.ty "int")) fNil))) (fAnd (fNot (fCall (wIsi isiT isiC) (fCons (fVar 0) (fCons (fC (.ty "bool")) fNil)))) (fChnE wLe wLe (fVar 1) (fVar 0) (fVar 2)))))
noncomputable def f_is_within : FF := clean (fRun 3 b_is_within)
theorem ok_is_within (T : Tx P w K mg base) : FnW P w K mg base 1 (He.ga K "is_within") T.fd_is_within ["thing", "least", "most"] f_is_within := FnW.clean (fn_WD T.F_is_within sc_is_within fun cdv A outer s H E hr tk hp => (s_one (s_ret (e_and (e_cb cr_isiW (rf_isi T.isi) rfl T.n_isinstance (by decide +kernel) (a_cons (e_var 0) (a_cons (e_ty rfl T.n_int (by decide +kernel)) a_nil))) (e_and (e_not (e_cb cr_isiW (rf_isi T.isi) rfl T.n_isinstance (by decide +kernel) (a_cons (e_var 0) (a_cons (e_ty rfl T.n_bool (by decide +kernel)) a_nil)))) (e_one (e_chn op_le rb_I op_le rb_I (e_var 1) (e_var 0) (e_var 2))))))))
theorem sc_last_ticks : FnScope ["many", "puts", "found", "tick", "row", "page"] ["many", "puts"] (defScope s_last_ticks) := ⟨rfl, rfl, rfl, by decide +kernel, rfl, by decide +kernel, by decide +kernel⟩
noncomputable def b_last_ticks : FS := (fSeq (fSet 2 (fBin wMul (fLst (fCons (fC (.int 0)) fNil)) (fVar 0))) (fSeq (fFor (fI1 wEnum (fVar 1)) (gSeqN 2 (gsCons (gN 3) (gsCons (gN 4) gsNil))) (fFor (fSeqI (fVar 4)) (gN 5) (fAsg (fVar 3) (gSubW (fVar 2) (fVar 5))))) (fRet (fVar 2))))
noncomputable def f_last_ticks : FF := clean (fRun 6 b_last_ticks)
theorem ok_last_ticks (T : Tx P w K mg base) : FnW P w K mg base 1 (He.ga K "last_ticks") T.fd_last_ticks ["many", "puts"] f_last_ticks := FnW.clean (fn_WD T.F_last_ticks sc_last_ticks fun cdv A outer s H E hr tk hp => (s_cons (s_set sc_last_ticks.nd (e_op op_mulA rf_mul (e_lst (a_cons e_int a_nil)) (e_var 0))) (s_cons (s_for hp (i_enum rfl T.n_enumerate (e_var 1)) (g_seqN (gs_cons (g_name sc_last_ticks.nd) (gs_cons (g_name sc_last_ticks.nd) gs_nil))) (s_one (s_for hp (i_seq (e_var 4)) (g_name sc_last_ticks.nd) (s_one (s_asg (e_var 3) (g_sub (Wx := W0) (e_var 2) (e_var 5))))))) (s_one (s_ret (e_var 2))))))
theorem sc_owed_from : FnScope ["since", "ticks", "width", "tick", "one"] ["since", "ticks", "width", "tick"] (defScope s_owed_from) := ⟨rfl, rfl, rfl, by decide +kernel, rfl, by decide +kernel, by decide +kernel⟩
noncomputable def b_owed_from : FS := (fRet (fBin wSub (fCall wLen (fCons (fLc [4] (fSeqI (fVar 0)) (bN 4) (fCmp wGe (fVar 4) (fVar 3)) (fVar 4)) fNil)) (fBin wMul (fVar 2) (fBin wSub (fVar 1) (fVar 3)))))
noncomputable def f_owed_from : FF := clean (fRun 5 b_owed_from)
theorem ok_owed_from (T : Tx P w K mg base) : FnW P w K mg base 1 (He.ga K "owed_from") T.fd_owed_from ["since", "ticks", "width", "tick"] f_owed_from := FnW.clean (fn_WD T.F_owed_from sc_owed_from fun cdv A outer s H E hr tk hp => (s_one (s_ret (e_op op_sub rf_sub (e_cb cr_lenW rf_len rfl T.n_len (by decide +kernel) (a_cons (e_lc sc_owed_from.nd (i_seq (e_var 0)) (blkOk_by (show blkC ["since", "ticks", "width", "tick", "one"] (defScope s_owed_from) _ _ = true by decide +kernel)) (fun _ _ _ _ _ => pg_name (i := 4) sc_owed_from.nd rfl (Or.inl rfl)) (fun _ _ _ _ _ => (ts_one (t_cmp op_ge rb_I (e_var 4) (e_var 3) (nomark _)))) (fun _ _ _ _ _ => by exact (e_var 4))) a_nil)) (e_op op_mulA rf_mul (e_var 2) (e_op op_sub rf_sub (e_var 1) (e_var 3)))))))
theorem sc_filled : FnScope ["since", "ticks", "width", "todo", "plan", "tick", "sent", "page"] ["since", "ticks", "width"] (defScope s_filled) := ⟨rfl, rfl, rfl, by decide +kernel, rfl, by decide +kernel, by decide +kernel⟩
noncomputable def b_filled : FS := (fSeq (fSet 3 (fSortKey "filled" "filled.<locals>.<lambda>" 0 (fCall wLen (fCons (fVar 0) fNil)))) (fSeq (fSet 4 (fLst fNil)) (fSeq (fFor (fI1 wRevR (fVar 1)) (gN 5) (fSeq (fSet 6 (fSl (fLc [7] (fSeqI (fVar 3)) (bN 7) (fCmp wLe (fBin wIxA (fVar 0) (fVar 7)) (fVar 5)) (fVar 7)) fNo (fSo (fVar 2)))) (fSeq (fDrop (fMt isLst wApp (fVar 4) (fCons (fCall wTuple (fCons (fCall wSortI (fCons (fVar 6) fNil)) fNil)) fNil))) (fSet 3 (fLc [7] (fSeqI (fVar 3)) (bN 7) (fCmp wNotIn (fVar 7) (fVar 6)) (fVar 7)))))) (fRet (fCall wTuple (fCons (fRev (fVar 4)) fNil))))))
noncomputable def f_filled : FF := clean (fRun 8 b_filled)
theorem ok_filled (T : Tx P w K mg base) : FnW P w K mg base 1 (He.ga K "filled") T.fd_filled ["since", "ticks", "width"] f_filled := FnW.clean (fn_WDc T.F_filled sc_filled fun cdv A outer s H E hcode hr tk hp => (s_cons (s_set sc_filled.nd (e_sortKey (x := "page") (y := "since") T.tb_filled hcode (show (("filled" : Str) ++ ".<locals>.") ++ ("<lambda>" : Str) = "filled.<locals>.<lambda>" from by decide +kernel) rfl rfl T.n_sorted rfl T.n_range (e_cb cr_lenW rf_len rfl T.n_len (by decide +kernel) (a_cons (e_var 0) a_nil)) hr rfl rfl (show lamKB (defScope s_filled) "page" "since" _ = true from by decide +kernel) (fun _ _ _ _ _ _ => rfl) (by decide) (by decide) (by decide))) (s_cons (s_set sc_filled.nd (e_lst a_nil)) (s_cons (s_for hp (i_revr rfl T.n_reversed rfl T.n_range (e_var 1)) (g_name sc_filled.nd) (s_cons (s_set sc_filled.nd (e_sl (e_lc sc_filled.nd (i_seq (e_var 3)) (blkOk_by (show blkC ["since", "ticks", "width", "todo", "plan", "tick", "sent", "page"] (defScope s_filled) _ _ = true by decide +kernel)) (fun _ _ _ _ _ => pg_name (i := 7) sc_filled.nd rfl (Or.inl rfl)) (fun _ _ _ _ _ => (ts_one (t_cmp op_le rb_I (e_ix (e_var 0) (e_var 7)) (e_var 5) (nomark _)))) (fun _ _ _ _ _ => by exact (e_var 7))) o_none (o_some (e_var 2)))) (s_cons (s_expr (e_append (e_var 4) (a_cons (e_ct call_tuple_of rf_tuple rfl T.n_tuple (by decide +kernel) (a_cons (e_cb cr_sortedI rf_sortI rfl T.n_sorted (by decide +kernel) (a_cons (e_var 6) a_nil)) a_nil)) a_nil))) (s_one (s_setLc sc_filled.nd (i_seq (e_var 3)) (blkOk_by (show blkC ["since", "ticks", "width", "todo", "plan", "tick", "sent", "page"] (defScope s_filled) _ _ = true by decide +kernel)) (fun _ _ _ _ _ => pg_name (i := 7) sc_filled.nd rfl (Or.inl rfl)) (fun _ _ _ _ _ => (ts_one (t_cmp op_notInW rb_notIn (e_var 7) (e_var 6) (by with_unfolding_all rfl)))) (fun _ _ _ _ _ => by exact (e_var 7))))))) (s_one (s_ret (e_ct call_tuple_of rf_tuple rfl T.n_tuple (by decide +kernel) (a_cons (e_rev (e_var 4)) a_nil))))))))
theorem sc_left_by : FnScope ["since", "plan", "page", "tick", "row"] ["since", "plan"] (defScope s_left_by) := ⟨rfl, rfl, rfl, by decide +kernel, rfl, by decide +kernel, by decide +kernel⟩
noncomputable def b_left_by : FS := (fRet (fBin wSub (fCall wLen (fCons (fVar 0) fNil)) (fLenS2 [3, 4, 2] [2] (fI1 wEnum (fVar 1)) (fSeqI (fVar 4)) (b2 3 4) (bN 2) (fCmp wLe (fBin wIxA (fVar 0) (fVar 2)) (fVar 3)) (fVar 2))))
noncomputable def f_left_by : FF := clean (fRun 5 b_left_by)
theorem ok_left_by (T : Tx P w K mg base) : FnW P w K mg base 1 (He.ga K "left_by") T.fd_left_by ["since", "plan"] f_left_by := FnW.clean (fn_WD T.F_left_by sc_left_by fun cdv A outer s H E hr tk hp => (s_one (s_ret (e_op op_sub rf_sub (e_cb cr_lenW rf_len rfl T.n_len (by decide +kernel) (a_cons (e_var 0) a_nil)) (e_lenS2 (own := [("tick", 3), ("row", 4), ("page", 2)]) (own1 := [2]) rfl T.n_len sc_left_by.nd (i_enum rfl T.n_enumerate (e_var 1)) (blkOk_by (show blkC ["since", "plan", "page", "tick", "row"] (defScope s_left_by) _ _ = true by decide +kernel)) (by decide) (bind_twoS (by decide) (by decide)) (bind_nameS (by decide)) (fun _ _ _ _ _ => pg_tup rfl (pgs_cons (pg_name (i := 3) sc_left_by.nd rfl (Or.inl rfl)) (pgs_cons (pg_name (i := 4) sc_left_by.nd rfl (Or.inl rfl)) pgs_nil))) (fun _ _ _ _ _ => by exact (i_seq (e_var 4))) (fun _ _ _ _ _ => pg_name (i := 2) sc_left_by.nd rfl (Or.inl rfl)) (fun _ _ _ _ _ => (ts_one (t_cmp op_le rb_I (e_ix (e_var 0) (e_var 2)) (e_var 3) (nomark _)))) (fun _ _ _ _ _ => by exact (e_var 2)))))))
theorem sc_law_pot : FnScope ["script", "k", "cell", "mixed"] ["script", "k"] (defScope s_law_pot) := ⟨rfl, rfl, rfl, by decide +kernel, rfl, by decide +kernel, by decide +kernel⟩
noncomputable def b_law_pot : FS := (fSeq (fSet 2 (fC (.int 0))) (fSeq (fIfS (fCmp wLt (fVar 1) (fCall wLen (fCons (fVar 0) fNil))) (fSet 2 (fBin wMod (fCall wAbs (fCons (fBin wIxA (fVar 0) (fVar 1)) fNil)) (fBin wPow (fBin wPow (fC (.int 10)) (fC (.int 60))) (fC (.int 14))))) fNext) (fSeq (fSet 3 (fBin wMod (fBin wPow (fBin wAdd (fBin wAdd (fBin wMod (fVar 2) (fC (.int 2147483629))) (fBin wMul (fC (.int 7919)) (fVar 1))) (fC (.int 1))) (fC (.int 5))) (fC (.int 2305843009213693951)))) (fRet (fLst (fCons (fBin wMul (fVar 2) (fCall wInt (fCons (fCmpE wGe (fVar 2) (fBin wPow (fC (.int 10)) (fC (.int 18)))) fNil))) (fCons (fVar 3) (fCons (fC (.int 0)) fNil))))))))
noncomputable def f_law_pot : FF := clean (fRun 4 b_law_pot)
theorem ok_law_pot (T : Tx P w K mg base) : FnW P w K mg base 1 (He.ga K "_law_pot") T.fd_law_pot ["script", "k"] f_law_pot := FnW.clean (fn_WD T.F_law_pot sc_law_pot fun cdv A outer s H E hr tk hp => (s_cons (s_set sc_law_pot.nd e_int) (s_cons (s_if (t_cmp op_lt rb_I (e_var 1) (e_cb cr_lenW rf_len rfl T.n_len (by decide +kernel) (a_cons (e_var 0) a_nil)) (nomark _)) (s_one (s_set sc_law_pot.nd (e_op op_mod rf_mod (e_cb call_abs rf_abs rfl T.n_abs (by decide +kernel) (a_cons (e_ix (e_var 0) (e_var 1)) a_nil)) (e_op op_powW rf_pow (e_op op_powW rf_pow e_int e_int) e_int)))) s_nil) (s_cons (s_set sc_law_pot.nd (e_op op_mod rf_mod (e_op op_powW rf_pow (e_op op_addW rf_add (e_op op_addW rf_add (e_op op_mod rf_mod (e_var 2) e_int) (e_op op_mulA rf_mul e_int (e_var 1))) e_int) e_int) e_int)) (s_one (s_ret (e_lst (a_cons (e_op op_mulA rf_mul (e_var 2) (e_ct call_int1 rf_int rfl T.n_int (by decide +kernel) (a_cons (e_cmp op_ge rb_I (e_var 2) (e_op op_powW rf_pow e_int e_int) (nomark _)) a_nil))) (a_cons (e_var 3) (a_cons e_int a_nil))))))))))
theorem sc_law_take : FnScope ["pot", "many", "one", "other", "found"] ["pot", "many"] (defScope s_law_take) := ⟨rfl, rfl, rfl, by decide +kernel, rfl, by decide +kernel, by decide +kernel⟩
noncomputable def b_law_take : FS := (fSeq (fIfS (fCmp wGt (fBin wIxA (fVar 0) (fC (.int 0))) (fC (.int 0))) (fSeq (fSet 4 (fBin wMod (fBin wIxA (fVar 0) (fC (.int 0))) (fVar 1))) (fSeq (fAsg (fBin wFdiv (fBin wIxA (fVar 0) (fC (.int 0))) (fVar 1)) (gSubW (fVar 0) (fC (.int 0)))) (fRet (fVar 4)))) fNext) (fSeq (fAsg (fBin wAdd (fBin wIxA (fVar 0) (fC (.int 2))) (fC (.int 1))) (gSubW (fVar 0) (fC (.int 2)))) (fSeq (fSet 2 (fBin wMod (fBin wPow (fBin wAdd (fBin wIxA (fVar 0) (fC (.int 1))) (fBin wMul (fC (.int 104729)) (fBin wIxA (fVar 0) (fC (.int 2))))) (fC (.int 3))) (fC (.int 2305843009213693921)))) (fSeq (fSet 3 (fBin wMod (fBin wPow (fBin wAdd (fBin wAdd (fVar 2) (fBin wMod (fBin wIxA (fVar 0) (fC (.int 1))) (fC (.int 65537)))) (fBin wMul (fC (.int 31)) (fBin wIxA (fVar 0) (fC (.int 2))))) (fC (.int 5))) (fC (.int 2305843009213693907)))) (fRet (fBin wMod (fBin wFdiv (fVar 3) (fC (.int 1024))) (fVar 1)))))))
noncomputable def f_law_take : FF := clean (fRun 5 b_law_take)
theorem ok_law_take (T : Tx P w K mg base) : FnW P w K mg base 1 (He.ga K "_law_take") T.fd_law_take ["pot", "many"] f_law_take := FnW.clean (fn_WD T.F_law_take sc_law_take fun cdv A outer s H E hr tk hp => (s_cons (s_if (t_cmp op_gt rb_I (e_ix (e_var 0) e_int) e_int (nomark _)) (s_cons (s_set sc_law_take.nd (e_op op_mod rf_mod (e_ix (e_var 0) e_int) (e_var 1))) (s_cons (s_asg (e_op op_fdivW rf_fdiv (e_ix (e_var 0) e_int) (e_var 1)) (g_sub (Wx := W0) (e_var 0) e_int)) (s_one (s_ret (e_var 4))))) s_nil) (s_cons (s_asg (e_op op_addW rf_add (e_ix (e_var 0) e_int) e_int) (g_sub (Wx := W0) (e_var 0) e_int)) (s_cons (s_set sc_law_take.nd (e_op op_mod rf_mod (e_op op_powW rf_pow (e_op op_addW rf_add (e_ix (e_var 0) e_int) (e_op op_mulA rf_mul e_int (e_ix (e_var 0) e_int))) e_int) e_int)) (s_cons (s_set sc_law_take.nd (e_op op_mod rf_mod (e_op op_powW rf_pow (e_op op_addW rf_add (e_op op_addW rf_add (e_var 2) (e_op op_mod rf_mod (e_ix (e_var 0) e_int) e_int)) (e_op op_mulA rf_mul e_int (e_ix (e_var 0) e_int))) e_int) e_int)) (s_one (s_ret (e_op op_mod rf_mod (e_op op_fdivW rf_fdiv (e_var 3) e_int) (e_var 1)))))))))
theorem sc_law_folded : FnScope ["script", "most", "found", "k"] ["script", "most"] (defScope s_law_folded) := ⟨rfl, rfl, rfl, by decide +kernel, rfl, by decide +kernel, by decide +kernel⟩
noncomputable def b_law_folded : FS := (fSeq (fSet 2 (fCall wList (fCons (fSl (fVar 0) fNo (fSo (fVar 1))) fNil))) (fSeq (fFor (fIt wRng2 (fCons (fVar 1) (fCons (fCall wMin2 (fCons (fC (.int 63)) (fCons (fCall wLen (fCons (fVar 0) fNil)) fNil))) fNil))) (gN 3) (fAsg (fBin wAdd (fBin wMul (fBin wIxA (fVar 2) (fBin wMod (fVar 3) (fVar 1))) (fC (.int 31))) (fBin wIxA (fVar 0) (fVar 3))) (gSubW (fVar 2) (fBin wMod (fVar 3) (fVar 1))))) (fRet (fVar 2))))
noncomputable def f_law_folded : FF := clean (fRun 4 b_law_folded)
theorem ok_law_folded (T : Tx P w K mg base) : FnW P w K mg base 1 (He.ga K "_law_folded") T.fd_law_folded ["script", "most"] f_law_folded := FnW.clean (fn_WD T.F_law_folded sc_law_folded fun cdv A outer s H E hr tk hp => (s_cons (s_set sc_law_folded.nd (e_ct call_list_of rf_list rfl T.n_list (by decide +kernel) (a_cons (e_sl (e_var 0) o_none (o_some (e_var 1))) a_nil))) (s_cons (s_for hp (i_rng2 rfl T.n_range (a_cons (e_var 1) (a_cons (e_cb (call_min2 rfl) rf_min rfl T.n_min (by decide +kernel) (a_cons e_int (a_cons (e_cb cr_lenW rf_len rfl T.n_len (by decide +kernel) (a_cons (e_var 0) a_nil)) a_nil))) a_nil))) (g_name sc_law_folded.nd) (s_one (s_asg (e_op op_addW rf_add (e_op op_mulA rf_mul (e_ix (e_var 2) (e_op op_mod rf_mod (e_var 3) (e_var 1))) e_int) (e_ix (e_var 0) (e_var 3))) (g_sub (Wx := W0) (e_var 2) (e_op op_mod rf_mod (e_var 3) (e_var 1)))))) (s_one (s_ret (e_var 2))))))
theorem sc_law_since : FnScope ["many", "puts", "found", "tick", "row", "page"] ["many", "puts"] (defScope s_law_since) := ⟨rfl, rfl, rfl, by decide +kernel, rfl, by decide +kernel, by decide +kernel⟩
noncomputable def b_law_since : FS := (fSeq (fSet 2 (fBin wMul (fLst (fCons (fC (.int 0)) fNil)) (fVar 0))) (fSeq (fFor (fI1 wEnum (fVar 1)) (gSeqN 2 (gsCons (gN 3) (gsCons (gN 4) gsNil))) (fFor (fSeqI (fVar 4)) (gN 5) (fAsg (fVar 3) (gSubW (fVar 2) (fVar 5))))) (fRet (fVar 2))))
noncomputable def f_law_since : FF := clean (fRun 6 b_law_since)
theorem ok_law_since (T : Tx P w K mg base) : FnW P w K mg base 1 (He.ga K "_law_since") T.fd_law_since ["many", "puts"] f_law_since := FnW.clean (fn_WD T.F_law_since sc_law_since fun cdv A outer s H E hr tk hp => (s_cons (s_set sc_law_since.nd (e_op op_mulA rf_mul (e_lst (a_cons e_int a_nil)) (e_var 0))) (s_cons (s_for hp (i_enum rfl T.n_enumerate (e_var 1)) (g_seqN (gs_cons (g_name sc_law_since.nd) (gs_cons (g_name sc_law_since.nd) gs_nil))) (s_one (s_for hp (i_seq (e_var 4)) (g_name sc_law_since.nd) (s_one (s_asg (e_var 3) (g_sub (Wx := W0) (e_var 2) (e_var 5))))))) (s_one (s_ret (e_var 2))))))
theorem sc_law_owed : FnScope ["since", "ticks", "width", "tick", "one"] ["since", "ticks", "width", "tick"] (defScope s_law_owed) := ⟨rfl, rfl, rfl, by decide +kernel, rfl, by decide +kernel, by decide +kernel⟩
noncomputable def b_law_owed : FS := (fRet (fBin wSub (fCall wLen (fCons (fLc [4] (fSeqI (fVar 0)) (bN 4) (fCmp wGe (fVar 4) (fVar 3)) (fVar 4)) fNil)) (fBin wMul (fVar 2) (fBin wSub (fVar 1) (fVar 3)))))
noncomputable def f_law_owed : FF := clean (fRun 5 b_law_owed)
theorem ok_law_owed (T : Tx P w K mg base) : FnW P w K mg base 1 (He.ga K "_law_owed") T.fd_law_owed ["since", "ticks", "width", "tick"] f_law_owed := FnW.clean (fn_WD T.F_law_owed sc_law_owed fun cdv A outer s H E hr tk hp => (s_one (s_ret (e_op op_sub rf_sub (e_cb cr_lenW rf_len rfl T.n_len (by decide +kernel) (a_cons (e_lc sc_law_owed.nd (i_seq (e_var 0)) (blkOk_by (show blkC ["since", "ticks", "width", "tick", "one"] (defScope s_law_owed) _ _ = true by decide +kernel)) (fun _ _ _ _ _ => pg_name (i := 4) sc_law_owed.nd rfl (Or.inl rfl)) (fun _ _ _ _ _ => (ts_one (t_cmp op_ge rb_I (e_var 4) (e_var 3) (nomark _)))) (fun _ _ _ _ _ => by exact (e_var 4))) a_nil)) (e_op op_mulA rf_mul (e_var 2) (e_op op_sub rf_sub (e_var 1) (e_var 3)))))))
theorem sc_law_left : FnScope ["since", "plan", "sent", "tick", "row", "page"] ["since", "plan"] (defScope s_law_left) := ⟨rfl, rfl, rfl, by decide +kernel, rfl, by decide +kernel, by decide +kernel⟩
noncomputable def b_law_left : FS := (fSeq (fSet 2 fDict0) (fSeq (fFor (fI1 wEnum (fVar 1)) (gSeqN 2 (gsCons (gN 3) (gsCons (gN 4) gsNil))) (fFor (fSeqI (fVar 4)) (gN 5) (fIfS (fCmp wLe (fBin wIxA (fVar 0) (fVar 5)) (fVar 3)) (fAsg (fC (.bl true)) (gSubD (fVar 2) (fVar 5))) fNext))) (fRet (fBin wSub (fCall wLen (fCons (fVar 0) fNil)) (fCall wLen (fCons (fVar 2) fNil))))))
noncomputable def f_law_left : FF := clean (fRun 6 b_law_left)
theorem ok_law_left (T : Tx P w K mg base) : FnW P w K mg base 1 (He.ga K "_law_left") T.fd_law_left ["since", "plan"] f_law_left := FnW.clean (fn_WD T.F_law_left sc_law_left fun cdv A outer s H E hr tk hp => (s_cons (s_set sc_law_left.nd e_dict0) (s_cons (s_for hp (i_enum rfl T.n_enumerate (e_var 1)) (g_seqN (gs_cons (g_name sc_law_left.nd) (gs_cons (g_name sc_law_left.nd) gs_nil))) (s_one (s_for hp (i_seq (e_var 4)) (g_name sc_law_left.nd) (s_one (s_if (t_cmp op_le rb_I (e_ix (e_var 0) (e_var 5)) (e_var 3) (nomark _)) (s_one (s_asg e_bl (g_subD (Wx := W0) hr.units (e_var 2) (e_var 5)))) s_nil))))) (s_one (s_ret (e_op op_sub rf_sub (e_cb cr_lenW rf_len rfl T.n_len (by decide +kernel) (a_cons (e_var 0) a_nil)) (e_cb cr_lenW rf_len rfl T.n_len (by decide +kernel) (a_cons (e_var 2) a_nil))))))))
theorem sc_law_sending : FnScope ["many", "ticks", "width", "number", "plan", "page", "tick", "row"] ["many", "ticks", "width", "number"] (defScope s_law_sending) := ⟨rfl, rfl, rfl, by decide +kernel, rfl, by decide +kernel, by decide +kernel⟩
noncomputable def b_law_sending : FS := (fSeq (fSet 4 (fLc [6] (fIt wRng1 (fCons (fVar 1) fNil)) (bN 6) fYes (fLst fNil))) (fSeq (fFor (fIt wRng1 (fCons (fVar 0) fNil)) (gN 5) (fSeq (fSet 6 (fBin wMod (fVar 3) (fBin wAdd (fVar 1) (fC (.int 1))))) (fSeq (fSet 3 (fBin wFdiv (fVar 3) (fBin wAdd (fVar 1) (fC (.int 1))))) (fIfS (fCmp wLt (fVar 6) (fVar 1)) (fDrop (fMt isLst wApp (fBin wIxA (fVar 4) (fVar 6)) (fCons (fVar 5) fNil))) fNext)))) (fSeq (fIfS (fCmp wNe (fLc [7] (fSeqI (fVar 4)) (bN 7) (fCmp wGt (fCall wLen (fCons (fVar 7) fNil)) (fVar 2)) (fVar 7)) (fLst fNil)) (fRet (fC .non)) fNext) (fRet (fCall wTuple (fCons (fLc [7] (fSeqI (fVar 4)) (bN 7) fYes (fCall wTuple (fCons (fVar 7) fNil))) fNil))))))
noncomputable def f_law_sending : FF := clean (fRun 8 b_law_sending)
theorem ok_law_sending (T : Tx P w K mg base) : FnW P w K mg base 1 (He.ga K "_law_sending") T.fd_law_sending ["many", "ticks", "width", "number"] f_law_sending := FnW.clean (fn_WD T.F_law_sending sc_law_sending fun cdv A outer s H E hr tk hp => (s_cons (s_setLc sc_law_sending.nd (i_rng1 rfl T.n_range (a_cons (e_var 1) a_nil)) (blkOk_by (show blkC ["many", "ticks", "width", "number", "plan", "page", "tick", "row"] (defScope s_law_sending) _ _ = true by decide +kernel)) (fun _ _ _ _ _ => pg_name (i := 6) sc_law_sending.nd rfl (Or.inl rfl)) (fun _ _ _ _ _ => ts_nil) (fun _ _ _ _ _ => by exact (e_lst a_nil))) (s_cons (s_for hp (i_rng1 rfl T.n_range (a_cons (e_var 0) a_nil)) (g_name sc_law_sending.nd) (s_cons (s_set sc_law_sending.nd (e_op op_mod rf_mod (e_var 3) (e_op op_addW rf_add (e_var 1) e_int))) (s_cons (s_set sc_law_sending.nd (e_op op_fdivW rf_fdiv (e_var 3) (e_op op_addW rf_add (e_var 1) e_int))) (s_one (s_if (t_cmp op_lt rb_I (e_var 6) (e_var 1) (nomark _)) (s_one (s_expr (e_append (e_ix (e_var 4) (e_var 6)) (a_cons (e_var 5) a_nil)))) s_nil))))) (s_cons (s_if (t_cmp (op_neW hr.units) rb_ne (e_lc sc_law_sending.nd (i_seq (e_var 4)) (blkOk_by (show blkC ["many", "ticks", "width", "number", "plan", "page", "tick", "row"] (defScope s_law_sending) _ _ = true by decide +kernel)) (fun _ _ _ _ _ => pg_name (i := 7) sc_law_sending.nd rfl (Or.inl rfl)) (fun _ _ _ _ _ => (ts_one (t_cmp op_gt rb_I (e_cb cr_lenW rf_len rfl T.n_len (by decide +kernel) (a_cons (e_var 7) a_nil)) (e_var 2) (nomark _)))) (fun _ _ _ _ _ => by exact (e_var 7))) (e_lst a_nil) (nomark _)) (s_one (s_ret e_non)) s_nil) (s_one (s_ret (e_ct call_tuple_of rf_tuple rfl T.n_tuple (by decide +kernel) (a_cons (e_lc sc_law_sending.nd (i_seq (e_var 4)) (blkOk_by (show blkC ["many", "ticks", "width", "number", "plan", "page", "tick", "row"] (defScope s_law_sending) _ _ = true by decide +kernel)) (fun _ _ _ _ _ => pg_name (i := 7) sc_law_sending.nd rfl (Or.inl rfl)) (fun _ _ _ _ _ => ts_nil) (fun _ _ _ _ _ => by exact (e_ct call_tuple_of rf_tuple rfl T.n_tuple (by decide +kernel) (a_cons (e_var 7) a_nil)))) a_nil))))))))
theorem sc_law_product : FnScope ["one", "many", "found", "turn"] ["one", "many"] (defScope s_law_product) := ⟨rfl, rfl, rfl, by decide +kernel, rfl, by decide +kernel, by decide +kernel⟩
noncomputable def b_law_product : FS := (fSeq (fSet 2 (fC (.int 1))) (fSeq (fFor (fIt wRng1 (fCons (fVar 1) fNil)) (gN 3) (fSet 2 (fBin wMul (fVar 2) (fVar 0)))) (fRet (fVar 2))))
noncomputable def f_law_product : FF := clean (fRun 4 b_law_product)
theorem ok_law_product (T : Tx P w K mg base) : FnW P w K mg base 1 (He.ga K "_law_product") T.fd_law_product ["one", "many"] f_law_product := FnW.clean (fn_WD T.F_law_product sc_law_product fun cdv A outer s H E hr tk hp => (s_cons (s_set sc_law_product.nd e_int) (s_cons (s_for hp (i_rng1 rfl T.n_range (a_cons (e_var 1) a_nil)) (g_name sc_law_product.nd) (s_one (s_set sc_law_product.nd (e_op op_mulA rf_mul (e_var 2) (e_var 0))))) (s_one (s_ret (e_var 2))))))
theorem sc_are_rising : FnScope ["many", "thing", "most", "one", "other", "page"] ["many", "thing", "most"] (defScope s_are_rising) := ⟨rfl, rfl, rfl, by decide +kernel, rfl, by decide +kernel, by decide +kernel⟩
noncomputable def b_are_rising : FS := (fSeq (fIfS (fOrT (fNotT (fTru (fCall (wIsi isiT isiC) (fCons (fVar 1) (fCons (fC (.ty "tuple")) fNil))))) (fOrT (fCmp wGt (fCall wLen (fCons (fVar 1) fNil)) (fVar 2)) (fNotT (fTru (fCall wAll (fCons (fLc [5] (fSeqI (fVar 1)) (bN 5) fYes (fFn 3 f_is_within (fCons (fVar 5) (fCons (fC (.int 0)) (fCons (fBin wSub (fVar 0) (fC (.int 1))) fNil))))) fNil)))))) (fRet (fC (.bl false))) fNext) (fRet (fCall wAll (fCons (fLc [3, 4] (fIt wZip (fCons (fVar 1) (fCons (fSl (fVar 1) (fSo (fC (.int 1))) fNo) fNil))) (b2 3 4) fYes (fCmpE wLt (fVar 3) (fVar 4))) fNil))))
noncomputable def f_are_rising : FF := clean (fRun 6 b_are_rising)
theorem ok_are_rising (T : Tx P w K mg base) : FnW P w K mg base 2 (He.ga K "are_rising") T.fd_are_rising ["many", "thing", "most"] f_are_rising := FnW.clean (fn_WD T.F_are_rising sc_are_rising fun cdv A outer s H E hr tk hp => (s_cons (s_if (PW.pt (t_or (t_not (t_tru (e_cb cr_isiW (rf_isi T.isi) rfl T.n_isinstance (by decide +kernel) (a_cons (e_var 1) (a_cons (e_ty rfl T.n_tuple (by decide +kernel)) a_nil))))) (t_or (t_cmp op_gt rb_I (e_cb cr_lenW rf_len rfl T.n_len (by decide +kernel) (a_cons (e_var 1) a_nil)) (e_var 2) (nomark _)) (t_or1 (t_not (t_tru (e_cb (cr_all rfl) rf_all rfl T.n_all (by decide +kernel) (a_cons (e_lc sc_are_rising.nd (i_seq (e_var 1)) (blkOk_by (show blkC ["many", "thing", "most", "one", "other", "page"] (defScope s_are_rising) _ _ = true by decide +kernel)) (fun _ _ _ _ _ => pg_name (i := 5) sc_are_rising.nd rfl (Or.inl rfl)) (fun _ _ _ _ _ => ts_nil) (fun _ _ _ _ _ => by exact (e_fnB (ok_is_within T) (hr.mono (by decide)) T.g_is_within T.F_is_within.kp T.b_is_within (a_cons (e_var 5) (a_cons e_int (a_cons (e_op op_sub rf_sub (e_var 0) e_int) a_nil)))))) a_nil)))))))) (s_one (s_ret e_bl)) s_nil) (s_one (s_ret (e_cb (cr_all rfl) rf_all rfl T.n_all (by decide +kernel) (a_cons (e_lc2 sc_are_rising.nd (i_zip rfl T.n_zip (a_cons (e_var 1) (a_cons (e_sl (e_var 1) (o_some e_int) o_none) a_nil))) (blkOk_by (show blkC ["many", "thing", "most", "one", "other", "page"] (defScope s_are_rising) _ _ = true by decide +kernel)) (fun _ _ _ _ _ => pg_tup rfl (pgs_cons (pg_name (i := 3) sc_are_rising.nd rfl (Or.inl rfl)) (pgs_cons (pg_name (i := 4) sc_are_rising.nd rfl (Or.inl rfl)) pgs_nil))) (fun _ _ _ _ _ => ts_nil) (fun _ _ _ _ _ => by exact (e_cmp op_lt rb_I (e_var 3) (e_var 4) (nomark _)))) a_nil))))))
theorem sc_first_owing : FnScope ["since", "ticks", "width", "left", "tick"] ["since", "ticks", "width", "left"] (defScope s_first_owing) := ⟨rfl, rfl, rfl, by decide +kernel, rfl, by decide +kernel, by decide +kernel⟩
noncomputable def b_first_owing : FS := (fRet (fBin wIxA (fLc [4] (fIt wRng1 (fCons (fBin wAdd (fVar 1) (fC (.int 1))) fNil)) (bN 4) (fCmp wEq (fFn 4 f_owed_from (fCons (fVar 0) (fCons (fVar 1) (fCons (fVar 2) (fCons (fVar 4) fNil))))) (fVar 3)) (fVar 4)) (fC (.int 0))))
noncomputable def f_first_owing : FF := clean (fRun 5 b_first_owing)
theorem ok_first_owing (T : Tx P w K mg base) : FnW P w K mg base 2 (He.ga K "first_owing") T.fd_first_owing ["since", "ticks", "width", "left"] f_first_owing := FnW.clean (fn_WD T.F_first_owing sc_first_owing fun cdv A outer s H E hr tk hp => (s_one (s_ret (e_ix (e_lc sc_first_owing.nd (i_rng1 rfl T.n_range (a_cons (e_op op_addW rf_add (e_var 1) e_int) a_nil)) (blkOk_by (show blkC ["since", "ticks", "width", "left", "tick"] (defScope s_first_owing) _ _ = true by decide +kernel)) (fun _ _ _ _ _ => pg_name (i := 4) sc_first_owing.nd rfl (Or.inl rfl)) (fun _ _ _ _ _ => (ts_one (t_cmp (op_eqW hr.units) rb_eq (e_fnB (ok_owed_from T) (hr.mono (by decide)) T.g_owed_from T.F_owed_from.kp T.b_owed_from (a_cons (e_var 0) (a_cons (e_var 1) (a_cons (e_var 2) (a_cons (e_var 4) a_nil))))) (e_var 3) (nomark _)))) (fun _ _ _ _ _ => by exact (e_var 4))) e_int))))
theorem sc_law_tiny : FnScope ["pot", "many", "puts", "tick", "mask", "page"] ["pot"] (defScope s_law_tiny) := ⟨rfl, rfl, rfl, by decide +kernel, rfl, by decide +kernel, by decide +kernel⟩
noncomputable def b_law_tiny : FS := (fSeq (fSet 1 (fBin wAdd (fC (.int 1)) (fFn 2 f_law_take (fCons (fVar 0) (fCons (fC (.int 4)) fNil))))) (fSeq (fSet 2 (fLst fNil)) (fSeq (fFor (fIt wRng1 (fCons (fFn 2 f_law_take (fCons (fVar 0) (fCons (fC (.int 5)) fNil))) fNil)) (gN 3) (fSeq (fSet 4 (fFn 2 f_law_take (fCons (fVar 0) (fCons (fC (.int 16)) fNil)))) (fDrop (fMt isLst wApp (fVar 2) (fCons (fCall wTuple (fCons (fLc [5] (fIt wRng1 (fCons (fVar 1) fNil)) (bN 5) (fCmp wEq (fBin wAnd (fBin wShr (fVar 4) (fVar 5)) (fC (.int 1))) (fC (.int 1))) (fVar 5)) fNil)) fNil))))) (fRet (fTup (fCons (fVar 1) (fCons (fCall wTuple (fCons (fVar 2) fNil)) (fCons (fFn 2 f_law_take (fCons (fVar 0) (fCons (fC (.int 3)) fNil))) fNil))))))))
noncomputable def f_law_tiny : FF := clean (fRun 6 b_law_tiny)
theorem ok_law_tiny (T : Tx P w K mg base) : FnW P w K mg base 2 (He.ga K "_law_tiny") T.fd_law_tiny ["pot"] f_law_tiny := FnW.clean (fn_WD T.F_law_tiny sc_law_tiny fun cdv A outer s H E hr tk hp => (s_cons (s_set sc_law_tiny.nd (e_op op_addW rf_add e_int (e_fnN (ok_law_take T) (hr.mono (by decide)) T.g_law_take T.F_law_take.kp T.b_law_take tk (a_cons (e_var 0) (a_cons e_int a_nil))))) (s_cons (s_set sc_law_tiny.nd (e_lst a_nil)) (s_cons (s_for hp (i_rng1 rfl T.n_range (a_cons (e_fnN (ok_law_take T) (hr.mono (by decide)) T.g_law_take T.F_law_take.kp T.b_law_take tk (a_cons (e_var 0) (a_cons e_int a_nil))) a_nil)) (g_name sc_law_tiny.nd) (s_cons (s_set sc_law_tiny.nd (e_fnN (ok_law_take T) (hr.mono (by decide)) T.g_law_take T.F_law_take.kp T.b_law_take tk (a_cons (e_var 0) (a_cons e_int a_nil)))) (s_one (s_expr (e_append (e_var 2) (a_cons (e_ct call_tuple_of rf_tuple rfl T.n_tuple (by decide +kernel) (a_cons (e_lc sc_law_tiny.nd (i_rng1 rfl T.n_range (a_cons (e_var 1) a_nil)) (blkOk_by (show blkC ["pot", "many", "puts", "tick", "mask", "page"] (defScope s_law_tiny) _ _ = true by decide +kernel)) (fun _ _ _ _ _ => pg_name (i := 5) sc_law_tiny.nd rfl (Or.inl rfl)) (fun _ _ _ _ _ => (ts_one (t_cmp (op_eqW hr.units) rb_eq (e_op op_and rf_and (e_op op_shr rf_shr (e_var 4) (e_var 5)) e_int) e_int (nomark _)))) (fun _ _ _ _ _ => by exact (e_var 5))) a_nil)) a_nil)))))) (s_one (s_ret (e_tup (a_cons (e_var 1) (a_cons (e_ct call_tuple_of rf_tuple rfl T.n_tuple (by decide +kernel) (a_cons (e_var 2) a_nil)) (a_cons (e_fnN (ok_law_take T) (hr.mono (by decide)) T.g_law_take T.F_law_take.kp T.b_law_take tk (a_cons (e_var 0) (a_cons e_int a_nil))) a_nil))))))))))
theorem sc_are_puts : FnScope ["many", "thing", "row"] ["many", "thing"] (defScope s_are_puts) := ⟨rfl, rfl, rfl, by decide +kernel, rfl, by decide +kernel, by decide +kernel⟩
noncomputable def b_are_puts : FS := (fRet (fAnd (fCall (wIsi isiT isiC) (fCons (fVar 1) (fCons (fC (.ty "tuple")) fNil))) (fAnd (fCmpE wLe (fCall wLen (fCons (fVar 1) fNil)) (fC k_MOST_TICKS)) (fCall wAll (fCons (fLc [2] (fSeqI (fVar 1)) (bN 2) fYes (fFn 3 f_are_rising fun env st => ((fCons (fVar 0) (fCons (fVar 2) fNil)) env st).bind fun ws st1 => .ok (ws ++ dw_are_rising) st1)) fNil)))))
noncomputable def f_are_puts : FF := clean (fRun 3 b_are_puts)
theorem ok_are_puts (T : Tx P w K mg base) : FnW P w K mg base 3 (He.ga K "are_puts") T.fd_are_puts ["many", "thing"] f_are_puts := FnW.clean (fn_WD T.F_are_puts sc_are_puts fun cdv A outer s H E hr tk hp => (s_one (s_ret (e_and (e_cb cr_isiW (rf_isi T.isi) rfl T.n_isinstance (by decide +kernel) (a_cons (e_var 1) (a_cons (e_ty rfl T.n_tuple (by decide +kernel)) a_nil))) (e_and (e_cmp op_le rb_I (e_cb cr_lenW rf_len rfl T.n_len (by decide +kernel) (a_cons (e_var 1) a_nil)) (e_gi T.k_MOST_TICKS) (nomark _)) (e_one (e_cb (cr_all rfl) rf_all rfl T.n_all (by decide +kernel) (a_cons (e_lc sc_are_puts.nd (i_seq (e_var 1)) (blkOk_by (show blkC ["many", "thing", "row"] (defScope s_are_puts) _ _ = true by decide +kernel)) (fun _ _ _ _ _ => pg_name (i := 2) sc_are_puts.nd rfl (Or.inl rfl)) (fun _ _ _ _ _ => ts_nil) (fun _ _ _ _ _ => by exact (e_fnDB (ok_are_rising T) (hr.mono (by decide)) T.g_are_rising T.F_are_rising.kp T.bd_are_rising.choose_spec.2 T.bd_are_rising.choose_spec.1 (fun r H => dwr_are_rising) (a_cons (e_var 0) (a_cons (e_var 2) a_nil))))) a_nil))))))))
theorem sc_is_plan : FnScope ["many", "ticks", "width", "thing", "row"] ["many", "ticks", "width", "thing"] (defScope s_is_plan) := ⟨rfl, rfl, rfl, by decide +kernel, rfl, by decide +kernel, by decide +kernel⟩
noncomputable def b_is_plan : FS := (fSeq (fIfS (fOrT (fNotT (fTru (fCall (wIsi isiT isiC) (fCons (fVar 3) (fCons (fC (.ty "tuple")) fNil))))) (fCmp wNe (fCall wLen (fCons (fVar 3) fNil)) (fVar 1))) (fRet (fC (.bl false))) fNext) (fRet (fCall wAll (fCons (fLc [4] (fSeqI (fVar 3)) (bN 4) fYes (fFnK 2 1 f_are_rising (fCons (fVar 0) (fCons (fVar 4) fNil)) (fCons (fVar 2) fNil))) fNil))))
noncomputable def f_is_plan : FF := clean (fRun 5 b_is_plan)
theorem ok_is_plan (T : Tx P w K mg base) : FnW P w K mg base 3 (He.ga K "is_plan") T.fd_is_plan ["many", "ticks", "width", "thing"] f_is_plan := FnW.clean (fn_WD T.F_is_plan sc_is_plan fun cdv A outer s H E hr tk hp => (s_cons (s_if (PW.pt (t_or (t_not (t_tru (e_cb cr_isiW (rf_isi T.isi) rfl T.n_isinstance (by decide +kernel) (a_cons (e_var 3) (a_cons (e_ty rfl T.n_tuple (by decide +kernel)) a_nil))))) (t_or1 (t_cmp (op_neW hr.units) rb_ne (e_cb cr_lenW rf_len rfl T.n_len (by decide +kernel) (a_cons (e_var 3) a_nil)) (e_var 1) (nomark _))))) (s_one (s_ret e_bl)) s_nil) (s_one (s_ret (e_cb (cr_all rfl) rf_all rfl T.n_all (by decide +kernel) (a_cons (e_lc sc_is_plan.nd (i_seq (e_var 3)) (blkOk_by (show blkC ["many", "ticks", "width", "thing", "row"] (defScope s_is_plan) _ _ = true by decide +kernel)) (fun _ _ _ _ _ => pg_name (i := 4) sc_is_plan.nd rfl (Or.inl rfl)) (fun _ _ _ _ _ => ts_nil) (fun _ _ _ _ _ => by exact (e_fnKB (ok_are_rising T) (hr.mono (by decide)) T.g_are_rising T.F_are_rising.kp T.kb_are_rising rfl passX (a_cons (e_var 0) (a_cons (e_var 4) a_nil)) (k_cons (e_var 2) k_nil)))) a_nil))))))
theorem sc_need_puts : FnScope ["many", "puts", "width"] ["many", "puts", "width"] (defScope s_need_puts) := ⟨rfl, rfl, rfl, by decide +kernel, rfl, by decide +kernel, by decide +kernel⟩
noncomputable def b_need_puts : FS := (fIfS (fOrT (fNotT (fTru (fFn 3 f_is_within (fCons (fVar 0) (fCons (fC (.int 1)) (fCons (fC k_MOST_PAGES) fNil)))))) (fOrT (fNotT (fTru (fFn 2 f_are_puts (fCons (fVar 0) (fCons (fVar 1) fNil))))) (fNotT (fTru (fFn 3 f_is_within (fCons (fVar 2) (fCons (fC (.int 0)) (fCons (fC k_MOST_WIDE) fNil)))))))) (fRaise "NoPuts") fNext)
noncomputable def f_need_puts : FF := clean (fRun 3 b_need_puts)
theorem ok_need_puts (T : Tx P w K mg base) : FnW P w K mg base 4 (He.ga K "need_puts") T.fd_need_puts ["many", "puts", "width"] f_need_puts := FnW.clean (fn_WD T.F_need_puts sc_need_puts fun cdv A outer s H E hr tk hp => (s_one (s_if (PW.pt (t_or (t_not (t_tru (e_fnN (ok_is_within T) (hr.mono (by decide)) T.g_is_within T.F_is_within.kp T.b_is_within tk (a_cons (e_var 0) (a_cons e_int (a_cons (e_gi T.k_MOST_PAGES) a_nil)))))) (t_or (t_not (t_tru (e_fnN (ok_are_puts T) (hr.mono (by decide)) T.g_are_puts T.F_are_puts.kp T.b_are_puts tk (a_cons (e_var 0) (a_cons (e_var 1) a_nil))))) (t_or1 (t_not (t_tru (e_fnN (ok_is_within T) (hr.mono (by decide)) T.g_is_within T.F_is_within.kp T.b_is_within tk (a_cons (e_var 2) (a_cons e_int (a_cons (e_gi T.k_MOST_WIDE) a_nil)))))))))) (s_one (s_raise T.x_NoPuts tk)) s_nil)))
theorem sc_plan_of : FnScope ["many", "puts", "width", "since", "ticks", "left", "tick"] ["many", "puts", "width"] (defScope s_plan_of) := ⟨rfl, rfl, rfl, by decide +kernel, rfl, by decide +kernel, by decide +kernel⟩
noncomputable def b_plan_of : FS := (fSeq (fDrop (fFn 3 f_need_puts (fCons (fVar 0) (fCons (fVar 1) (fCons (fVar 2) fNil))))) (fSeq (fSet 3 (fFn 2 f_last_ticks (fCons (fVar 0) (fCons (fVar 1) fNil)))) (fSeq (fSet 4 (fCall wLen (fCons (fVar 1) fNil))) (fSeq (fSet 5 (fCall wMax (fCons (fLc [6] (fIt wRng1 (fCons (fBin wAdd (fVar 4) (fC (.int 1))) fNil)) (bN 6) fYes (fFn 4 f_owed_from (fCons (fVar 3) (fCons (fVar 4) (fCons (fVar 2) (fCons (fVar 6) fNil)))))) fNil))) (fRet (fTup (fCons (fVar 5) (fCons (fFn 3 f_filled (fCons (fVar 3) (fCons (fVar 4) (fCons (fVar 2) fNil)))) (fCons (fFn 4 f_first_owing (fCons (fVar 3) (fCons (fVar 4) (fCons (fVar 2) (fCons (fVar 5) fNil))))) fNil)))))))))
noncomputable def f_plan_of : FF := clean (fRun 7 b_plan_of)
theorem ok_plan_of (T : Tx P w K mg base) : FnW P w K mg base 5 (He.ga K "plan_of") T.fd_plan_of ["many", "puts", "width"] f_plan_of := FnW.clean (fn_WD T.F_plan_of sc_plan_of fun cdv A outer s H E hr tk hp => (s_cons (s_expr (e_fnN (ok_need_puts T) (hr.mono (by decide)) T.g_need_puts T.F_need_puts.kp T.b_need_puts tk (a_cons (e_var 0) (a_cons (e_var 1) (a_cons (e_var 2) a_nil))))) (s_cons (s_set sc_plan_of.nd (e_fnN (ok_last_ticks T) (hr.mono (by decide)) T.g_last_ticks T.F_last_ticks.kp T.b_last_ticks tk (a_cons (e_var 0) (a_cons (e_var 1) a_nil)))) (s_cons (s_set sc_plan_of.nd (e_cb cr_lenW rf_len rfl T.n_len (by decide +kernel) (a_cons (e_var 1) a_nil))) (s_cons (s_set sc_plan_of.nd (e_cb (cr_maxW rfl) rf_max rfl T.n_max (by decide +kernel) (a_cons (e_lc sc_plan_of.nd (i_rng1 rfl T.n_range (a_cons (e_op op_addW rf_add (e_var 4) e_int) a_nil)) (blkOk_by (show blkC ["many", "puts", "width", "since", "ticks", "left", "tick"] (defScope s_plan_of) _ _ = true by decide +kernel)) (fun _ _ _ _ _ => pg_name (i := 6) sc_plan_of.nd rfl (Or.inl rfl)) (fun _ _ _ _ _ => ts_nil) (fun _ _ _ _ _ => by exact (e_fnB (ok_owed_from T) (hr.mono (by decide)) T.g_owed_from T.F_owed_from.kp T.b_owed_from (a_cons (e_var 3) (a_cons (e_var 4) (a_cons (e_var 2) (a_cons (e_var 6) a_nil))))))) a_nil))) (s_one (s_ret (e_tup (a_cons (e_var 5) (a_cons (e_fnN (ok_filled T) (hr.mono (by decide)) T.g_filled T.F_filled.kp T.b_filled tk (a_cons (e_var 3) (a_cons (e_var 4) (a_cons (e_var 2) a_nil)))) (a_cons (e_fnN (ok_first_owing T) (hr.mono (by decide)) T.g_first_owing T.F_first_owing.kp T.b_first_owing tk (a_cons (e_var 3) (a_cons (e_var 4) (a_cons (e_var 2) (a_cons (e_var 5) a_nil))))) a_nil)))))))))))
theorem sc_shows_plan : FnScope ["many", "puts", "width", "thing", "ticks", "since", "left", "plan", "tick"] ["many", "puts", "width", "thing"] (defScope s_shows_plan) := ⟨rfl, rfl, rfl, by decide +kernel, rfl, by decide +kernel, by decide +kernel⟩
noncomputable def b_shows_plan : FS := (fSeq (fDrop (fFn 3 f_need_puts (fCons (fVar 0) (fCons (fVar 1) (fCons (fVar 2) fNil))))) (fSeq (fSet 4 (fCall wLen (fCons (fVar 1) fNil))) (fSeq (fIfS (fOrT (fNotT (fTru (fCall (wIsi isiT isiC) (fCons (fVar 3) (fCons (fC (.ty "tuple")) fNil))))) (fOrT (fCmp wNe (fCall wLen (fCons (fVar 3) fNil)) (fC (.int 3))) (fNotT (fTru (fFn 3 f_is_within (fCons (fBin wIxA (fVar 3) (fC (.int 0))) (fCons (fC (.int 0)) (fCons (fVar 0) fNil)))))))) (fRet (fC (.bl false))) fNext) (fSeq (fAsg (fVar 3) (gSeqN 3 (gsCons (gN 6) (gsCons (gN 7) (gsCons (gN 8) gsNil))))) (fSeq (fIfS (fOrT (fNotT (fTru (fFn 4 f_is_plan (fCons (fVar 0) (fCons (fVar 4) (fCons (fVar 2) (fCons (fVar 7) fNil))))))) (fNotT (fTru (fFn 3 f_is_within (fCons (fVar 8) (fCons (fC (.int 0)) (fCons (fVar 4) fNil))))))) (fRet (fC (.bl false))) fNext) (fSeq (fSet 5 (fFn 2 f_last_ticks (fCons (fVar 0) (fCons (fVar 1) fNil)))) (fSeq (fIfS (fOrT (fCmp wNe (fFn 2 f_left_by (fCons (fVar 5) (fCons (fVar 7) fNil))) (fVar 6)) (fCmp wNe (fFn 4 f_owed_from (fCons (fVar 5) (fCons (fVar 4) (fCons (fVar 2) (fCons (fVar 8) fNil))))) (fVar 6))) (fRet (fC (.bl false))) fNext) (fRet (fCmpE wEq (fFn 4 f_first_owing (fCons (fVar 5) (fCons (fVar 4) (fCons (fVar 2) (fCons (fVar 6) fNil))))) (fVar 8))))))))))
noncomputable def f_shows_plan : FF := clean (fRun 9 b_shows_plan)
theorem ok_shows_plan (T : Tx P w K mg base) : FnW P w K mg base 5 (He.ga K "shows_plan") T.fd_shows_plan ["many", "puts", "width", "thing"] f_shows_plan := FnW.clean (fn_WD T.F_shows_plan sc_shows_plan fun cdv A outer s H E hr tk hp => (s_cons (s_expr (e_fnN (ok_need_puts T) (hr.mono (by decide)) T.g_need_puts T.F_need_puts.kp T.b_need_puts tk (a_cons (e_var 0) (a_cons (e_var 1) (a_cons (e_var 2) a_nil))))) (s_cons (s_set sc_shows_plan.nd (e_cb cr_lenW rf_len rfl T.n_len (by decide +kernel) (a_cons (e_var 1) a_nil))) (s_cons (s_if (PW.pt (t_or (t_not (t_tru (e_cb cr_isiW (rf_isi T.isi) rfl T.n_isinstance (by decide +kernel) (a_cons (e_var 3) (a_cons (e_ty rfl T.n_tuple (by decide +kernel)) a_nil))))) (t_or (t_cmp (op_neW hr.units) rb_ne (e_cb cr_lenW rf_len rfl T.n_len (by decide +kernel) (a_cons (e_var 3) a_nil)) e_int (nomark _)) (t_or1 (t_not (t_tru (e_fnN (ok_is_within T) (hr.mono (by decide)) T.g_is_within T.F_is_within.kp T.b_is_within tk (a_cons (e_ix (e_var 3) e_int) (a_cons e_int (a_cons (e_var 0) a_nil)))))))))) (s_one (s_ret e_bl)) s_nil) (s_cons (s_asg (e_var 3) (g_seqN (gs_cons (g_name sc_shows_plan.nd) (gs_cons (g_name sc_shows_plan.nd) (gs_cons (g_name sc_shows_plan.nd) gs_nil))))) (s_cons (s_if (PW.pt (t_or (t_not (t_tru (e_fnN (ok_is_plan T) (hr.mono (by decide)) T.g_is_plan T.F_is_plan.kp T.b_is_plan tk (a_cons (e_var 0) (a_cons (e_var 4) (a_cons (e_var 2) (a_cons (e_var 7) a_nil))))))) (t_or1 (t_not (t_tru (e_fnN (ok_is_within T) (hr.mono (by decide)) T.g_is_within T.F_is_within.kp T.b_is_within tk (a_cons (e_var 8) (a_cons e_int (a_cons (e_var 4) a_nil))))))))) (s_one (s_ret e_bl)) s_nil) (s_cons (s_set sc_shows_plan.nd (e_fnN (ok_last_ticks T) (hr.mono (by decide)) T.g_last_ticks T.F_last_ticks.kp T.b_last_ticks tk (a_cons (e_var 0) (a_cons (e_var 1) a_nil)))) (s_cons (s_if (PW.pt (t_or (t_cmp (op_neW hr.units) rb_ne (e_fnN (ok_left_by T) (hr.mono (by decide)) T.g_left_by T.F_left_by.kp T.b_left_by tk (a_cons (e_var 5) (a_cons (e_var 7) a_nil))) (e_var 6) (nomark _)) (t_or1 (t_cmp (op_neW hr.units) rb_ne (e_fnN (ok_owed_from T) (hr.mono (by decide)) T.g_owed_from T.F_owed_from.kp T.b_owed_from tk (a_cons (e_var 5) (a_cons (e_var 4) (a_cons (e_var 2) (a_cons (e_var 8) a_nil))))) (e_var 6) (nomark _))))) (s_one (s_ret e_bl)) s_nil) (s_one (s_ret (e_cmp (op_eqW hr.units) rb_eq (e_fnN (ok_first_owing T) (hr.mono (by decide)) T.g_first_owing T.F_first_owing.kp T.b_first_owing tk (a_cons (e_var 5) (a_cons (e_var 4) (a_cons (e_var 2) (a_cons (e_var 6) a_nil))))) (e_var 8) (nomark _))))))))))))
theorem sc_law : FnScope ["script", "cells", "k", "pot", "ticks", "since", "told", "least", "number", "many", "puts", "width", "plan", "left", "found"] ["script"] (defScope s_law) := ⟨rfl, rfl, rfl, by decide +kernel, rfl, by decide +kernel, by decide +kernel⟩
noncomputable def b_law : FS := (fSeq (fSet 1 (fFn 2 f_law_folded (fCons (fVar 0) (fCons (fC (.int 10)) fNil)))) (fSeq (fFor (fIt wRng1 (fCons (fCall wMax (fCons (fC (.int 2)) (fCons (fCall wLen (fCons (fVar 1) fNil)) fNil))) fNil)) (gN 2) (fSeq (fSet 3 (fFn 2 f_law_pot (fCons (fVar 1) (fCons (fVar 2) fNil)))) (fSeq (fAsg (fFn 1 f_law_tiny (fCons (fVar 3) fNil)) (gSeqN 3 (gsCons (gN 9) (gsCons (gN 10) (gsCons (gN 11) gsNil))))) (fSeq (fSet 4 (fCall wLen (fCons (fVar 10) fNil))) (fSeq (fSet 5 (fFn 2 f_law_since (fCons (fVar 9) (fCons (fVar 10) fNil)))) (fSeq (fSet 6 (fFn 3 f_plan_of (fCons (fVar 9) (fCons (fVar 10) (fCons (fVar 11) fNil))))) (fSeq (fSet 7 (fVar 9)) (fSeq (fFor (fIt wRng1 (fCons (fFn 2 f_law_product (fCons (fBin wAdd (fVar 4) (fC (.int 1))) (fCons (fVar 9) fNil))) fNil)) (gN 8) (fSeq (fSet 12 (fFn 4 f_law_sending (fCons (fVar 9) (fCons (fVar 4) (fCons (fVar 11) (fCons (fVar 8) fNil)))))) (fIfS (fCmp wNotN (fVar 12) (fC .non)) (fSeq (fSet 13 (fFn 2 f_law_left (fCons (fVar 5) (fCons (fVar 12) fNil)))) (fSeq (fSet 7 (fCall wMin2 (fCons (fVar 7) (fCons (fVar 13) fNil)))) (fIfS (fCmp wEq (fBin wMod (fVar 8) (fC (.int 7))) (fC (.int 3))) (fSeq (fSet 14 (fFn 4 f_shows_plan (fCons (fVar 9) (fCons (fVar 10) (fCons (fVar 11) (fCons (fTup (fCons (fVar 13) (fCons (fVar 12) (fCons (fBin wIxA (fVar 6) (fC (.int 2))) fNil)))) fNil)))))) (fIfS (fCmp wNe (fCall wReprD (fCons (fVar 14) fNil)) (fCall wReprD (fCons (fCmpE wEq (fVar 13) (fBin wIxA (fVar 6) (fC (.int 0)))) fNil))) (fRet (fC (.bl false))) fNext)) fNext))) fNext))) (fIfS (fOrT (fCmp wNe (fVar 7) (fBin wIxA (fVar 6) (fC (.int 0)))) (fCmp wNe (fFn 2 f_law_left (fCons (fVar 5) (fCons (fBin wIxA (fVar 6) (fC (.int 1))) fNil))) (fVar 7))) (fRet (fC (.bl false))) fNext))))))))) (fRet (fC (.bl true)))))
noncomputable def f_law : FF := fRun 15 b_law
theorem ok_law_fd (T : Tx P w K mg base) {fd : FuncData} (F : FunD K "law" "law" (defArgs s_law) (defBody s_law) (defScope s_law) [] [] (He.ga K "law") fd) : RunL P w K mg base 6 (He.ga K "law") fd ["script"] f_law := run_WDr F sc_law fun cdv s H E hgd hr tk hp => (s_cons (s_set sc_law.nd (e_fnN (ok_law_folded T) (hr.mono (by decide)) T.g_law_folded T.F_law_folded.kp T.b_law_folded tk (a_cons (e_var 0) (a_cons e_int a_nil)))) (s_cons (s_for hp (i_rng1 rfl T.n_range (a_cons (e_cb (cr_maxW rfl) rf_max rfl T.n_max (by decide +kernel) (a_cons e_int (a_cons (e_cb cr_lenW rf_len rfl T.n_len (by decide +kernel) (a_cons (e_var 1) a_nil)) a_nil))) a_nil)) (g_name sc_law.nd) (s_cons (s_set sc_law.nd (e_fnN (ok_law_pot T) (hr.mono (by decide)) T.g_law_pot T.F_law_pot.kp T.b_law_pot tk (a_cons (e_var 1) (a_cons (e_var 2) a_nil)))) (s_cons (s_asg (e_fnN (ok_law_tiny T) (hr.mono (by decide)) T.g_law_tiny T.F_law_tiny.kp T.b_law_tiny tk (a_cons (e_var 3) a_nil)) (g_seqN (gs_cons (g_name sc_law.nd) (gs_cons (g_name sc_law.nd) (gs_cons (g_name sc_law.nd) gs_nil))))) (s_cons (s_set sc_law.nd (e_cb cr_lenW rf_len rfl T.n_len (by decide +kernel) (a_cons (e_var 10) a_nil))) (s_cons (s_set sc_law.nd (e_fnN (ok_law_since T) (hr.mono (by decide)) T.g_law_since T.F_law_since.kp T.b_law_since tk (a_cons (e_var 9) (a_cons (e_var 10) a_nil)))) (s_cons (s_set sc_law.nd (e_fnN (ok_plan_of T) (hr.mono (by decide)) T.g_plan_of T.F_plan_of.kp T.b_plan_of tk (a_cons (e_var 9) (a_cons (e_var 10) (a_cons (e_var 11) a_nil))))) (s_cons (s_set sc_law.nd (e_var 9)) (s_cons (s_for hp (i_rng1 rfl T.n_range (a_cons (e_fnN (ok_law_product T) (hr.mono (by decide)) T.g_law_product T.F_law_product.kp T.b_law_product tk (a_cons (e_op op_addW rf_add (e_var 4) e_int) (a_cons (e_var 9) a_nil))) a_nil)) (g_name sc_law.nd) (s_cons (s_set sc_law.nd (e_fnN (ok_law_sending T) (hr.mono (by decide)) T.g_law_sending T.F_law_sending.kp T.b_law_sending tk (a_cons (e_var 9) (a_cons (e_var 4) (a_cons (e_var 11) (a_cons (e_var 8) a_nil)))))) (s_one (s_if (t_cmp op_notN rb_notN (e_var 12) e_non (nomark _)) (s_cons (s_set sc_law.nd (e_fnN (ok_law_left T) (hr.mono (by decide)) T.g_law_left T.F_law_left.kp T.b_law_left tk (a_cons (e_var 5) (a_cons (e_var 12) a_nil)))) (s_cons (s_set sc_law.nd (e_cb (call_min2 rfl) rf_min rfl T.n_min (by decide +kernel) (a_cons (e_var 7) (a_cons (e_var 13) a_nil)))) (s_one (s_if (t_cmp (op_eqW hr.units) rb_eq (e_op op_mod rf_mod (e_var 8) e_int) e_int (nomark _)) (s_cons (s_set sc_law.nd (e_fnN (ok_shows_plan T) (hr.mono (by decide)) T.g_shows_plan T.F_shows_plan.kp T.b_shows_plan tk (a_cons (e_var 9) (a_cons (e_var 10) (a_cons (e_var 11) (a_cons (e_tup (a_cons (e_var 13) (a_cons (e_var 12) (a_cons (e_ix (e_var 6) e_int) a_nil)))) a_nil)))))) (s_one (s_if (t_cmp (op_neW hr.units) rb_ne (e_cb (cr_reprD hgd hr) rf_reprD rfl T.n_repr (by decide +kernel) (a_cons (e_var 14) a_nil)) (e_cb (cr_reprD hgd hr) rf_reprD rfl T.n_repr (by decide +kernel) (a_cons (e_cmp (op_eqW hr.units) rb_eq (e_var 13) (e_ix (e_var 6) e_int) (nomark _)) a_nil)) (nomark _)) (s_one (s_ret e_bl)) s_nil))) s_nil)))) s_nil)))) (s_one (s_if (PW.pt (t_or (t_cmp (op_neW hr.units) rb_ne (e_var 7) (e_ix (e_var 6) e_int) (nomark _)) (t_or1 (t_cmp (op_neW hr.units) rb_ne (e_fnN (ok_law_left T) (hr.mono (by decide)) T.g_law_left T.F_law_left.kp T.b_law_left tk (a_cons (e_var 5) (a_cons (e_ix (e_var 6) e_int) a_nil))) (e_var 7) (nomark _))))) (s_one (s_ret e_bl)) s_nil)))))))))) (s_one (s_ret e_bl))))
end
theorem clsSub : ∀ x ∈ clsL, x ∈ gloL := by decide +kernel
def chk (K : PySem.W.Frag) : Bool := gloB K gloL && (freeB K freeL && ((excL.all fun x => (He.Fa.exc x).ok K) && (isiB K clsL "WalkError" && ((He.Fa.int "MOST_PAGES" 16).ok K && ((He.Fa.int "MOST_TICKS" 64).ok K && ((He.Fa.int "MOST_WIDE" 16).ok K))))))
def dl : List He.DefD := [⟨("is_within", none), "is_within", "is_within", defArgs s_is_within, defBody s_is_within, defScope s_is_within, [], []⟩, ⟨("last_ticks", none), "last_ticks", "last_ticks", defArgs s_last_ticks, defBody s_last_ticks, defScope s_last_ticks, [], []⟩, ⟨("owed_from", none), "owed_from", "owed_from", defArgs s_owed_from, defBody s_owed_from, defScope s_owed_from, [], []⟩, ⟨("filled", none), "filled", "filled", defArgs s_filled, defBody s_filled, defScope s_filled, [], []⟩, ⟨("left_by", none), "left_by", "left_by", defArgs s_left_by, defBody s_left_by, defScope s_left_by, [], []⟩, ⟨("_law_pot", none), "_law_pot", "_law_pot", defArgs s_law_pot, defBody s_law_pot, defScope s_law_pot, [], []⟩, ⟨("_law_take", none), "_law_take", "_law_take", defArgs s_law_take, defBody s_law_take, defScope s_law_take, [], []⟩, ⟨("_law_folded", none), "_law_folded", "_law_folded", defArgs s_law_folded, defBody s_law_folded, defScope s_law_folded, [], []⟩, ⟨("_law_since", none), "_law_since", "_law_since", defArgs s_law_since, defBody s_law_since, defScope s_law_since, [], []⟩, ⟨("_law_owed", none), "_law_owed", "_law_owed", defArgs s_law_owed, defBody s_law_owed, defScope s_law_owed, [], []⟩, ⟨("_law_left", none), "_law_left", "_law_left", defArgs s_law_left, defBody s_law_left, defScope s_law_left, [], []⟩, ⟨("_law_sending", none), "_law_sending", "_law_sending", defArgs s_law_sending, defBody s_law_sending, defScope s_law_sending, [], []⟩, ⟨("_law_product", none), "_law_product", "_law_product", defArgs s_law_product, defBody s_law_product, defScope s_law_product, [], []⟩, ⟨("are_rising", none), "are_rising", "are_rising", defArgs s_are_rising, defBody s_are_rising, defScope s_are_rising, [], [("most", .int 16)]⟩, ⟨("first_owing", none), "first_owing", "first_owing", defArgs s_first_owing, defBody s_first_owing, defScope s_first_owing, [], []⟩, ⟨("_law_tiny", none), "_law_tiny", "_law_tiny", defArgs s_law_tiny, defBody s_law_tiny, defScope s_law_tiny, [], []⟩, ⟨("are_puts", none), "are_puts", "are_puts", defArgs s_are_puts, defBody s_are_puts, defScope s_are_puts, [], []⟩, ⟨("is_plan", none), "is_plan", "is_plan", defArgs s_is_plan, defBody s_is_plan, defScope s_is_plan, [], []⟩, ⟨("need_puts", none), "need_puts", "need_puts", defArgs s_need_puts, defBody s_need_puts, defScope s_need_puts, [], []⟩, ⟨("plan_of", none), "plan_of", "plan_of", defArgs s_plan_of, defBody s_plan_of, defScope s_plan_of, [], []⟩, ⟨("shows_plan", none), "shows_plan", "shows_plan", defArgs s_shows_plan, defBody s_shows_plan, defScope s_shows_plan, [], []⟩, ⟨("law", none), "law", "law", defArgs s_law, defBody s_law, defScope s_law, [], []⟩]
theorem tx_of {P : Program} {w : World} {K : PySem.W.Frag} {h : Heap} {mg : Str → Option Value} {base : Heap} (X : K.In h) (G : h.Ns mainGlobals mg) (s : SaysC chk dl tabL w K) (tb : ∀ z ∈ tabF.map (He.cT K), LamX.TabB base mg z.1 z.2) : Nonempty (Tx P w K mg base) := by
  obtain ⟨fd0, F0⟩ := s.b.def_ 0 rfl
  obtain ⟨fd1, F1⟩ := s.b.def_ 1 rfl
  obtain ⟨fd2, F2⟩ := s.b.def_ 2 rfl
  obtain ⟨fd3, F3⟩ := s.b.def_ 3 rfl
  obtain ⟨fd4, F4⟩ := s.b.def_ 4 rfl
  obtain ⟨fd5, F5⟩ := s.b.def_ 5 rfl
  obtain ⟨fd6, F6⟩ := s.b.def_ 6 rfl
  obtain ⟨fd7, F7⟩ := s.b.def_ 7 rfl
  obtain ⟨fd8, F8⟩ := s.b.def_ 8 rfl
  obtain ⟨fd9, F9⟩ := s.b.def_ 9 rfl
  obtain ⟨fd10, F10⟩ := s.b.def_ 10 rfl
  obtain ⟨fd11, F11⟩ := s.b.def_ 11 rfl
  obtain ⟨fd12, F12⟩ := s.b.def_ 12 rfl
  obtain ⟨fd13, F13⟩ := s.b.def_ 13 rfl
  obtain ⟨fd14, F14⟩ := s.b.def_ 14 rfl
  obtain ⟨fd15, F15⟩ := s.b.def_ 15 rfl
  obtain ⟨fd16, F16⟩ := s.b.def_ 16 rfl
  obtain ⟨fd17, F17⟩ := s.b.def_ 17 rfl
  obtain ⟨fd18, F18⟩ := s.b.def_ 18 rfl
  obtain ⟨fd19, F19⟩ := s.b.def_ 19 rfl
  obtain ⟨fd20, F20⟩ := s.b.def_ 20 rfl
  obtain ⟨fd21, F21⟩ := s.b.def_ 21 rfl
  obtain ⟨c0, r0⟩ := He.ba s.b.checked
  obtain ⟨c1, r1⟩ := He.ba r0
  obtain ⟨c2, r2⟩ := He.ba r1
  obtain ⟨c3, r3⟩ := He.ba r2
  obtain ⟨c4, r4⟩ := He.ba r3
  obtain ⟨c5, r5⟩ := He.ba r4
  have c6 := r5
  have g : ∀ x, x ∈ gloL → mg x = some (.ref (He.ga K x)) := fun x hx => gloB_ok X G c0 hx
  have n : ∀ x, x ∈ freeL → mg x = none := fun x hx => freeB_ok X G c1 hx
  exact ⟨⟨fd0,
    F0,
    g _ (by decide +kernel),
    FunD.bindsN F0 fun _ _ _ _ _ _ us hl => match us, hl with | [_, _, _], _ => rfl,
    fd1,
    F1,
    g _ (by decide +kernel),
    FunD.bindsN F1 fun _ _ _ _ _ _ us hl => match us, hl with | [_, _], _ => rfl,
    fd2,
    F2,
    g _ (by decide +kernel),
    FunD.bindsN F2 fun _ _ _ _ _ _ us hl => match us, hl with | [_, _, _, _], _ => rfl,
    fd3,
    F3,
    g _ (by decide +kernel),
    FunD.bindsN F3 fun _ _ _ _ _ _ us hl => match us, hl with | [_, _, _], _ => rfl,
    fd4,
    F4,
    g _ (by decide +kernel),
    FunD.bindsN F4 fun _ _ _ _ _ _ us hl => match us, hl with | [_, _], _ => rfl,
    fd5,
    F5,
    g _ (by decide +kernel),
    FunD.bindsN F5 fun _ _ _ _ _ _ us hl => match us, hl with | [_, _], _ => rfl,
    fd6,
    F6,
    g _ (by decide +kernel),
    FunD.bindsN F6 fun _ _ _ _ _ _ us hl => match us, hl with | [_, _], _ => rfl,
    fd7,
    F7,
    g _ (by decide +kernel),
    FunD.bindsN F7 fun _ _ _ _ _ _ us hl => match us, hl with | [_, _], _ => rfl,
    fd8,
    F8,
    g _ (by decide +kernel),
    FunD.bindsN F8 fun _ _ _ _ _ _ us hl => match us, hl with | [_, _], _ => rfl,
    fd9,
    F9,
    g _ (by decide +kernel),
    FunD.bindsN F9 fun _ _ _ _ _ _ us hl => match us, hl with | [_, _, _, _], _ => rfl,
    fd10,
    F10,
    g _ (by decide +kernel),
    FunD.bindsN F10 fun _ _ _ _ _ _ us hl => match us, hl with | [_, _], _ => rfl,
    fd11,
    F11,
    g _ (by decide +kernel),
    FunD.bindsN F11 fun _ _ _ _ _ _ us hl => match us, hl with | [_, _, _, _], _ => rfl,
    fd12,
    F12,
    g _ (by decide +kernel),
    FunD.bindsN F12 fun _ _ _ _ _ _ us hl => match us, hl with | [_, _], _ => rfl,
    fd13,
    F13,
    g _ (by decide +kernel),
    FunD.binds0 F13 2 (List.cons_ne_nil _ _) rfl fun _ _ _ _ _ _ us ks h1 h2 => match us, h1, ks, h2 with | [_, _], _, [_], _ => ⟨_, _, _, _, _, _, rfl, rfl, rfl⟩,
    kb_all F13 fun _ _ _ _ _ _ us ws h1 h2 => match us, h1, ws, h2 with | [_, _], _, [_], _ => rfl,
    fd14,
    F14,
    g _ (by decide +kernel),
    FunD.bindsN F14 fun _ _ _ _ _ _ us hl => match us, hl with | [_, _, _, _], _ => rfl,
    fd15,
    F15,
    g _ (by decide +kernel),
    FunD.bindsN F15 fun _ _ _ _ _ _ us hl => match us, hl with | [_], _ => rfl,
    fd16,
    F16,
    g _ (by decide +kernel),
    FunD.bindsN F16 fun _ _ _ _ _ _ us hl => match us, hl with | [_, _], _ => rfl,
    fd17,
    F17,
    g _ (by decide +kernel),
    FunD.bindsN F17 fun _ _ _ _ _ _ us hl => match us, hl with | [_, _, _, _], _ => rfl,
    fd18,
    F18,
    g _ (by decide +kernel),
    FunD.bindsN F18 fun _ _ _ _ _ _ us hl => match us, hl with | [_, _, _], _ => rfl,
    fd19,
    F19,
    g _ (by decide +kernel),
    FunD.bindsN F19 fun _ _ _ _ _ _ us hl => match us, hl with | [_, _, _], _ => rfl,
    fd20,
    F20,
    g _ (by decide +kernel),
    FunD.bindsN F20 fun _ _ _ _ _ _ us hl => match us, hl with | [_, _, _, _], _ => rfl,
    fd21,
    F21,
    g _ (by decide +kernel),
    FunD.bindsN F21 fun _ _ _ _ _ _ us hl => match us, hl with | [_], _ => rfl,
    tb _ List.mem_cons_self,
    n _ (by decide +kernel),
    n _ (by decide +kernel),
    n _ (by decide +kernel),
    n _ (by decide +kernel),
    n _ (by decide +kernel),
    n _ (by decide +kernel),
    n _ (by decide +kernel),
    n _ (by decide +kernel),
    n _ (by decide +kernel),
    n _ (by decide +kernel),
    n _ (by decide +kernel),
    n _ (by decide +kernel),
    n _ (by decide +kernel),
    n _ (by decide +kernel),
    n _ (by decide +kernel),
    n _ (by decide +kernel),
    g _ (by decide +kernel),
    g _ (by decide +kernel),
    xCls_ok (g _ (by decide +kernel)) (List.all_eq_true.mp c2 _ (by decide +kernel)),
    isiB_ok (fun x hx => g x (clsSub x hx)) c3,
    He.int_ok X G c4,
    He.int_ok X G c5,
    He.int_ok X G c6⟩⟩
def looseL : List Str := (["WalkError", "NoPuts", "MOST_PAGES", "is_within", "MOST_TICKS", "MOST_WIDE", "are_rising", "are_puts", "need_puts", "last_ticks", "owed_from", "first_owing", "filled", "left_by", "plan_of", "is_plan", "shows_plan", "_law_pot", "_law_take", "_law_folded", "_law_since", "_law_owed", "_law_left", "_law_tiny"] : List Str) ++ (["_law_sending", "_law_product"] : List Str)
abbrev R : PySem.W.OpenRow := PySem.W.OpenLaw.row PySem.Challenge.rw_lodgewalk_k74_no_plan_leaves_fewer
abbrev hk : PySem.W.Hook := hookS 5 chk dl tabL tabF
def ob (s : PySem.W.SharedT) : He.AlX := obsS 5 chk dl tabL tabF (HandSHeadRun.getT s)
theorem ob_eq (s : PySem.W.SharedT) : ob s = hk.obs s.abs := obsS_eq (HandSHeadRun.getT_eq s)
end Lw

namespace Lw
open PySem PySem.Spec PyProof.Rows L2 Sw
set_option maxHeartbeats 0
theorem run (w : World) : HandSHeadRun.RunEq R (PySem.W.view R.prog [30]) hk ob 9000 looseL w := by
  intro os
  kernel_rfl
end Lw

namespace Lw
open PySem PySem.Spec PyProof.Rows L2 Sw
def LawOk : Prop := ∀ l : List Int, l.length ≤ 63 → ∃ st, f_law [.rol (l.map W.int)] [Ob.tab "filled" "filled.<locals>.<lambda>"] = .ok (.bl true) st
theorem fin_ok {w : World} {K : PySem.W.Frag} {h : Heap} {mg : Str → Option Value} {fa : Addr} (KX : K.In h) (G : h.Ns mainGlobals mg) (c : SaysS chk dl tabL tabF w h K) (hmg : mg ("law" : Str) = some (.ref fa)) :
    ∃ (K : PySem.W.Frag) (fd : FuncData), K.In h ∧ h.get? (He.cT K ("filled", none)).2 = some { cls := .none, data := .fields #[] } ∧ K.lookup (He.cT K ("filled", none)).2 = none ∧
      PySem.W.CodeHd h (He.cT K ("filled", none)).1 (He.cT K ("filled", none)).2 ∧ (∀ (s : Shared) (u : Value), BindsTo s fd ⟨[u], []⟩ [("script", u)]) ∧ ∀ base : Heap, K.In base → base.Ns mainGlobals mg → LamX.TabB base mg (He.cT K ("filled", none)).1 (He.cT K ("filled", none)).2 →
        RunL (PySem.W.OpenLaw.prog PySem.Challenge.rw_lodgewalk_k74_no_plan_leaves_fewer) w K mg base 6 fa fd ["script"] f_law := by
  obtain ⟨fd, F⟩ := c.c.b.def_ 21 rfl
  have ga : mg ("law" : Str) = some (.ref (He.ga K "law")) := gloB_ok KX G (He.ba c.c.b.checked).1 (by decide +kernel)
  have e := hmg.symm.trans ga
  cases e
  have b := FunD.bindsA (ps := ["script"]) F fun _ _ _ _ _ _ us hl => match us, hl with | [_], _ => rfl
  have k := c.k ("filled", none) List.mem_cons_self
  refine ⟨K, fd, KX, k.2.2, k.2.1, PySem.W.codeHd_of_K KX k.1, fun s u => b s [u] rfl, fun base _ _ tb => ?_⟩
  obtain ⟨T⟩ := tx_of (P := PySem.W.OpenLaw.prog PySem.Challenge.rw_lodgewalk_k74_no_plan_leaves_fewer) (w := w) (base := base) KX G c.c (fun z hz => by rw [List.mem_singleton.mp hz]; exact tb)
  exact ok_law_fd T F
end Lw
section
open PySem PySem.W PySem.Calls PyProof.Rows
set_option maxHeartbeats 0 in
theorem Lw.close_law (LO : Lw.LawOk) : PySem.Challenge.rw_lodgewalk_k74_no_plan_leaves_fewer.Holds := by
  w_on; o_law
  refine HandSHeadRun.head_any (r := Lw.R) (q := view Lw.R.prog [30]) (H := Lw.hk) (ob := Lw.ob) (M := 9000) (loose := Lw.looseL) (d := HandSHeadRun.topDef Lw.R.prog 30) (kwd := []) Lw.ob_eq
    (by kernel_rfl) (fun s => by kernel_rfl) Lw.run (by kernel_rfl) (by kernel_rfl) (by kernel_rfl) (by rfl) (by first | assumption | decide +kernel) (by decide +kernel) ⟨rfl, rfl, rfl, rfl, rfl, by decide +kernel⟩ ?hw ?hc
  case hw => w_witness2
  case hc =>
    refine Sw.walk_ofL (Ff := Lw.f_law) (y := "filled") (q := "filled.<locals>.<lambda>") (l := PySem.Challenge.rw_lodgewalk_k74_no_plan_leaves_fewer) (n := 63) (k := 6) (x := "script") rfl (by decide) (by kernel_rfl) ⟨rfl, by decide, by decide⟩ LO ?F
    intro w mg fa h Y G hmg0
    obtain ⟨K, KX, c⟩ := Y
    have hmg : mg ("law" : PySem.Str) = some (.ref fa) := by
      have e : (HandSHeadRun.topDef Lw.R.prog 30).name = ("law" : PySem.Str) := by kernel_rfl
      rw [← e]
      exact hmg0
    exact Lw.fin_ok KX G c hmg
end

namespace Lw
open PySem PySem.Spec PyProof.Rows L2 Sw
/-- one step; the goal's head says which -/
local macro_rules | `(tactic| decreasing_trivial_pre_omega) => `(tactic| first
  | ((with_reducible refine Sw.gWi ?_); first
    | with_reducible refine Sw.ws_ift ?_
    | with_reducible refine Sw.ws_iff ?_
    | with_reducible refine Sw.ws_ifn ?_
    | ((with_reducible refine Sw.ws_ifd1 ?_ ?_); (focus first | assumption | omega | (simp; done)))
    | ((with_reducible refine Sw.ws_ifd0 ?_ ?_); (focus first | assumption | omega | (simp; done)))
    | ((with_reducible refine Sw.ws_ifb1 ?_ ?_); (focus rfl))
    | ((with_reducible refine Sw.ws_ifb0 ?_ ?_); (focus rfl))
    )
  | ((with_reducible refine Sw.gW ?_); first
    | with_reducible refine Sw.ws_seqS ?_
    | with_reducible refine Sw.ws_ifS ?_
    | with_reducible refine Sw.ws_forN ?_
    | with_reducible refine Sw.ws_seq ?_
    | with_reducible refine Sw.ws_set ?_
    | with_reducible refine Sw.ws_if ?_
    | with_reducible refine Sw.ws_ret ?_
    | with_reducible refine Sw.ws_next ?_
    | with_reducible refine Sw.ws_drop ?_
    | with_reducible refine Sw.ws_for ?_
    | with_reducible refine Sw.ws_asg ?_
    | with_reducible refine Sw.ws_retN ?_
    | with_reducible refine Sw.ws_raise ?_
    | with_reducible refine Sw.ws_raiseD ?_
    | with_reducible refine Sw.ws_gN ?_
    | with_reducible refine Sw.ws_brk ?_
    | with_reducible refine Sw.ws_cnt ?_
    | ((with_reducible apply Sw.ws_aug); rfl)
    | with_reducible refine Sw.ws_gSub ?_
    | with_reducible refine Sw.ws_gsCons ?_
    | with_reducible refine Sw.ws_gsNil ?_
    | ((with_reducible apply Sw.ws_gsConsE); (focus rfl))
    | ((with_reducible apply Sw.ws_gsNilE); (focus rfl))
    | with_reducible refine Sw.ws_par2 ?_
    | with_reducible refine Sw.ws_par3 ?_
    | ((with_reducible refine Sw.ws_gTup ?_ ?_); (focus rfl))
    | ((with_reducible apply Sw.ws_gSeqN); (focus first | rfl | exact getS_at (by assumption) | exact getS_at sto_at | exact getS_at (sto_app (by assumption)) | exact getS_at (sto_app sto_at)); (focus first | rfl | decide | (simp; done) | (simp; omega)))
    | ((with_reducible apply Sw.ws_gStarN); (focus first | rfl | exact getS_at (by assumption) | exact getS_at sto_at | exact getS_at (sto_app (by assumption)) | exact getS_at (sto_app sto_at)); (focus first | decide | (simp; done) | (simp; omega)))
    )
  | ((with_reducible refine Sw.gI ?_); first
    | with_reducible refine Sw.wp_ift ?_
    | with_reducible refine Sw.wp_iff ?_
    | with_reducible refine Sw.wp_ifn ?_
    | ((with_reducible refine Sw.wp_ifd1 ?_ ?_); (focus first | assumption | omega | (simp; done)))
    | ((with_reducible refine Sw.wp_ifd0 ?_ ?_); (focus first | assumption | omega | (simp; done)))
    | ((with_reducible refine Sw.wp_ifb1 ?_ ?_); (focus rfl))
    | ((with_reducible refine Sw.wp_ifb0 ?_ ?_); (focus rfl))
    )
  | ((with_reducible refine Sw.gF ?_); first
    | ((with_reducible apply Sw.v_var); rfl)
    | with_reducible refine Sw.v_c ?_
    | with_reducible refine Sw.v_cons ?_
    | with_reducible refine Sw.v_nil ?_
    | ((with_reducible refine Sw.v_fn ?_))
    | with_reducible refine Sw.v_call ?_
    | ((with_reducible apply Sw.v_ask); (focus rfl); (focus rfl))
    | with_reducible refine Sw.v_bin ?_
    | with_reducible refine Sw.v_cmp ?_
    | with_reducible refine Sw.v_cmpE ?_
    | with_reducible refine Sw.v_tru ?_
    | with_reducible refine Sw.v_notT ?_
    | with_reducible refine Sw.v_andT ?_
    | with_reducible refine Sw.v_orT ?_
    | with_reducible refine Sw.v_and ?_
    | with_reducible refine Sw.v_or ?_
    | with_reducible refine Sw.v_not ?_
    | with_reducible refine Sw.v_if ?_
    | with_reducible refine Sw.v_chn ?_
    | with_reducible refine Sw.v_chnE ?_
    | with_reducible refine Sw.v_tup ?_
    | with_reducible refine Sw.v_lst ?_
    | with_reducible refine Sw.v_sl ?_
    | with_reducible refine Sw.v_no ?_
    | with_reducible refine Sw.v_so ?_
    | with_reducible refine Sw.v_neg ?_
    | with_reducible refine Sw.v_lc ?_
    | with_reducible refine Sw.v_it ?_
    | with_reducible refine Sw.v_seqI ?_
    | with_reducible refine Sw.v_mt ?_
    | with_reducible refine Sw.v_m1 ?_
    | with_reducible refine Sw.v_dict0 ?_
    | with_reducible refine Sw.v_it1 ?_
    )
  | ((with_reducible refine Sw.gO ?_); first
    | with_reducible refine Sw.v_ltI ?_
    | with_reducible refine Sw.v_leI ?_
    | with_reducible refine Sw.v_gtI ?_
    | with_reducible refine Sw.v_geI ?_
    | with_reducible refine Sw.v_eqI ?_
    | with_reducible refine Sw.v_neI ?_
    | with_reducible refine Sw.v_eqS ?_
    | with_reducible refine Sw.v_neS ?_
    | with_reducible refine Sw.v_truB ?_
    | with_reducible refine Sw.v_truI ?_
    | with_reducible refine Sw.v_truN ?_
    | with_reducible refine Sw.v_truT ?_
    | with_reducible refine Sw.v_seqT ?_
    | with_reducible refine Sw.v_seqR ?_
    | with_reducible refine Sw.v_seqS ?_
    | ((with_reducible apply Sw.v_seqL); (focus first | assumption | exact sto_at | exact sto_app (by assumption) | exact sto_app (sto_app (by assumption)) | exact sto_app sto_at | exact sto_app (sto_app sto_at)))
    | with_reducible refine Sw.v_inK ?_
    | with_reducible refine Sw.v_notInK ?_
    | ((with_reducible apply Sw.wp_opt); (focus rfl))
    )
  | ((with_reducible refine Sw.gE ?_); first
    | with_reducible refine Sw.wp_bind ?_
    | with_reducible refine Sw.wp_ok ?_
    | with_reducible refine Sw.v_addI ?_
    | with_reducible refine Sw.v_subI ?_
    | ((with_reducible refine Sw.v_mulI (.inl ?_) ?_); (focus first | decide | omega))
    | ((with_reducible refine Sw.v_mulT ?_ ?_); exact ⟨by simp, by decide, by decide, by simp⟩)
    | ((with_reducible apply Sw.v_mulL); (focus first | assumption | exact sto_at | exact sto_app (by assumption) | exact sto_app (sto_app (by assumption)) | exact sto_app sto_at | exact sto_app (sto_app sto_at)); (focus exact ⟨by decide, by decide, by simp⟩))
    | ((with_reducible refine Sw.v_modI ?_ ?_); (focus first | decide | omega))
    | ((with_reducible refine Sw.v_addT ?_ ?_); refine line1000 ?_; (focus first | decide | (simp; done) | (simp; omega)))
    | ((with_reducible apply Sw.v_powE); (focus decide +kernel); (focus (simp only [Int.reduceToNat, Int.reducePow]; rfl)))
    | ((with_reducible apply Sw.v_ixL); (first | assumption | exact sto_at | exact sto_app (by assumption) | exact sto_app (sto_app (by assumption)) | exact sto_app sto_at | exact sto_app (sto_app sto_at)); (focus first | rfl | assumption | exact atI_nat (by assumption) | exact Sw.atc0 | exact Sw.atc1 | exact Sw.atc2))
    | ((with_reducible apply Sw.v_ixT); (focus first | rfl | assumption | exact atI_nat (by assumption) | exact Sw.atc0 | exact Sw.atc1 | exact Sw.atc2))
    | ((with_reducible apply Sw.v_ixR); (focus first | rfl | assumption | exact atI_nat (by assumption) | exact Sw.atc0 | exact Sw.atc1 | exact Sw.atc2))
    | with_reducible refine Sw.v_slc1 ?_
    | with_reducible refine Sw.v_slc2 ?_
    | ((with_reducible apply Sw.v_slLt1); (focus first | assumption | exact sto_at | exact sto_app (by assumption) | exact sto_app (sto_app (by assumption)) | exact sto_app sto_at | exact sto_app (sto_app sto_at)))
    | ((with_reducible apply Sw.v_slLt2); (focus first | assumption | exact sto_at | exact sto_app (by assumption) | exact sto_app (sto_app (by assumption)) | exact sto_app sto_at | exact sto_app (sto_app sto_at)))
    | ((with_reducible apply Sw.v_slLd1); (focus first | assumption | exact sto_at | exact sto_app (by assumption) | exact sto_app (sto_app (by assumption)) | exact sto_app sto_at | exact sto_app (sto_app sto_at)))
    | ((with_reducible apply Sw.v_addL); (focus first | assumption | exact sto_at | exact sto_app (by assumption) | exact sto_app (sto_app (by assumption)) | exact sto_app sto_at | exact sto_app (sto_app sto_at)); (focus first | assumption | exact sto_at | exact sto_app (by assumption) | exact sto_app (sto_app (by assumption)) | exact sto_app sto_at | exact sto_app (sto_app sto_at)); (focus first | decide | (simp; done) | (simp; omega)))
    | with_reducible refine Sw.v_sortSet ?_
    | ((with_reducible refine Sw.v_sl0 ?_ ?_); (focus omega))
    | ((with_reducible refine Sw.v_sl1 ?_ ?_); (focus omega))
    | with_reducible refine Sw.v_lenT ?_
    | with_reducible refine Sw.v_lenR ?_
    | ((with_reducible apply Sw.v_lenL); (focus first | assumption | exact sto_at | exact sto_app (by assumption) | exact sto_app (sto_app (by assumption)) | exact sto_app sto_at | exact sto_app (sto_app sto_at)))
    | ((with_reducible apply Sw.v_appT); (focus first | decide | (simp; done) | (simp; omega)))
    | with_reducible refine Sw.v_intI ?_
    | with_reducible refine Sw.v_intB ?_
    | with_reducible refine Sw.v_absI ?_
    | with_reducible refine Sw.v_max2 ?_
    | with_reducible refine Sw.v_min2 ?_
    | with_reducible refine Sw.v_listT ?_
    | ((with_reducible apply Sw.v_listL); (focus first | assumption | exact sto_at | exact sto_app (by assumption) | exact sto_app (sto_app (by assumption)) | exact sto_app sto_at | exact sto_app (sto_app sto_at)))
    | with_reducible refine Sw.v_tupleT ?_
    | ((with_reducible apply Sw.v_tupleL); (focus first | assumption | exact sto_at | exact sto_app (by assumption) | exact sto_app (sto_app (by assumption)) | exact sto_app sto_at | exact sto_app (sto_app sto_at)))
    | ((with_reducible refine Sw.v_rng1 ?_ ?_); (focus first | exact ⟨by omega, by omega, by omega, by omega⟩ | decide))
    | ((with_reducible refine Sw.v_rng2 ?_ ?_); (focus first | exact ⟨by omega, by omega, by omega, by omega⟩ | decide))
    | with_reducible refine Sw.v_zipT ?_
    | with_reducible refine Sw.v_enumT ?_
    | ((with_reducible apply Sw.v_enumL); (focus first | assumption | exact sto_at | exact sto_app (by assumption) | exact sto_app (sto_app (by assumption)) | exact sto_app sto_at | exact sto_app (sto_app sto_at)))
    | with_reducible refine Sw.v_andI ?_
    | with_reducible refine Sw.v_orI ?_
    | ((with_reducible refine Sw.v_shrI ?_ ?_); decide)
    | ((with_reducible apply Sw.v_allL); (focus first | assumption | exact sto_at | exact sto_app (by assumption) | exact sto_app (sto_app (by assumption)) | exact sto_app sto_at | exact sto_app (sto_app sto_at)))
    | ((with_reducible apply Sw.v_anyL); (focus first | assumption | exact sto_at | exact sto_app (by assumption) | exact sto_app (sto_app (by assumption)) | exact sto_app sto_at | exact sto_app (sto_app sto_at)))
    | with_reducible refine Sw.v_addGI ?_
    | ((with_reducible refine Sw.v_addGT ?_ ?_); refine line1000 ?_; (focus first | decide | (simp; done) | (simp; omega)))
    | ((with_reducible apply Sw.v_ixK); (focus rfl))
    )
  | with_reducible refine ⟨_, rfl, ?_⟩
  | with_reducible refine ⟨_, _, rfl, ?_⟩
  | with_reducible refine ⟨_, _, _, rfl, ?_⟩
  | ((with_reducible refine And.intro ?_ ?_); (focus first | rfl | decide | exact isLst_at sto_at | exact isLst_at (by assumption) | exact isLst_at (sto_app sto_at) | exact isLst_at (sto_app (by assumption)) | (simp; done) | (simp; omega)))
  | exact ⟨[], (List.append_nil _).symm⟩
  | with_reducible rfl
  | with_reducible refine Sw.ex_app ?_
  | exact ⟨_, rfl⟩
  )
def sinceL (many : Nat) (puts : List (List Nat)) : List Nat := (puts.zipIdx.foldl (fun acc p => p.1.foldl (fun a q => a.set q p.2) acc) (List.replicate many 0))
theorem setAll_len (row : List Nat) (t : Nat) : ∀ acc : List Nat, (row.foldl (fun a q => a.set q t) acc).length = acc.length := by
  induction row with
  | nil => intro acc; rfl
  | cons q row ih => intro acc; simp only [List.foldl_cons]; rw [ih]; simp
theorem since_len' (ps : List (List Nat × Nat)) : ∀ acc : List Nat, (ps.foldl (fun acc p => p.1.foldl (fun a q => a.set q p.2) acc) acc).length = acc.length := by
  induction ps with
  | nil => intro acc; rfl
  | cons p ps ih => intro acc; simp only [List.foldl_cons]; rw [ih, setAll_len]
theorem since_len {many : Nat} {puts : List (List Nat)} : (sinceL many puts).length = many := by unfold sinceL; rw [since_len']; simp
theorem setAll_lt {row : List Nat} {t n : Nat} (ht : t < n) : ∀ {acc : List Nat}, (∀ x ∈ acc, x < n) → ∀ x ∈ row.foldl (fun a q => a.set q t) acc, x < n := by
  induction row with
  | nil => intro acc h; exact h
  | cons q row ih =>
    intro acc h
    simp only [List.foldl_cons]
    refine ih fun x hx => ?_
    rcases List.mem_or_eq_of_mem_set hx with h1 | h1
    · exact h x h1
    · omega
theorem since_lt {many : Nat} {puts : List (List Nat)} (h : puts ≠ []) : ∀ x ∈ sinceL many puts, x < puts.length := by
  have key : ∀ (ps : List (List Nat × Nat)) (acc : List Nat), (∀ p ∈ ps, p.2 < puts.length) → (∀ x ∈ acc, x < puts.length) → ∀ x ∈ ps.foldl (fun acc p => p.1.foldl (fun a q => a.set q p.2) acc) acc, x < puts.length := by
    intro ps
    induction ps with
    | nil => intro acc _ h; exact h
    | cons p ps ih =>
      intro acc h1 h2
      simp only [List.foldl_cons]
      exact ih _ (fun q hq => h1 q (List.mem_cons_of_mem _ hq)) (setAll_lt (h1 p List.mem_cons_self) h2)
  refine key _ _ (fun p hp => ?_) fun x hx => ?_
  · obtain ⟨x, i⟩ := p
    have := (List.mem_zipIdx hp).2.1
    simpa using this
  · rw [(List.mem_replicate.mp hx).2]
    exact List.length_pos_iff.mpr h
def owedL (since : List Nat) (ticks width t : Nat) : Int := (since.countP (fun s => decide (t ≤ s)) : Nat) - (width : Int) * ((ticks : Int) - t)
def orderL (since : List Nat) : List Nat := (keySort (since.map Int.ofNat)).map Int.toNat
theorem keySort_perm (ns : List Int) : (keySort ns).Perm ((List.range ns.length).map Int.ofNat) := List.mergeSort_perm _ _
theorem order_perm (since : List Nat) : (orderL since).Perm (List.range since.length) := by
  have h := (keySort_perm (since.map Int.ofNat)).map Int.toNat
  unfold orderL
  refine h.trans ?_
  rw [List.map_map, List.length_map]
  have e : (Int.toNat ∘ Int.ofNat) = id := by funext x; rfl
  rw [e, List.map_id]
theorem order_cast (since : List Nat) : keySort (since.map Int.ofNat) = (orderL since).map Int.ofNat := by
  unfold orderL
  rw [List.map_map]
  have h : ∀ x ∈ keySort (since.map Int.ofNat), (Int.ofNat ∘ Int.toNat) x = x := fun x hx => by
    have := (keySort_perm _).subset hx
    obtain ⟨n, _, rfl⟩ := List.mem_map.mp this
    rfl
  conv => lhs; rw [← List.map_id (keySort (since.map Int.ofNat))]
  exact List.map_congr_left fun x hx => (h x hx).symm
theorem order_nodup (since : List Nat) : (orderL since).Nodup := (order_perm since).nodup_iff.mpr List.nodup_range
theorem order_mem {since : List Nat} {p : Nat} : p ∈ orderL since ↔ p < since.length := by rw [(order_perm since).mem_iff, List.mem_range]
theorem getD_cast {since : List Nat} {i : Nat} : (since.map Int.ofNat).getD i 0 = ((since.getD i 0 : Nat) : Int) := by
  rw [List.getD_eq_getElem?_getD, List.getD_eq_getElem?_getD, List.getElem?_map]
  cases since[i]? <;> rfl
theorem order_sorted (since : List Nat) : (orderL since).Pairwise fun a b => since.getD b 0 ≤ since.getD a 0 := by
  have h : (keySort (since.map Int.ofNat)).Pairwise fun a b => leK (since.map Int.ofNat) a b = true := by
    refine List.pairwise_mergeSort (fun a b c h1 h2 => ?_) (fun a b => ?_) _
    · unfold leK at *
      simp only [decide_eq_true_eq] at *
      omega
    · unfold leK
      simp only [Bool.or_eq_true, decide_eq_true_eq]
      omega
  rw [order_cast, List.pairwise_map] at h
  refine h.imp fun {a b} hab => ?_
  unfold leK at hab
  simp only [decide_eq_true_eq] at hab
  have ea : (Int.ofNat a).toNat = a := rfl
  have eb : (Int.ofNat b).toNat = b := rfl
  rw [ea, eb, getD_cast, getD_cast] at hab
  omega
def sentL (since : List Nat) (w t : Nat) (todo : List Nat) : List Nat := (todo.filter fun p => decide (since.getD p 0 ≤ t)).take w
def restL (todo sent : List Nat) : List Nat := todo.filter fun p => decide (p ∉ sent)
def goL (since : List Nat) (w : Nat) : List Nat → List Nat → List (List Nat) × List Nat
  | [], todo => ([], todo)
  | t :: ts, todo => (sentL since w t todo :: (goL since w ts (restL todo (sentL since w t todo))).1, (goL since w ts (restL todo (sentL since w t todo))).2)
theorem sent_sub {since : List Nat} {w t : Nat} {todo : List Nat} : (sentL since w t todo).Sublist todo := (List.take_sublist _ _).trans List.filter_sublist
theorem rest_sub {todo sent : List Nat} : (restL todo sent).Sublist todo := List.filter_sublist
theorem sent_le {since : List Nat} {w t : Nat} {todo : List Nat} {p : Nat} (h : p ∈ sentL since w t todo) : since.getD p 0 ≤ t := by
  have := (List.take_subset _ _ h)
  simpa using (List.mem_filter.mp this).2
theorem sent_len {since : List Nat} {w t : Nat} {todo : List Nat} : (sentL since w t todo).length ≤ w := by unfold sentL; rw [List.length_take]; omega
theorem go_len {since : List Nat} {w : Nat} : ∀ {ts todo : List Nat}, (goL since w ts todo).1.length = ts.length
  | [], _ => rfl
  | _ :: _, _ => by simp only [goL, List.length_cons]; rw [go_len]
theorem go_restsub {since : List Nat} {w : Nat} : ∀ {ts todo : List Nat}, (goL since w ts todo).2.Sublist todo
  | [], _ => List.Sublist.refl _
  | t :: ts, todo => by
    simp only [goL]
    exact (go_restsub (ts := ts)).trans rest_sub
theorem step_perm {since : List Nat} {w t : Nat} {todo : List Nat} (h : todo.Nodup) : (sentL since w t todo ++ restL todo (sentL since w t todo)).Perm todo := by
  have h1 : (todo.filter fun p => decide (p ∈ sentL since w t todo)).Perm (sentL since w t todo) := by
    refine (List.perm_ext_iff_of_nodup (h.sublist List.filter_sublist) (h.sublist sent_sub)).mpr fun a => ?_
    rw [List.mem_filter]
    simp only [decide_eq_true_eq]
    exact ⟨fun z => z.2, fun z => ⟨sent_sub.subset z, z⟩⟩
  have h2 := List.filter_append_perm (fun p => decide (p ∈ sentL since w t todo)) todo
  refine List.Perm.trans (h1.symm.append_right _) ?_
  refine List.Perm.trans (List.Perm.of_eq ?_) h2
  unfold restL
  congr 2
  funext p
  simp
theorem go_perm {since : List Nat} {w : Nat} : ∀ {ts todo : List Nat}, todo.Nodup → ((goL since w ts todo).1.flatten ++ (goL since w ts todo).2).Perm todo
  | [], todo, _ => by simp [goL]
  | t :: ts, todo, h => by
    simp only [goL, List.flatten_cons, List.append_assoc]
    exact ((go_perm (h.sublist rest_sub)).append_left _).trans (step_perm h)
theorem take_out {R : Nat → Nat → Prop} {l : List Nat} {w r : Nat} (h : l.Pairwise R) (h1 : r ∈ l) (h2 : r ∉ l.take w) : (l.take w).length = w ∧ ∀ q ∈ l.take w, R q r := by
  have hd : r ∈ l.drop w := by
    rw [← List.take_append_drop w l] at h1
    rcases List.mem_append.mp h1 with h1 | h1
    · exact (h2 h1).elim
    · exact h1
  have hl : w < l.length := by
    rcases Nat.lt_or_ge w l.length with z | z
    · exact z
    · rw [List.drop_eq_nil_of_le z] at hd
      cases hd
  refine ⟨by rw [List.length_take]; omega, fun q hq => ?_⟩
  rw [← List.take_append_drop w l] at h
  exact (List.pairwise_append.mp h).2.2 q hq r hd
/-- what a page that is left tells of a tick's row -/
theorem go_full {since : List Nat} {w : Nat} : ∀ {ts todo : List Nat}, (todo.Pairwise fun a b => since.getD b 0 ≤ since.getD a 0) → ∀ r ∈ (goL since w ts todo).2, ∀ (i t : Nat) (row : List Nat), ts[i]? = some t → (goL since w ts todo).1[i]? = some row → since.getD r 0 ≤ t → row.length = w ∧ ∀ q ∈ row, since.getD r 0 ≤ since.getD q 0
  | [], _, _, _, _, i, t, row, e, _, _ => by simp at e
  | t0 :: ts, todo, h, r, hr, 0, t, row, e1, e2, hle => by
    simp only [goL, List.getElem?_cons_zero, Option.some.injEq] at e1 e2
    subst e1 e2
    have h1 : r ∈ restL todo (sentL since w t0 todo) := go_restsub.subset (show r ∈ (goL since w ts (restL todo (sentL since w t0 todo))).2 from hr)
    obtain ⟨h2, h3⟩ := List.mem_filter.mp h1
    have h3 : r ∉ sentL since w t0 todo := by simpa using h3
    refine take_out (h.sublist List.filter_sublist) ?_ h3
    exact List.mem_filter.mpr ⟨h2, by simpa using hle⟩
  | t0 :: ts, todo, h, r, hr, i + 1, t, row, e1, e2, hle => by
    simp only [goL, List.getElem?_cons_succ] at e1 e2
    exact go_full (h.sublist rest_sub) r hr i t row e1 e2 hle
theorem go_row {since : List Nat} {w : Nat} : ∀ {ts todo : List Nat} (i t : Nat) (row : List Nat), ts[i]? = some t → (goL since w ts todo).1[i]? = some row → row.length ≤ w ∧ (∀ q ∈ row, since.getD q 0 ≤ t ∧ q ∈ todo) ∧ row.Sublist todo
  | [], _, i, t, row, e, _ => by simp at e
  | t0 :: ts, todo, 0, t, row, e1, e2 => by
    simp only [goL, List.getElem?_cons_zero, Option.some.injEq] at e1 e2
    subst e1 e2
    exact ⟨sent_len, fun q hq => ⟨sent_le hq, sent_sub.subset hq⟩, sent_sub⟩
  | t0 :: ts, todo, i + 1, t, row, e1, e2 => by
    simp only [goL, List.getElem?_cons_succ] at e1 e2
    obtain ⟨a, b, c⟩ := go_row i t row e1 e2
    exact ⟨a, fun q hq => ⟨(b q hq).1, rest_sub.subset (b q hq).2⟩, c.trans rest_sub⟩
/-- counts over rows that go with ticks -/
theorem count_le {P : Nat → Bool} {u w : Nat} : ∀ {ts : List Nat} {rows : List (List Nat)}, ts.length = rows.length → (∀ (i t : Nat) (row : List Nat), ts[i]? = some t → rows[i]? = some row → row.length ≤ w ∧ (t < u → ∀ q ∈ row, P q = false)) → rows.flatten.countP P ≤ w * ts.countP fun t => decide (u ≤ t)
  | [], [], _, _ => by simp
  | t :: ts, row :: rows, hl, h => by
    have ih := count_le (P := P) (u := u) (w := w) (ts := ts) (rows := rows) (by simpa using hl) fun i t r e1 e2 => h (i + 1) t r (by simpa using e1) (by simpa using e2)
    obtain ⟨h1, h2⟩ := h 0 t row rfl rfl
    rw [List.flatten_cons, List.countP_append, List.countP_cons]
    by_cases hu : u ≤ t
    · rw [if_pos (by simpa using hu), Nat.mul_add, Nat.mul_one]
      have := (List.countP_le_length (p := P) (l := row))
      omega
    · rw [if_neg (by simpa using hu), Nat.add_zero]
      have e : row.countP P = 0 := List.countP_eq_zero.mpr fun q hq => by simp [h2 (by omega) q hq]
      omega
  | [], _ :: _, hl, _ => by simp at hl
  | _ :: _, [], hl, _ => by simp at hl
theorem count_eq {P : Nat → Bool} {u w : Nat} : ∀ {ts : List Nat} {rows : List (List Nat)}, ts.length = rows.length → (∀ (i t : Nat) (row : List Nat), ts[i]? = some t → rows[i]? = some row → (t < u → ∀ q ∈ row, P q = false) ∧ (u ≤ t → row.length = w ∧ ∀ q ∈ row, P q = true)) → rows.flatten.countP P = w * ts.countP fun t => decide (u ≤ t)
  | [], [], _, _ => by simp
  | t :: ts, row :: rows, hl, h => by
    have ih := count_eq (P := P) (u := u) (w := w) (ts := ts) (rows := rows) (by simpa using hl) fun i t r e1 e2 => h (i + 1) t r (by simpa using e1) (by simpa using e2)
    obtain ⟨h1, h2⟩ := h 0 t row rfl rfl
    rw [List.flatten_cons, List.countP_append, List.countP_cons]
    by_cases hu : u ≤ t
    · rw [if_pos (by simpa using hu), Nat.mul_add, Nat.mul_one]
      obtain ⟨a, b⟩ := h2 hu
      have e : row.countP P = row.length := List.countP_eq_length.mpr b
      omega
    · rw [if_neg (by simpa using hu), Nat.add_zero]
      have e : row.countP P = 0 := List.countP_eq_zero.mpr fun q hq => by simp [h1 (by omega) q hq]
      omega
  | [], _ :: _, hl, _ => by simp at hl
  | _ :: _, [], hl, _ => by simp at hl
theorem ticks_count (n u : Nat) (h : u ≤ n) : (List.range n).reverse.countP (fun t => decide (u ≤ t)) = n - u := by
  rw [(List.reverse_perm _).countP_eq]
  induction n with
  | zero => simp
  | succ n ih =>
    rw [List.range_succ, List.countP_append]
    by_cases hu : u ≤ n
    · rw [ih hu]
      simp [hu]
      omega
    · have : u = n + 1 := by omega
      subst this
      have e : (List.range n).countP (fun t => decide (n + 1 ≤ t)) = 0 := List.countP_eq_zero.mpr fun q hq => by
        have := List.mem_range.mp hq
        simp
        omega
      rw [e]
      simp
theorem count_since {since : List Nat} {u : Nat} : (orderL since).countP (fun p => decide (u ≤ since.getD p 0)) = since.countP fun s => decide (u ≤ s) := by
  rw [(order_perm since).countP_eq]
  have e : since = (List.range since.length).map fun p => since.getD p 0 := by
    apply List.ext_getElem
    · simp
    · intro i h1 h2
      simp only [List.getElem_map, List.getElem_range]
      rw [List.getD_eq_getElem?_getD, List.getElem?_eq_getElem h1]
      rfl
  conv => rhs; rw [e, List.countP_map]
  rfl
section
variable {since : List Nat} {ticks w : Nat}
abbrev planG (since : List Nat) (ticks w : Nat) : List (List Nat) × List Nat := goL since w (List.range ticks).reverse (orderL since)
theorem plan_perm : ((planG since ticks w).1.flatten ++ (planG since ticks w).2).Perm (orderL since) := go_perm (order_nodup since)
theorem count_split (u : Nat) : since.countP (fun s => decide (u ≤ s)) = (planG since ticks w).1.flatten.countP (fun p => decide (u ≤ since.getD p 0)) + (planG since ticks w).2.countP fun p => decide (u ≤ since.getD p 0) := by
  rw [← count_since, ← plan_perm.countP_eq, List.countP_append]
theorem mulcast {w n u : Nat} (h : u ≤ n) : ((w * (n - u) : Nat) : Int) = (w : Int) * ((n : Int) - u) := by
  rw [Int.natCast_mul, Int.natCast_sub h]
/-- no plan leaves fewer than what is owed from any tick on: here of the told one -/
theorem owed_le {u : Nat} (hu : u ≤ ticks) : owedL since ticks w u ≤ (planG since ticks w).2.length := by
  have h1 := count_split (since := since) (ticks := ticks) (w := w) u
  have h2 : (planG since ticks w).1.flatten.countP (fun p => decide (u ≤ since.getD p 0)) ≤ w * (List.range ticks).reverse.countP fun t => decide (u ≤ t) := count_le go_len.symm fun i t row e1 e2 => by
    obtain ⟨a, b, _⟩ := go_row i t row e1 e2
    exact ⟨a, fun hl q hq => by
      have := (b q hq).1
      simp only [decide_eq_false_iff_not]
      omega⟩
  rw [ticks_count _ _ hu] at h2
  have h3 := List.countP_le_length (p := fun p => decide (u ≤ since.getD p 0)) (l := (planG since ticks w).2)
  unfold owedL
  rw [← mulcast hu]
  omega
theorem least_of {α : Type} (f : α → Nat) : ∀ {l : List α}, l ≠ [] → ∃ x ∈ l, ∀ y ∈ l, f x ≤ f y
  | [], h => (h rfl).elim
  | [a], _ => ⟨a, List.mem_cons_self, fun y hy => by rw [List.mem_singleton.mp hy]; exact Nat.le_refl _⟩
  | a :: b :: l, _ => by
    obtain ⟨x, hx, hm⟩ := least_of f (l := b :: l) (by simp)
    by_cases h : f a ≤ f x
    · exact ⟨a, List.mem_cons_self, fun y hy => by
        rcases List.mem_cons.mp hy with rfl | hy
        · exact Nat.le_refl _
        · exact Nat.le_trans h (hm y hy)⟩
    · exact ⟨x, List.mem_cons_of_mem _ hx, fun y hy => by
        rcases List.mem_cons.mp hy with rfl | hy
        · omega
        · exact hm y hy⟩
/-- as many are owed from some tick on -/
theorem owed_some (hs : ∀ x ∈ since, x < ticks ∨ x = 0) (hn : since ≠ []) : ∃ u, u ≤ ticks ∧ owedL since ticks w u = (planG since ticks w).2.length := by
  by_cases he : (planG since ticks w).2 = []
  · have ht : 0 < ticks := by
      rcases Nat.eq_zero_or_pos ticks with z | z
      · exfalso
        subst z
        have e : (planG since 0 w).2 = orderL since := rfl
        rw [e] at he
        have := (order_perm since).length_eq
        rw [he] at this
        simp at this
        exact hn (List.eq_nil_of_length_eq_zero this.symm)
      · exact z
    refine ⟨ticks, Nat.le_refl _, ?_⟩
    unfold owedL
    rw [he]
    have e : since.countP (fun s => decide (ticks ≤ s)) = 0 := List.countP_eq_zero.mpr fun x hx => by
      have := hs x hx
      simp only [decide_eq_true_eq]
      omega
    rw [e]
    simp
  · obtain ⟨r, hr, hm⟩ := least_of (fun p => since.getD p 0) he
    have hr2 : since.getD r 0 ≤ ticks := by
      have h1 := order_mem.mp (go_restsub.subset hr)
      have h2 : since.getD r 0 ∈ since := by
        rw [List.getD_eq_getElem?_getD, List.getElem?_eq_getElem h1]
        exact List.getElem_mem _
      have := hs _ h2
      omega
    refine ⟨since.getD r 0, hr2, ?_⟩
    have h1 := count_split (since := since) (ticks := ticks) (w := w) (since.getD r 0)
    have h2 : (planG since ticks w).1.flatten.countP (fun p => decide (since.getD r 0 ≤ since.getD p 0)) = w * (List.range ticks).reverse.countP fun t => decide (since.getD r 0 ≤ t) := count_eq go_len.symm fun i t row e1 e2 => by
      obtain ⟨_, b, _⟩ := go_row i t row e1 e2
      refine ⟨fun hl q hq => ?_, fun hl => ?_⟩
      · have := (b q hq).1
        simp only [decide_eq_false_iff_not]
        omega
      · obtain ⟨a, c⟩ := go_full (order_sorted since) r hr i t row e1 e2 hl
        exact ⟨a, fun q hq => by simpa using c q hq⟩
    rw [ticks_count _ _ hr2] at h2
    have h3 : (planG since ticks w).2.countP (fun p => decide (since.getD r 0 ≤ since.getD p 0)) = (planG since ticks w).2.length := List.countP_eq_length.mpr fun q hq => by simpa using hm q hq
    unfold owedL
    rw [← mulcast hr2]
    omega
end

theorem isi_b {x : W} {st : Sto} {m n : String} (h : tgOf isiC st x = some (.b m)) (hm : m ∈ bTs) (hn : n ∈ bTs) : wIsi isiT isiC [x, .ty n] st = .ok (.bl (bIs m n)) st := by
  have e2 : isiT (.b m) (.b n) = some (bIs m n) := by
    show (if m ∈ bTs ∧ n ∈ bTs then some (bIs m n) else none) = _
    rw [if_pos ⟨hm, hn⟩]
  simp only [wIsi, h, tgT, e2]
/-- a thing whose type is a built-in one -/
def TyB (st : Sto) (x : W) : Prop := ∃ m, tgOf isiC st x = some (.b m) ∧ m ∈ bTs
theorem TyB.int {st : Sto} {i : Int} : TyB st (.int i) := ⟨"int", rfl, by decide⟩
theorem TyB.bl {st : Sto} {i : Bool} : TyB st (.bl i) := ⟨"bool", rfl, by decide⟩
theorem TyB.str {st : Sto} {i : Str} : TyB st (.str i) := ⟨"str", rfl, by decide⟩
theorem TyB.non {st : Sto} : TyB st .non := ⟨"NoneType", rfl, by decide⟩
theorem TyB.tup {st : Sto} {l : List W} : TyB st (.tup l) := ⟨"tuple", rfl, by decide⟩
theorem TyB.lst {st : Sto} {n : Nat} {l : List W} (h : st[n]? = some (.lst l)) : TyB st (.ref n) := ⟨"list", by simp only [tgOf, h], by decide⟩
theorem TyB.dct {st : Sto} {n : Nat} {l : List (Key × W)} (h : st[n]? = some (.dct l)) : TyB st (.ref n) := ⟨"dict", by simp only [tgOf, h], by decide⟩
theorem TyB.app {st g : Sto} {x : W} (h : TyB st x) : TyB (st ++ g) x := by
  obtain ⟨m, h, hm⟩ := h
  refine ⟨m, ?_, hm⟩
  cases x with
  | ref n =>
    simp only [tgOf] at h ⊢
    cases e : st[n]? with
    | none => rw [e] at h; cases h
    | some o => rw [sto_app e, ← e]; exact h
  | _ => exact h
def isInt : W → Bool
  | .int _ => true
  | _ => false
def isBl : W → Bool
  | .bl _ => true
  | _ => false
def isTup : W → Bool
  | .tup _ => true
  | _ => false
def isSt : W → Bool
  | .str _ => true
  | _ => false
theorem isi_int {st : Sto} {x : W} (h : TyB st x) : wIsi isiT isiC [x, .ty "int"] st = .ok (.bl (isInt x || isBl x)) st := by
  obtain ⟨m, h, hm⟩ := h
  rw [isi_b h hm (by decide)]
  cases x <;> first | (cases h <;> rfl) | skip
  rename_i n
  simp only [tgOf] at h
  split at h <;> first | (cases h; rfl) | (split at h <;> cases h) | cases h
theorem isi_bool {st : Sto} {x : W} (h : TyB st x) : wIsi isiT isiC [x, .ty "bool"] st = .ok (.bl (isBl x)) st := by
  obtain ⟨m, h, hm⟩ := h
  rw [isi_b h hm (by decide)]
  cases x <;> first | (cases h <;> rfl) | skip
  rename_i n
  simp only [tgOf] at h
  split at h <;> first | (cases h; rfl) | (split at h <;> cases h) | cases h
theorem isi_tup {st : Sto} {x : W} (h : TyB st x) : wIsi isiT isiC [x, .ty "tuple"] st = .ok (.bl (isTup x)) st := by
  obtain ⟨m, h, hm⟩ := h
  rw [isi_b h hm (by decide)]
  cases x <;> first | (cases h <;> rfl) | skip
  rename_i n
  simp only [tgOf] at h
  split at h <;> first | (cases h; rfl) | (split at h <;> cases h) | cases h
theorem isi_str {st : Sto} {x : W} (h : TyB st x) : wIsi isiT isiC [x, .ty "str"] st = .ok (.bl (isSt x)) st := by
  obtain ⟨m, h, hm⟩ := h
  rw [isi_b h hm (by decide)]
  cases x <;> first | (cases h <;> rfl) | skip
  rename_i n
  simp only [tgOf] at h
  split at h <;> first | (cases h; rfl) | (split at h <;> cases h) | cases h
def isW (a b : Int) : W → Bool
  | .int i => decide (a ≤ i) && decide (i ≤ b)
  | _ => false
theorem within_ok {st : Sto} {x : W} {a b : Int} (h : TyB st x) : f_is_within [x, .int a, .int b] st = .ok (.bl (isW a b x)) st := by
  have h1 := isi_int h
  have h2 := isi_bool h
  refine clean_id (fRun_rt (e := [some x, some (.int a), some (.int b)]) rfl ?_)
  cases x with
  | int i =>
    by_cases hc : a ≤ i <;> simp only [b_is_within, fRet, fAnd, fNot, fChnE, fCall, fCons, fNil, fVar, fC, List.getElem?_cons_zero, List.getElem?_cons_succ, An.bind_ok, h1, h2, isInt, isBl, Bool.or_false, Bool.not_false, truW, optB_some, if_true, wLe, wIb, hc, decide_true, decide_false, Bool.false_eq_true, if_false, An.toS_ok, isW, Bool.true_and, Bool.false_and]
  | bl i => simp only [b_is_within, fRet, fAnd, fNot, fChnE, fCall, fCons, fNil, fVar, fC, List.getElem?_cons_zero, List.getElem?_cons_succ, An.bind_ok, h1, h2, isInt, isBl, Bool.or_true, Bool.not_true, truW, optB_some, if_true, Bool.false_eq_true, if_false, An.toS_ok, isW]
  | _ => simp only [b_is_within, fRet, fAnd, fNot, fChnE, fCall, fCons, fNil, fVar, fC, List.getElem?_cons_zero, List.getElem?_cons_succ, An.bind_ok, h1, h2, isInt, isBl, Bool.or_false, truW, optB_some, Bool.false_eq_true, if_false, An.toS_ok, isW]
theorem getB_map {α : Type} {f : α → Bool} : ∀ l : List α, getB (l.map fun x => W.bl (f x)) = some (l.map f)
  | [] => rfl
  | x :: l => by simp [getB, getB_map l]
theorem all_ok {st : Sto} {n : Nat} {α : Type} {l : List α} {f : α → Bool} (h : st[n]? = some (.lst (l.map fun x => W.bl (f x)))) : wAll [.ref n] st = .ok (.bl (l.all f)) st := by
  simp only [wAll, wBl, getL, h, Option.bind_some, getB_map, optB_some, An.bind_ok]
  simp [List.all_map, Function.comp_def]
def wI8 (ns : List Nat) : List W := ns.map fun n : Nat => .int n
theorem toD_int {st : Sto} {k : Nat} {i : Int} : toD st (k + 1) (.int i) = some (.int i) := rfl
theorem toD_tup {st : Sto} {k : Nat} {l : List W} : toD st (k + 1) (.tup l) = (l.mapM (toD st k)).map .tuple := by
  conv => lhs; unfold toD
theorem toD_wI {st : Sto} {ns : List Nat} : toD st 64 (.tup (wI8 ns)) = some (.tuple (ns.map fun n : Nat => .int n)) := by
  refine (toD_tup (k := 63)).trans ?_
  rw [mapM_all (g := fun w => match w with | .int b => .int b | _ => .none)]
  · simp [wI8, Function.comp_def]
  · intro x hx
    obtain ⟨b, _, rfl⟩ := List.mem_map.mp hx
    rfl


end Lw

namespace Lw
open PySem PySem.Spec PyProof.Rows L2 Sw
/-- one step; the goal's head says which -/
local macro_rules | `(tactic| decreasing_trivial_pre_omega) => `(tactic| first
  | ((with_reducible refine Sw.gWi ?_); first
    | with_reducible refine Sw.ws_ift ?_
    | with_reducible refine Sw.ws_iff ?_
    | with_reducible refine Sw.ws_ifn ?_
    | ((with_reducible refine Sw.ws_ifd1 ?_ ?_); (focus first | assumption | omega | (simp; done)))
    | ((with_reducible refine Sw.ws_ifd0 ?_ ?_); (focus first | assumption | omega | (simp; done)))
    | ((with_reducible refine Sw.ws_ifb1 ?_ ?_); (focus rfl))
    | ((with_reducible refine Sw.ws_ifb0 ?_ ?_); (focus rfl))
    )
  | ((with_reducible refine Sw.gW ?_); first
    | with_reducible refine Sw.ws_seqS ?_
    | with_reducible refine Sw.ws_ifS ?_
    | with_reducible refine Sw.ws_forN ?_
    | with_reducible refine Sw.ws_seq ?_
    | with_reducible refine Sw.ws_set ?_
    | with_reducible refine Sw.ws_if ?_
    | with_reducible refine Sw.ws_ret ?_
    | with_reducible refine Sw.ws_next ?_
    | with_reducible refine Sw.ws_drop ?_
    | with_reducible refine Sw.ws_for ?_
    | with_reducible refine Sw.ws_asg ?_
    | with_reducible refine Sw.ws_retN ?_
    | with_reducible refine Sw.ws_raise ?_
    | with_reducible refine Sw.ws_raiseD ?_
    | with_reducible refine Sw.ws_gN ?_
    | with_reducible refine Sw.ws_brk ?_
    | with_reducible refine Sw.ws_cnt ?_
    | ((with_reducible apply Sw.ws_aug); rfl)
    | with_reducible refine Sw.ws_gSub ?_
    | with_reducible refine Sw.ws_gsCons ?_
    | with_reducible refine Sw.ws_gsNil ?_
    | ((with_reducible apply Sw.ws_gsConsE); (focus rfl))
    | ((with_reducible apply Sw.ws_gsNilE); (focus rfl))
    | with_reducible refine Sw.ws_par2 ?_
    | with_reducible refine Sw.ws_par3 ?_
    | ((with_reducible refine Sw.ws_gTup ?_ ?_); (focus rfl))
    | ((with_reducible apply Sw.ws_gSeqN); (focus first | rfl | exact getS_at (by assumption) | exact getS_at sto_at | exact getS_at (sto_app (by assumption)) | exact getS_at (sto_app sto_at)); (focus first | rfl | decide | (simp; done) | (simp; omega)))
    | ((with_reducible apply Sw.ws_gStarN); (focus first | rfl | exact getS_at (by assumption) | exact getS_at sto_at | exact getS_at (sto_app (by assumption)) | exact getS_at (sto_app sto_at)); (focus first | decide | (simp; done) | (simp; omega)))
    )
  | ((with_reducible refine Sw.gI ?_); first
    | with_reducible refine Sw.wp_ift ?_
    | with_reducible refine Sw.wp_iff ?_
    | with_reducible refine Sw.wp_ifn ?_
    | ((with_reducible refine Sw.wp_ifd1 ?_ ?_); (focus first | assumption | omega | (simp; done)))
    | ((with_reducible refine Sw.wp_ifd0 ?_ ?_); (focus first | assumption | omega | (simp; done)))
    | ((with_reducible refine Sw.wp_ifb1 ?_ ?_); (focus rfl))
    | ((with_reducible refine Sw.wp_ifb0 ?_ ?_); (focus rfl))
    )
  | ((with_reducible refine Sw.gF ?_); first
    | ((with_reducible apply Sw.v_var); rfl)
    | with_reducible refine Sw.v_c ?_
    | with_reducible refine Sw.v_cons ?_
    | with_reducible refine Sw.v_nil ?_
    | ((with_reducible refine Sw.v_fn ?_))
    | with_reducible refine Sw.v_call ?_
    | ((with_reducible apply Sw.v_ask); (focus rfl); (focus rfl))
    | with_reducible refine Sw.v_bin ?_
    | with_reducible refine Sw.v_cmp ?_
    | with_reducible refine Sw.v_cmpE ?_
    | with_reducible refine Sw.v_tru ?_
    | with_reducible refine Sw.v_notT ?_
    | with_reducible refine Sw.v_andT ?_
    | with_reducible refine Sw.v_orT ?_
    | with_reducible refine Sw.v_and ?_
    | with_reducible refine Sw.v_or ?_
    | with_reducible refine Sw.v_not ?_
    | with_reducible refine Sw.v_if ?_
    | with_reducible refine Sw.v_chn ?_
    | with_reducible refine Sw.v_chnE ?_
    | with_reducible refine Sw.v_tup ?_
    | with_reducible refine Sw.v_lst ?_
    | with_reducible refine Sw.v_sl ?_
    | with_reducible refine Sw.v_no ?_
    | with_reducible refine Sw.v_so ?_
    | with_reducible refine Sw.v_neg ?_
    | with_reducible refine Sw.v_lc ?_
    | with_reducible refine Sw.v_it ?_
    | with_reducible refine Sw.v_seqI ?_
    | with_reducible refine Sw.v_mt ?_
    | with_reducible refine Sw.v_m1 ?_
    | with_reducible refine Sw.v_dict0 ?_
    | with_reducible refine Sw.v_it1 ?_
    )
  | ((with_reducible refine Sw.gO ?_); first
    | with_reducible refine Sw.v_ltI ?_
    | with_reducible refine Sw.v_leI ?_
    | with_reducible refine Sw.v_gtI ?_
    | with_reducible refine Sw.v_geI ?_
    | with_reducible refine Sw.v_eqI ?_
    | with_reducible refine Sw.v_neI ?_
    | with_reducible refine Sw.v_eqS ?_
    | with_reducible refine Sw.v_neS ?_
    | with_reducible refine Sw.v_truB ?_
    | with_reducible refine Sw.v_truI ?_
    | with_reducible refine Sw.v_truN ?_
    | with_reducible refine Sw.v_truT ?_
    | with_reducible refine Sw.v_seqT ?_
    | with_reducible refine Sw.v_seqR ?_
    | with_reducible refine Sw.v_seqS ?_
    | ((with_reducible apply Sw.v_seqL); (focus first | assumption | exact sto_at | exact sto_app (by assumption) | exact sto_app (sto_app (by assumption)) | exact sto_app sto_at | exact sto_app (sto_app sto_at)))
    | with_reducible refine Sw.v_inK ?_
    | with_reducible refine Sw.v_notInK ?_
    | ((with_reducible apply Sw.wp_opt); (focus rfl))
    )
  | ((with_reducible refine Sw.gE ?_); first
    | with_reducible refine Sw.wp_bind ?_
    | with_reducible refine Sw.wp_ok ?_
    | with_reducible refine Sw.v_addI ?_
    | with_reducible refine Sw.v_subI ?_
    | ((with_reducible refine Sw.v_mulI (.inl ?_) ?_); (focus first | decide | omega))
    | ((with_reducible refine Sw.v_mulT ?_ ?_); exact ⟨by simp, by decide, by decide, by simp⟩)
    | ((with_reducible apply Sw.v_mulL); (focus first | assumption | exact sto_at | exact sto_app (by assumption) | exact sto_app (sto_app (by assumption)) | exact sto_app sto_at | exact sto_app (sto_app sto_at)); (focus exact ⟨by decide, by decide, by simp⟩))
    | ((with_reducible refine Sw.v_modI ?_ ?_); (focus first | decide | omega))
    | ((with_reducible refine Sw.v_addT ?_ ?_); refine line1000 ?_; (focus first | decide | (simp; done) | (simp; omega)))
    | ((with_reducible apply Sw.v_powE); (focus decide +kernel); (focus (simp only [Int.reduceToNat, Int.reducePow]; rfl)))
    | ((with_reducible apply Sw.v_ixL); (first | assumption | exact sto_at | exact sto_app (by assumption) | exact sto_app (sto_app (by assumption)) | exact sto_app sto_at | exact sto_app (sto_app sto_at)); (focus first | rfl | assumption | exact atI_nat (by assumption) | exact Sw.atc0 | exact Sw.atc1 | exact Sw.atc2))
    | ((with_reducible apply Sw.v_ixT); (focus first | rfl | assumption | exact atI_nat (by assumption) | exact Sw.atc0 | exact Sw.atc1 | exact Sw.atc2))
    | ((with_reducible apply Sw.v_ixR); (focus first | rfl | assumption | exact atI_nat (by assumption) | exact Sw.atc0 | exact Sw.atc1 | exact Sw.atc2))
    | with_reducible refine Sw.v_slc1 ?_
    | with_reducible refine Sw.v_slc2 ?_
    | ((with_reducible apply Sw.v_slLt1); (focus first | assumption | exact sto_at | exact sto_app (by assumption) | exact sto_app (sto_app (by assumption)) | exact sto_app sto_at | exact sto_app (sto_app sto_at)))
    | ((with_reducible apply Sw.v_slLt2); (focus first | assumption | exact sto_at | exact sto_app (by assumption) | exact sto_app (sto_app (by assumption)) | exact sto_app sto_at | exact sto_app (sto_app sto_at)))
    | ((with_reducible apply Sw.v_slLd1); (focus first | assumption | exact sto_at | exact sto_app (by assumption) | exact sto_app (sto_app (by assumption)) | exact sto_app sto_at | exact sto_app (sto_app sto_at)))
    | ((with_reducible apply Sw.v_addL); (focus first | assumption | exact sto_at | exact sto_app (by assumption) | exact sto_app (sto_app (by assumption)) | exact sto_app sto_at | exact sto_app (sto_app sto_at)); (focus first | assumption | exact sto_at | exact sto_app (by assumption) | exact sto_app (sto_app (by assumption)) | exact sto_app sto_at | exact sto_app (sto_app sto_at)); (focus first | decide | (simp; done) | (simp; omega)))
    | with_reducible refine Sw.v_sortSet ?_
    | ((with_reducible refine Sw.v_sl0 ?_ ?_); (focus omega))
    | ((with_reducible refine Sw.v_sl1 ?_ ?_); (focus omega))
    | with_reducible refine Sw.v_lenT ?_
    | with_reducible refine Sw.v_lenR ?_
    | ((with_reducible apply Sw.v_lenL); (focus first | assumption | exact sto_at | exact sto_app (by assumption) | exact sto_app (sto_app (by assumption)) | exact sto_app sto_at | exact sto_app (sto_app sto_at)))
    | ((with_reducible apply Sw.v_appT); (focus first | decide | (simp; done) | (simp; omega)))
    | with_reducible refine Sw.v_intI ?_
    | with_reducible refine Sw.v_intB ?_
    | with_reducible refine Sw.v_absI ?_
    | with_reducible refine Sw.v_max2 ?_
    | with_reducible refine Sw.v_min2 ?_
    | with_reducible refine Sw.v_listT ?_
    | ((with_reducible apply Sw.v_listL); (focus first | assumption | exact sto_at | exact sto_app (by assumption) | exact sto_app (sto_app (by assumption)) | exact sto_app sto_at | exact sto_app (sto_app sto_at)))
    | with_reducible refine Sw.v_tupleT ?_
    | ((with_reducible apply Sw.v_tupleL); (focus first | assumption | exact sto_at | exact sto_app (by assumption) | exact sto_app (sto_app (by assumption)) | exact sto_app sto_at | exact sto_app (sto_app sto_at)))
    | ((with_reducible refine Sw.v_rng1 ?_ ?_); (focus first | exact ⟨by omega, by omega, by omega, by omega⟩ | decide))
    | ((with_reducible refine Sw.v_rng2 ?_ ?_); (focus first | exact ⟨by omega, by omega, by omega, by omega⟩ | decide))
    | with_reducible refine Sw.v_zipT ?_
    | with_reducible refine Sw.v_enumT ?_
    | ((with_reducible apply Sw.v_enumL); (focus first | assumption | exact sto_at | exact sto_app (by assumption) | exact sto_app (sto_app (by assumption)) | exact sto_app sto_at | exact sto_app (sto_app sto_at)))
    | with_reducible refine Sw.v_andI ?_
    | with_reducible refine Sw.v_orI ?_
    | ((with_reducible refine Sw.v_shrI ?_ ?_); decide)
    | ((with_reducible apply Sw.v_allL); (focus first | assumption | exact sto_at | exact sto_app (by assumption) | exact sto_app (sto_app (by assumption)) | exact sto_app sto_at | exact sto_app (sto_app sto_at)))
    | ((with_reducible apply Sw.v_anyL); (focus first | assumption | exact sto_at | exact sto_app (by assumption) | exact sto_app (sto_app (by assumption)) | exact sto_app sto_at | exact sto_app (sto_app sto_at)))
    | with_reducible refine Sw.v_addGI ?_
    | ((with_reducible refine Sw.v_addGT ?_ ?_); refine line1000 ?_; (focus first | decide | (simp; done) | (simp; omega)))
    | ((with_reducible apply Sw.v_ixK); (focus rfl))
    )
  | with_reducible refine ⟨_, rfl, ?_⟩
  | with_reducible refine ⟨_, _, rfl, ?_⟩
  | with_reducible refine ⟨_, _, _, rfl, ?_⟩
  | ((with_reducible refine And.intro ?_ ?_); (focus first | rfl | decide | exact isLst_at sto_at | exact isLst_at (by assumption) | exact isLst_at (sto_app sto_at) | exact isLst_at (sto_app (by assumption)) | (simp; done) | (simp; omega)))
  | exact ⟨[], (List.append_nil _).symm⟩
  | with_reducible rfl
  | with_reducible refine Sw.ex_app ?_
  | exact ⟨_, rfl⟩
  )
theorem e_pot : f_law_pot = potF := rfl
theorem e_take : f_law_take = takeF := rfl
def putsW (puts : List (List Nat)) : List W := puts.map fun r => W.tup (wI8 r)
def putFrom (k : Nat) (rest : List (List Nat)) (acc : List Nat) : List Nat := (rest.zipIdx k).foldl (fun acc p => p.1.foldl (fun a q => a.set q p.2) acc) acc
theorem since_eq {many : Nat} {puts : List (List Nat)} : sinceL many puts = putFrom 0 puts (List.replicate many 0) := rfl
theorem putFrom_cons {k : Nat} {r : List Nat} {rest : List (List Nat)} {acc : List Nat} : putFrom k (r :: rest) acc = putFrom (k + 1) rest (r.foldl (fun a q => a.set q k) acc) := rfl
theorem wI8_len {ns : List Nat} : (wI8 ns).length = ns.length := by simp [wI8]
theorem wI8_set {ns : List Nat} {i t : Nat} : (wI8 ns).set i (.int t) = wI8 (ns.set i t) := by
  unfold wI8
  rw [List.map_set]
theorem rep0 {many : Nat} : (List.replicate ((many : Int)).toNat [W.int 0]).flatten = wI8 (List.replicate many 0) := by
  rw [Int.toNat_natCast]
  induction many with
  | zero => rfl
  | succ n ih => rw [List.replicate_succ, List.flatten_cons, ih, List.replicate_succ]; rfl
theorem wSet_w8 {st : Sto} {n p t : Nat} {acc : List Nat} (h : st[n]? = some (.lst (wI8 acc))) (hp : p < acc.length) : wSet (.ref n) (.int p) (.int t) st = some (st.set n (.lst (wI8 (acc.set p t)))) := by
  rw [wSet_at h (by rw [wI8_len]; exact hp), wI8_set]
theorem sto_set2 {st : Sto} {a b c : Ob} : (st ++ [a, b]).set (st.length + 1) c = st ++ [a, c] := by
  rw [List.set_append_right _ _ (by omega)]
  simp
theorem sto_at2 {st : Sto} {a b : Ob} : (st ++ [a, b])[st.length + 1]? = some b := by
  rw [List.getElem?_append_right (by omega)]
  simp
theorem app2 {st : Sto} {a b : Ob} : st ++ [a] ++ [b] = st ++ [a, b] := by simp
theorem len1 {st : Sto} {a : Ob} : (st ++ [a]).length = st.length + 1 := by simp
theorem since_body {b : FS} (hb : b = b_last_ticks) {many : Nat} {puts : List (List Nat)} {st : Sto} (hm : many ≤ 100) (hp : ∀ row ∈ puts, ∀ p ∈ row, p < many) :
    clean (fRun 6 b) [.int many, .tup (putsW puts)] st = .ok (.ref (st.length + 1)) (st ++ [.lst [.int 0], .lst (wI8 (sinceL many puts))]) := by
  subst hb
  have key : wp (fRun 6 b_last_ticks [.int many, .tup (putsW puts)] st) (fun w s => w = .ref (st.length + 1) ∧ s = st ++ [.lst [.int 0], .lst (wI8 (sinceL many puts))]) noX := by
    refine wp_runN ?_
    unfold b_last_ticks
    repeat decreasing_trivial_pre_omega
    refine Sw.v_mulL sto_at ⟨by omega, by omega, by decide⟩ ?_
    rw [rep0, len1, app2]
    repeat decreasing_trivial_pre_omega
    refine ws_forS (fun r e s => ∃ (k : Nat) (rest : List (List Nat)) (acc : List Nat) (a b c : Option W), r = enumW k (putsW rest) ∧ (∀ row ∈ rest, ∀ p ∈ row, p < many) ∧ acc.length = many ∧ putFrom k rest acc = sinceL many puts ∧
      e = [some (.int many), some (.tup (putsW puts)), some (.ref (st.length + 1)), a, b, c] ∧ s = st ++ [.lst [.int 0], .lst (wI8 acc)]) ⟨0, puts, _, _, _, _, rfl, hp, by simp, rfl, rfl, rfl⟩ ?_ ?_
    · rintro w r e s ⟨k, rest, acc, a, b, c, hr, hrest, hacc, hput, rfl, rfl⟩
      cases rest with
      | nil => cases hr
      | cons row rest =>
        simp only [putsW, List.map_cons, enumW, List.cons.injEq] at hr
        obtain ⟨rfl, rfl⟩ := hr
        refine ⟨trivial, ?_⟩
        repeat decreasing_trivial_pre_omega
        refine ws_forS (fun r e s => ∃ (row2 acc2 : List Nat) (c : Option W), r = wI8 row2 ∧ (∀ p ∈ row2, p < many) ∧ acc2.length = many ∧ row2.foldl (fun a q => a.set q k) acc2 = row.foldl (fun a q => a.set q k) acc ∧
          e = [some (.int many), some (.tup (putsW puts)), some (.ref (st.length + 1)), some (.int k), some (.tup (wI8 row)), c] ∧ s = st ++ [.lst [.int 0], .lst (wI8 acc2)]) ⟨row, acc, _, rfl, hrest row List.mem_cons_self, hacc, rfl, rfl, rfl⟩ ?_ ?_
        · rintro w2 r2 e s ⟨row2, acc2, c, hr2, hlt, hacc2, hf, rfl, rfl⟩
          cases row2 with
          | nil => cases hr2
          | cons p row2 =>
            simp only [wI8, List.map_cons, List.cons.injEq] at hr2
            obtain ⟨rfl, rfl⟩ := hr2
            refine ⟨trivial, ?_⟩
            repeat decreasing_trivial_pre_omega
            refine ⟨_, wSet_w8 sto_at2 (by rw [hacc2]; exact hlt p List.mem_cons_self), ?_⟩
            rw [sto_set2]
            exact ⟨row2, acc2.set p k, _, rfl, fun q hq => hlt q (List.mem_cons_of_mem _ hq), by simpa using hacc2, hf, rfl, rfl⟩
        · rintro e s ⟨row2, acc2, c, hr2, hlt, hacc2, hf, rfl, rfl⟩
          cases row2 with
          | cons _ _ => cases hr2
          | nil =>
            refine ⟨trivial, k + 1, rest, acc2, _, _, _, rfl, fun r hr => hrest r (List.mem_cons_of_mem _ hr), hacc2, ?_, rfl, rfl⟩
            simp only [List.foldl_nil] at hf
            rw [hf, ← putFrom_cons]
            exact hput
    · rintro e s ⟨k, rest, acc, a, b, c, hr, hrest, hacc, hput, rfl, rfl⟩
      cases rest with
      | cons _ _ => cases hr
      | nil =>
        refine ⟨trivial, ?_⟩
        have e : acc = sinceL many puts := hput
        rw [e]
        repeat decreasing_trivial_pre_omega
  obtain ⟨w, s, e, rfl, rfl⟩ := wp_get key
  unfold clean
  rw [e]
  dsimp only
  rw [if_neg]
  rintro ⟨_, h⟩
  simp [closedW] at h
  omega
theorem last_ok {many : Nat} {puts : List (List Nat)} {st : Sto} (hm : many ≤ 100) (hp : ∀ row ∈ puts, ∀ p ∈ row, p < many) :
    f_last_ticks [.int many, .tup (putsW puts)] st = .ok (.ref (st.length + 1)) (st ++ [.lst [.int 0], .lst (wI8 (sinceL many puts))]) := since_body rfl hm hp
theorem lawsince_ok {many : Nat} {puts : List (List Nat)} {st : Sto} (hm : many ≤ 100) (hp : ∀ row ∈ puts, ∀ p ∈ row, p < many) :
    f_law_since [.int many, .tup (putsW puts)] st = .ok (.ref (st.length + 1)) (st ++ [.lst [.int 0], .lst (wI8 (sinceL many puts))]) := since_body rfl hm hp

def unI : W → Nat
  | .int i => i.toNat
  | _ => 0
theorem unI_int {n : Nat} : unI (.int n) = n := rfl
theorem rngW_nat {n : Nat} : rngW 0 (n : Int) = (List.range n).map fun i : Nat => W.int i := by
  unfold rngW
  simp
theorem getI_wI8 {ns : List Nat} : getI (wI8 ns) = some (ns.map Int.ofNat) := by
  unfold wI8
  induction ns with
  | nil => rfl
  | cons n ns ih => simp only [List.map_cons, getI, ih, Option.map_some]; rfl
theorem ints_wI8 {ns : List Nat} : (ns.map Int.ofNat).map W.int = wI8 ns := by
  unfold wI8
  rw [List.map_map]
  rfl
theorem count_wI8 {ns : List Nat} {t : Nat} : ((wI8 ns).filter fun w => decide (t ≤ unI w)).length = ns.countP fun s => decide (t ≤ s) := by
  unfold wI8
  rw [List.filter_map, List.length_map, List.countP_eq_length_filter]
  rfl
theorem v_sortKey {nm q : Str} {i : Nat} {f : FE} {env : En} {st : Sto} {Q : W → Sto → Prop} {E : XE} (h : wp (f env st) (fun x s => ∃ (w : W) (l : List W) (ns : List Int), x = .int ns.length ∧ env[i]? = some (some w) ∧ getL s w = some l ∧ getI l = some ns ∧ ns.length ≤ 1000 ∧ s[0]? = some (.tab nm q) ∧ Q (.ref s.length) (s ++ [.lst ((keySort ns).map .int)])) E) :
    wp (fSortKey nm q i f env st) Q E := wp_bind (wp_mono h (fun x s ⟨w, l, ns, e1, e2, e3, e4, e5, e6, k⟩ => by
      subst e1
      rw [e2]
      dsimp only
      rw [e3]
      dsimp only
      rw [e4]
      dsimp only
      rw [e6]
      dsimp only
      exact wp_if1 ⟨rfl, e5, rfl, rfl⟩ k) fun _ _ _ h => h)
theorem v_sortI {n : Nat} {l : List W} {ns : List Int} {st : Sto} {Q : W → Sto → Prop} {E : XE} (h : st[n]? = some (.lst l)) (h2 : getI l = some ns) (q : Q (.ref st.length) (st ++ [.lst ((ns.mergeSort leI).map .int)])) : wp (wSortI [.ref n] st) Q E := by
  refine wp_eq (a := .ref st.length) (s := st ++ [.lst ((ns.mergeSort leI).map .int)]) ?_ q
  simp only [wSortI, getL, h, Option.bind_some, h2, optB_some, An.bind_ok]
theorem owed_body {b : FS} (hb : b = b_owed_from) {since : List Nat} {n ticks width t : Nat} {st : Sto} (hs : st[n]? = some (.lst (wI8 since))) (hl : since.length ≤ 100) (hw : width ≤ 100) (ht : ticks ≤ 100) (ht2 : t ≤ 100) :
    clean (fRun 5 b) [.ref n, .int ticks, .int width, .int t] st = .ok (.int (owedL since ticks width t)) st := by
  subst hb
  refine clean_wp (wp_run rfl ?_) rfl
  unfold b_owed_from
  repeat decreasing_trivial_pre_omega
  refine Sw.v_lcPM (fun w => decide (t ≤ unI w)) id (by rw [wI8_len]; omega) (fun _ => sto_app hs) (fun acc w hw => ⟨_, rfl, ?_⟩) ?_
  · obtain ⟨k, _, rfl⟩ := List.mem_map.mp hw
    repeat decreasing_trivial_pre_omega
    refine ⟨by rw [unI_int]; exact decide_eq_decide.mpr Int.ofNat_le, rfl, ?_⟩
    intro _
    repeat decreasing_trivial_pre_omega
  · rw [List.map_id]
    refine Sw.v_lenL sto_at ?_
    rw [count_wI8]
    repeat decreasing_trivial_pre_omega
theorem owed_ok {since : List Nat} {n ticks width t : Nat} {st : Sto} (hs : st[n]? = some (.lst (wI8 since))) (hl : since.length ≤ 100) (hw : width ≤ 100) (ht : ticks ≤ 100) (ht2 : t ≤ 100) : f_owed_from [.ref n, .int ticks, .int width, .int t] st = .ok (.int (owedL since ticks width t)) st := owed_body rfl hs hl hw ht ht2
theorem lawowed_ok {since : List Nat} {n ticks width t : Nat} {st : Sto} (hs : st[n]? = some (.lst (wI8 since))) (hl : since.length ≤ 100) (hw : width ≤ 100) (ht : ticks ≤ 100) (ht2 : t ≤ 100) : f_law_owed [.ref n, .int ticks, .int width, .int t] st = .ok (.int (owedL since ticks width t)) st := owed_body rfl hs hl hw ht ht2
def firstL (since : List Nat) (ticks width : Nat) (left : Int) : Nat := (((List.range (ticks + 1)).filter fun t => decide (owedL since ticks width t = left)).head?).getD 0
theorem first_spec {since : List Nat} {ticks width : Nat} {left : Int} (h : ∃ u, u ≤ ticks ∧ owedL since ticks width u = left) :
    firstL since ticks width left ≤ ticks ∧ owedL since ticks width (firstL since ticks width left) = left ∧ (∀ t, t < firstL since ticks width left → owedL since ticks width t ≠ left) ∧
      ∃ l, ((List.range (ticks + 1)).filter fun t => decide (owedL since ticks width t = left)) = firstL since ticks width left :: l := by
  obtain ⟨u, hu, e⟩ := h
  have hm : u ∈ (List.range (ticks + 1)).filter fun t => decide (owedL since ticks width t = left) := List.mem_filter.mpr ⟨List.mem_range.mpr (by omega), by simpa using e⟩
  have hp : ((List.range (ticks + 1)).filter fun t => decide (owedL since ticks width t = left)).Pairwise (· < ·) := List.pairwise_lt_range.sublist List.filter_sublist
  unfold firstL
  cases hq : (List.range (ticks + 1)).filter fun t => decide (owedL since ticks width t = left) with
  | nil => rw [hq] at hm; cases hm
  | cons a l =>
    rw [hq] at hp
    have ha : a ∈ (List.range (ticks + 1)).filter fun t => decide (owedL since ticks width t = left) := by rw [hq]; exact List.mem_cons_self
    obtain ⟨h1, h2⟩ := List.mem_filter.mp ha
    have h1 := List.mem_range.mp h1
    refine ⟨by show a ≤ ticks; omega, by simpa using h2, fun t htl e => ?_, l, rfl⟩
    have htl : t < a := htl
    have ht : t ∈ (List.range (ticks + 1)).filter fun t => decide (owedL since ticks width t = left) := List.mem_filter.mpr ⟨List.mem_range.mpr (by omega), by simpa using e⟩
    rw [hq] at ht
    rcases List.mem_cons.mp ht with rfl | ht
    · omega
    · have := (List.pairwise_cons.mp hp).1 t ht
      omega
theorem first_ok {since : List Nat} {n ticks width : Nat} {left : Int} {st : Sto} (hs : st[n]? = some (.lst (wI8 since))) (hl : since.length ≤ 100) (hw : width ≤ 100) (ht : ticks ≤ 99) (h : ∃ u, u ≤ ticks ∧ owedL since ticks width u = left) :
    f_first_owing [.ref n, .int ticks, .int width, .int left] st = .ok (.int (firstL since ticks width left)) st := by
  refine clean_wp (wp_run rfl ?_) rfl
  unfold b_first_owing
  repeat decreasing_trivial_pre_omega
  rw [show ((ticks : Int) + 1) = ((ticks + 1 : Nat) : Int) by omega, rngW_nat]
  refine Sw.v_lcPM (fun w => decide (owedL since ticks width (unI w) = left)) id (by simp; omega) (fun _ => trivial) (fun acc w hw2 => ⟨_, rfl, ?_⟩) ?_
  · obtain ⟨k, hk, rfl⟩ := List.mem_map.mp hw2
    repeat decreasing_trivial_pre_omega
    have hk := List.mem_range.mp hk
    refine wp_eq (owed_ok (sto_app hs) hl hw (by omega) (by omega)) ?_
    repeat decreasing_trivial_pre_omega
    intro _
    repeat decreasing_trivial_pre_omega
  · rw [List.map_id]
    obtain ⟨_, _, _, l, e⟩ := first_spec h
    have e2 : ((List.range (ticks + 1)).map fun i : Nat => W.int i).filter (fun w => decide (owedL since ticks width (unI w) = left)) = .int (firstL since ticks width left) :: l.map fun i : Nat => W.int i := by
      rw [List.filter_map]
      have e3 : ((fun w => decide (owedL since ticks width (unI w) = left)) ∘ fun i : Nat => W.int i) = fun t => decide (owedL since ticks width t = left) := rfl
      rw [e3, e]
      rfl
    rw [e2]
    repeat decreasing_trivial_pre_omega


end Lw

namespace Lw
open PySem PySem.Spec PyProof.Rows L2 Sw
/-- one step; the goal's head says which -/
local macro_rules | `(tactic| decreasing_trivial_pre_omega) => `(tactic| first
  | ((with_reducible refine Sw.gWi ?_); first
    | with_reducible refine Sw.ws_ift ?_
    | with_reducible refine Sw.ws_iff ?_
    | with_reducible refine Sw.ws_ifn ?_
    | ((with_reducible refine Sw.ws_ifd1 ?_ ?_); (focus first | assumption | omega | (simp; done)))
    | ((with_reducible refine Sw.ws_ifd0 ?_ ?_); (focus first | assumption | omega | (simp; done)))
    | ((with_reducible refine Sw.ws_ifb1 ?_ ?_); (focus rfl))
    | ((with_reducible refine Sw.ws_ifb0 ?_ ?_); (focus rfl))
    )
  | ((with_reducible refine Sw.gW ?_); first
    | with_reducible refine Sw.ws_seqS ?_
    | with_reducible refine Sw.ws_ifS ?_
    | with_reducible refine Sw.ws_forN ?_
    | with_reducible refine Sw.ws_seq ?_
    | with_reducible refine Sw.ws_set ?_
    | with_reducible refine Sw.ws_if ?_
    | with_reducible refine Sw.ws_ret ?_
    | with_reducible refine Sw.ws_next ?_
    | with_reducible refine Sw.ws_drop ?_
    | with_reducible refine Sw.ws_for ?_
    | with_reducible refine Sw.ws_asg ?_
    | with_reducible refine Sw.ws_retN ?_
    | with_reducible refine Sw.ws_raise ?_
    | with_reducible refine Sw.ws_raiseD ?_
    | with_reducible refine Sw.ws_gN ?_
    | with_reducible refine Sw.ws_brk ?_
    | with_reducible refine Sw.ws_cnt ?_
    | ((with_reducible apply Sw.ws_aug); rfl)
    | with_reducible refine Sw.ws_gSub ?_
    | with_reducible refine Sw.ws_gsCons ?_
    | with_reducible refine Sw.ws_gsNil ?_
    | ((with_reducible apply Sw.ws_gsConsE); (focus rfl))
    | ((with_reducible apply Sw.ws_gsNilE); (focus rfl))
    | with_reducible refine Sw.ws_par2 ?_
    | with_reducible refine Sw.ws_par3 ?_
    | ((with_reducible refine Sw.ws_gTup ?_ ?_); (focus rfl))
    | ((with_reducible apply Sw.ws_gSeqN); (focus first | rfl | exact getS_at (by assumption) | exact getS_at sto_at | exact getS_at (sto_app (by assumption)) | exact getS_at (sto_app sto_at)); (focus first | rfl | decide | (simp; done) | (simp; omega)))
    | ((with_reducible apply Sw.ws_gStarN); (focus first | rfl | exact getS_at (by assumption) | exact getS_at sto_at | exact getS_at (sto_app (by assumption)) | exact getS_at (sto_app sto_at)); (focus first | decide | (simp; done) | (simp; omega)))
    )
  | ((with_reducible refine Sw.gI ?_); first
    | with_reducible refine Sw.wp_ift ?_
    | with_reducible refine Sw.wp_iff ?_
    | with_reducible refine Sw.wp_ifn ?_
    | ((with_reducible refine Sw.wp_ifd1 ?_ ?_); (focus first | assumption | omega | (simp; done)))
    | ((with_reducible refine Sw.wp_ifd0 ?_ ?_); (focus first | assumption | omega | (simp; done)))
    | ((with_reducible refine Sw.wp_ifb1 ?_ ?_); (focus rfl))
    | ((with_reducible refine Sw.wp_ifb0 ?_ ?_); (focus rfl))
    )
  | ((with_reducible refine Sw.gF ?_); first
    | ((with_reducible apply Sw.v_var); rfl)
    | with_reducible refine Sw.v_c ?_
    | with_reducible refine Sw.v_cons ?_
    | with_reducible refine Sw.v_nil ?_
    | ((with_reducible refine Sw.v_fn ?_))
    | with_reducible refine Sw.v_call ?_
    | ((with_reducible apply Sw.v_ask); (focus rfl); (focus rfl))
    | with_reducible refine Sw.v_bin ?_
    | with_reducible refine Sw.v_cmp ?_
    | with_reducible refine Sw.v_cmpE ?_
    | with_reducible refine Sw.v_tru ?_
    | with_reducible refine Sw.v_notT ?_
    | with_reducible refine Sw.v_andT ?_
    | with_reducible refine Sw.v_orT ?_
    | with_reducible refine Sw.v_and ?_
    | with_reducible refine Sw.v_or ?_
    | with_reducible refine Sw.v_not ?_
    | with_reducible refine Sw.v_if ?_
    | with_reducible refine Sw.v_chn ?_
    | with_reducible refine Sw.v_chnE ?_
    | with_reducible refine Sw.v_tup ?_
    | with_reducible refine Sw.v_lst ?_
    | with_reducible refine Sw.v_sl ?_
    | with_reducible refine Sw.v_no ?_
    | with_reducible refine Sw.v_so ?_
    | with_reducible refine Sw.v_neg ?_
    | with_reducible refine Sw.v_lc ?_
    | with_reducible refine Sw.v_it ?_
    | with_reducible refine Sw.v_seqI ?_
    | with_reducible refine Sw.v_mt ?_
    | with_reducible refine Sw.v_m1 ?_
    | with_reducible refine Sw.v_dict0 ?_
    | with_reducible refine Sw.v_it1 ?_
    )
  | ((with_reducible refine Sw.gO ?_); first
    | with_reducible refine Sw.v_ltI ?_
    | with_reducible refine Sw.v_leI ?_
    | with_reducible refine Sw.v_gtI ?_
    | with_reducible refine Sw.v_geI ?_
    | with_reducible refine Sw.v_eqI ?_
    | with_reducible refine Sw.v_neI ?_
    | with_reducible refine Sw.v_eqS ?_
    | with_reducible refine Sw.v_neS ?_
    | with_reducible refine Sw.v_truB ?_
    | with_reducible refine Sw.v_truI ?_
    | with_reducible refine Sw.v_truN ?_
    | with_reducible refine Sw.v_truT ?_
    | with_reducible refine Sw.v_seqT ?_
    | with_reducible refine Sw.v_seqR ?_
    | with_reducible refine Sw.v_seqS ?_
    | ((with_reducible apply Sw.v_seqL); (focus first | assumption | exact sto_at | exact sto_app (by assumption) | exact sto_app (sto_app (by assumption)) | exact sto_app sto_at | exact sto_app (sto_app sto_at)))
    | with_reducible refine Sw.v_inK ?_
    | with_reducible refine Sw.v_notInK ?_
    | ((with_reducible apply Sw.wp_opt); (focus rfl))
    )
  | ((with_reducible refine Sw.gE ?_); first
    | with_reducible refine Sw.wp_bind ?_
    | with_reducible refine Sw.wp_ok ?_
    | with_reducible refine Sw.v_addI ?_
    | with_reducible refine Sw.v_subI ?_
    | ((with_reducible refine Sw.v_mulI (.inl ?_) ?_); (focus first | decide | omega))
    | ((with_reducible refine Sw.v_mulT ?_ ?_); exact ⟨by simp, by decide, by decide, by simp⟩)
    | ((with_reducible apply Sw.v_mulL); (focus first | assumption | exact sto_at | exact sto_app (by assumption) | exact sto_app (sto_app (by assumption)) | exact sto_app sto_at | exact sto_app (sto_app sto_at)); (focus exact ⟨by decide, by decide, by simp⟩))
    | ((with_reducible refine Sw.v_modI ?_ ?_); (focus first | decide | omega))
    | ((with_reducible refine Sw.v_addT ?_ ?_); refine line1000 ?_; (focus first | decide | (simp; done) | (simp; omega)))
    | ((with_reducible apply Sw.v_powE); (focus decide +kernel); (focus (simp only [Int.reduceToNat, Int.reducePow]; rfl)))
    | ((with_reducible apply Sw.v_ixL); (first | assumption | exact sto_at | exact sto_app (by assumption) | exact sto_app (sto_app (by assumption)) | exact sto_app sto_at | exact sto_app (sto_app sto_at)); (focus first | rfl | assumption | exact atI_nat (by assumption) | exact Sw.atc0 | exact Sw.atc1 | exact Sw.atc2))
    | ((with_reducible apply Sw.v_ixT); (focus first | rfl | assumption | exact atI_nat (by assumption) | exact Sw.atc0 | exact Sw.atc1 | exact Sw.atc2))
    | ((with_reducible apply Sw.v_ixR); (focus first | rfl | assumption | exact atI_nat (by assumption) | exact Sw.atc0 | exact Sw.atc1 | exact Sw.atc2))
    | with_reducible refine Sw.v_slc1 ?_
    | with_reducible refine Sw.v_slc2 ?_
    | ((with_reducible apply Sw.v_slLt1); (focus first | assumption | exact sto_at | exact sto_app (by assumption) | exact sto_app (sto_app (by assumption)) | exact sto_app sto_at | exact sto_app (sto_app sto_at)))
    | ((with_reducible apply Sw.v_slLt2); (focus first | assumption | exact sto_at | exact sto_app (by assumption) | exact sto_app (sto_app (by assumption)) | exact sto_app sto_at | exact sto_app (sto_app sto_at)))
    | ((with_reducible apply Sw.v_slLd1); (focus first | assumption | exact sto_at | exact sto_app (by assumption) | exact sto_app (sto_app (by assumption)) | exact sto_app sto_at | exact sto_app (sto_app sto_at)))
    | ((with_reducible apply Sw.v_addL); (focus first | assumption | exact sto_at | exact sto_app (by assumption) | exact sto_app (sto_app (by assumption)) | exact sto_app sto_at | exact sto_app (sto_app sto_at)); (focus first | assumption | exact sto_at | exact sto_app (by assumption) | exact sto_app (sto_app (by assumption)) | exact sto_app sto_at | exact sto_app (sto_app sto_at)); (focus first | decide | (simp; done) | (simp; omega)))
    | with_reducible refine Sw.v_sortSet ?_
    | ((with_reducible refine Sw.v_sl0 ?_ ?_); (focus omega))
    | ((with_reducible refine Sw.v_sl1 ?_ ?_); (focus omega))
    | with_reducible refine Sw.v_lenT ?_
    | with_reducible refine Sw.v_lenR ?_
    | ((with_reducible apply Sw.v_lenL); (focus first | assumption | exact sto_at | exact sto_app (by assumption) | exact sto_app (sto_app (by assumption)) | exact sto_app sto_at | exact sto_app (sto_app sto_at)))
    | ((with_reducible apply Sw.v_appT); (focus first | decide | (simp; done) | (simp; omega)))
    | with_reducible refine Sw.v_intI ?_
    | with_reducible refine Sw.v_intB ?_
    | with_reducible refine Sw.v_absI ?_
    | with_reducible refine Sw.v_max2 ?_
    | with_reducible refine Sw.v_min2 ?_
    | with_reducible refine Sw.v_listT ?_
    | ((with_reducible apply Sw.v_listL); (focus first | assumption | exact sto_at | exact sto_app (by assumption) | exact sto_app (sto_app (by assumption)) | exact sto_app sto_at | exact sto_app (sto_app sto_at)))
    | with_reducible refine Sw.v_tupleT ?_
    | ((with_reducible apply Sw.v_tupleL); (focus first | assumption | exact sto_at | exact sto_app (by assumption) | exact sto_app (sto_app (by assumption)) | exact sto_app sto_at | exact sto_app (sto_app sto_at)))
    | ((with_reducible refine Sw.v_rng1 ?_ ?_); (focus first | exact ⟨by omega, by omega, by omega, by omega⟩ | decide))
    | ((with_reducible refine Sw.v_rng2 ?_ ?_); (focus first | exact ⟨by omega, by omega, by omega, by omega⟩ | decide))
    | with_reducible refine Sw.v_zipT ?_
    | with_reducible refine Sw.v_enumT ?_
    | ((with_reducible apply Sw.v_enumL); (focus first | assumption | exact sto_at | exact sto_app (by assumption) | exact sto_app (sto_app (by assumption)) | exact sto_app sto_at | exact sto_app (sto_app sto_at)))
    | with_reducible refine Sw.v_andI ?_
    | with_reducible refine Sw.v_orI ?_
    | ((with_reducible refine Sw.v_shrI ?_ ?_); decide)
    | ((with_reducible apply Sw.v_allL); (focus first | assumption | exact sto_at | exact sto_app (by assumption) | exact sto_app (sto_app (by assumption)) | exact sto_app sto_at | exact sto_app (sto_app sto_at)))
    | ((with_reducible apply Sw.v_anyL); (focus first | assumption | exact sto_at | exact sto_app (by assumption) | exact sto_app (sto_app (by assumption)) | exact sto_app sto_at | exact sto_app (sto_app sto_at)))
    | with_reducible refine Sw.v_addGI ?_
    | ((with_reducible refine Sw.v_addGT ?_ ?_); refine line1000 ?_; (focus first | decide | (simp; done) | (simp; omega)))
    | ((with_reducible apply Sw.v_ixK); (focus rfl))
    )
  | with_reducible refine ⟨_, rfl, ?_⟩
  | with_reducible refine ⟨_, _, rfl, ?_⟩
  | with_reducible refine ⟨_, _, _, rfl, ?_⟩
  | ((with_reducible refine And.intro ?_ ?_); (focus first | rfl | decide | exact isLst_at sto_at | exact isLst_at (by assumption) | exact isLst_at (sto_app sto_at) | exact isLst_at (sto_app (by assumption)) | (simp; done) | (simp; omega)))
  | exact ⟨[], (List.append_nil _).symm⟩
  | with_reducible rfl
  | with_reducible refine Sw.ex_app ?_
  | exact ⟨_, rfl⟩
  )
def ltW : W → W → Bool
  | .int a, .int b => decide (a < b)
  | _, _ => false
def ltP : W → Bool
  | .tup [x, y] => ltW x y
  | _ => false
def riseW (l : List W) : Bool := (l.zip (l.drop 1)).all fun p => ltW p.1 p.2
def allW (a b : Int) : W → Bool
  | .tup l => l.all (isW a b)
  | _ => false
def rowB (many most : Int) : W → Bool
  | .tup l => decide ((l.length : Int) ≤ most) && (l.all (isW 0 (many - 1)) && riseW l)
  | _ => false
theorem zipW_length {l m : List W} : (zipW l m).length = min l.length m.length := by simp [zipW]
/-- a thing to be asked about: its items' kinds are known, and it is not long -/
structure Plain (st : Sto) (x : W) : Prop where
  ty : TyB st x
  it : ∀ l, x = .tup l → l.length ≤ 1000 ∧ ∀ w ∈ l, ∀ g, TyB (st ++ g) w
theorem ints_w {l : List W} {a b : Int} (h : l.all (isW a b) = true) : ∀ x ∈ l, ∃ i : Int, x = .int i := fun x hx => by
  have := List.all_eq_true.mp h x hx
  cases x <;> first | exact ⟨_, rfl⟩ | cases this
theorem rising_ok {many most : Int} {x : W} {st : Sto} (h : Plain st x) : f_are_rising [.int many, x, .int most] st = .ok (.bl (rowB many most x)) st := by
  refine clean_wp (wp_run rfl ?_) rfl
  unfold b_are_rising
  repeat decreasing_trivial_pre_omega
  refine wp_eq (isi_tup h.ty) ?_
  repeat decreasing_trivial_pre_omega
  cases x with
  | tup l =>
    obtain ⟨hz, hi⟩ := h.it l rfl
    repeat decreasing_trivial_pre_omega
    by_cases h1 : most < (l.length : Int)
    · repeat decreasing_trivial_pre_omega
      exact ⟨by simp [rowB]; omega, [], by simp⟩
    · repeat decreasing_trivial_pre_omega
      refine Sw.v_lcM (fun w => .bl (isW 0 (many - 1) w)) (Nat.le_trans hz (by decide)) (fun _ => trivial) (fun acc w hw => ⟨_, rfl, ?_⟩) ?_
      · repeat decreasing_trivial_pre_omega
        refine wp_eq (within_ok (hi w hw _)) ?_
        repeat decreasing_trivial_pre_omega
      · repeat decreasing_trivial_pre_omega
        cases hc : l.all (isW 0 (many - 1))
        · repeat decreasing_trivial_pre_omega
          exact ⟨by simp [rowB, hc], _, rfl⟩
        · repeat decreasing_trivial_pre_omega
          have hi := ints_w hc
          refine Sw.v_lcM (fun w => .bl (ltP w)) (by rw [zipW_length]; omega) (fun _ => trivial) (fun acc w hw => ?_) ?_
          · obtain ⟨⟨x, y⟩, hp, rfl⟩ := List.mem_map.mp hw
            obtain ⟨i, rfl⟩ := hi x (List.of_mem_zip hp).1
            obtain ⟨j, rfl⟩ := hi y (List.mem_of_mem_drop (List.of_mem_zip hp).2)
            refine ⟨_, rfl, ?_⟩
            repeat decreasing_trivial_pre_omega
          · repeat decreasing_trivial_pre_omega
            exact ⟨by simp [rowB, hc, riseW, zipW, List.all_map, ltP, Function.comp_def]; omega, _, List.append_assoc _ _ _⟩
  | _ => repeat decreasing_trivial_pre_omega

def putsB (many : Int) : W → Bool
  | .tup l => decide (l.length ≤ 64) && l.all (rowB many 16)
  | _ => false
structure Plain2 (st : Sto) (x : W) : Prop where
  ty : TyB st x
  it : ∀ l, x = .tup l → l.length ≤ 1000 ∧ ∀ w ∈ l, ∀ g, Plain (st ++ g) w
theorem TyB.appT {st : Sto} {x : W} (h : TyB st x) : ∀ g, TyB (st ++ g) x := fun _ => h.app
theorem Plain.app {st g : Sto} {x : W} (h : Plain st x) : Plain (st ++ g) x := ⟨h.ty.app, fun l e => ⟨(h.it l e).1, fun w hw g' => by rw [List.append_assoc]; exact (h.it l e).2 w hw _⟩⟩
theorem Plain2.app {st g : Sto} {x : W} (h : Plain2 st x) : Plain2 (st ++ g) x := ⟨h.ty.app, fun l e => ⟨(h.it l e).1, fun w hw g' => by rw [List.append_assoc]; exact (h.it l e).2 w hw _⟩⟩
theorem puts_ok {many : Int} {x : W} {st : Sto} (h : Plain2 st x) : f_are_puts [.int many, x] st = .ok (.bl (putsB many x)) st := by
  refine clean_wp (wp_run rfl ?_) rfl
  unfold b_are_puts
  repeat decreasing_trivial_pre_omega
  refine wp_eq (isi_tup h.ty) ?_
  repeat decreasing_trivial_pre_omega
  cases x with
  | tup l =>
    obtain ⟨hz, hi⟩ := h.it l rfl
    repeat decreasing_trivial_pre_omega
    by_cases h1 : l.length ≤ 64
    · repeat decreasing_trivial_pre_omega
      refine Sw.v_lcM (fun w => .bl (rowB many 16 w)) (Nat.le_trans hz (by decide)) (fun _ => trivial) (fun acc w hw => ⟨_, rfl, ?_⟩) ?_
      · repeat decreasing_trivial_pre_omega
        refine wp_eq (rising_ok (hi w hw _)) ?_
        repeat decreasing_trivial_pre_omega
      · repeat decreasing_trivial_pre_omega
        exact ⟨by simp [putsB, h1], _, rfl⟩
    · repeat decreasing_trivial_pre_omega
      exact ⟨by simp [putsB, h1]; omega, [], by simp⟩
  | _ => repeat decreasing_trivial_pre_omega
def needB (m x w : W) : Bool := isW 1 16 m && ((match m with
  | .int i => putsB i x
  | _ => false) && isW 0 16 w)
theorem need_wp {m x w : W} {st : Sto} (hm : TyB st m) (hx : Plain2 st x) (hw : TyB st w) : wp (fRun 3 b_need_puts [m, x, w] st) (fun y s => needB m x w = true ∧ y = .non ∧ s = st) (fun C fs s => needB m x w = false ∧ C = "NoPuts" ∧ fs = [] ∧ s = st) := by
  refine wp_runN ?_
  unfold b_need_puts
  repeat decreasing_trivial_pre_omega
  refine wp_eq (within_ok hm) ?_
  repeat decreasing_trivial_pre_omega
  cases e : isW 1 16 m
  · repeat decreasing_trivial_pre_omega
    exact ⟨by simp [needB, e], rfl, rfl, rfl⟩
  · repeat decreasing_trivial_pre_omega
    cases m with
    | int i =>
      refine wp_eq (puts_ok hx) ?_
      repeat decreasing_trivial_pre_omega
      cases e2 : putsB i x
      · repeat decreasing_trivial_pre_omega
        exact ⟨by simp [needB, e2], rfl, rfl, rfl⟩
      · repeat decreasing_trivial_pre_omega
        refine wp_eq (within_ok hw) ?_
        repeat decreasing_trivial_pre_omega
        cases e3 : isW 0 16 w
        · repeat decreasing_trivial_pre_omega
          exact ⟨by simp [needB, e3], rfl, rfl, rfl⟩
        · repeat decreasing_trivial_pre_omega
          exact ⟨by simp [needB, e, e2, e3], rfl, rfl⟩
    | _ => cases e
theorem need_ok {m x w : W} {st : Sto} (hm : TyB st m) (hx : Plain2 st x) (hw : TyB st w) (h : needB m x w = true) : f_need_puts [m, x, w] st = .ok .non st := by
  refine clean_wp (wp_mono (need_wp hm hx hw) (fun y s k => ⟨k.2.1, [], by rw [k.2.2]; simp⟩) fun C fs s k => ?_) rfl
  rw [h] at k
  cases k.1
theorem need_ex {m x w : W} {st : Sto} (hm : TyB st m) (hx : Plain2 st x) (hw : TyB st w) (h : needB m x w = false) : f_need_puts [m, x, w] st = .ex "NoPuts" [] st := by
  refine clean_wpx (wp_exq (wp_mono (need_wp hm hx hw) (fun y s k => ?_) fun C fs s k => k.2))
  rw [h] at k
  cases k.1
structure Good (many : Nat) (puts : List (List Nat)) (width : Nat) : Prop where
  m1 : 1 ≤ many
  m2 : many ≤ 16
  t : puts.length ≤ 64
  w : width ≤ 16
  r : ∀ row ∈ puts, row.Pairwise (· < ·) ∧ ∀ p ∈ row, p < many
theorem rise_nat {ns : List Nat} : riseW (wI8 ns) = decide (ns.Pairwise (· < ·)) := by
  unfold wI8
  induction ns with
  | nil => rfl
  | cons a l ih =>
    cases l with
    | nil => simp [riseW]
    | cons b l =>
      have e : riseW ((a :: b :: l).map fun n : Nat => W.int n) = (decide ((a : Int) < b) && riseW ((b :: l).map fun n : Nat => W.int n)) := by
        simp [riseW, ltW]
      rw [e, ih]
      by_cases h : (a : Int) < b
      · by_cases h2 : (b :: l).Pairwise (· < ·)
        · have h3 : (a :: b :: l).Pairwise (· < ·) := by
            rw [List.pairwise_cons]
            refine ⟨fun x hx => ?_, h2⟩
            rcases List.mem_cons.mp hx with rfl | hx
            · omega
            · have := (List.pairwise_cons.mp h2).1 x hx
              omega
          simp only [decide_eq_true h, decide_eq_true h2, decide_eq_true h3, Bool.and_self]
        · have h3 : ¬ (a :: b :: l).Pairwise (· < ·) := fun h3 => h2 (List.pairwise_cons.mp h3).2
          simp only [decide_eq_false h2, decide_eq_false h3, Bool.and_false]
      · have h3 : ¬ (a :: b :: l).Pairwise (· < ·) := fun h3 => h (by have := (List.pairwise_cons.mp h3).1 b (by simp); omega)
        simp only [decide_eq_false h, decide_eq_false h3, Bool.false_and]
theorem pw_len' {n : Nat} : ∀ {l : List Nat} {lo : Nat}, l.Pairwise (· < ·) → (∀ p ∈ l, lo ≤ p ∧ p < n) → l.length ≤ n - lo
  | [], _, _, _ => by simp
  | a :: l, lo, h1, h2 => by
    obtain ⟨ha, hl⟩ := List.pairwise_cons.mp h1
    have ih := pw_len' (n := n) (lo := a + 1) hl fun p hp => ⟨ha p hp, (h2 p (List.mem_cons_of_mem _ hp)).2⟩
    have := h2 a List.mem_cons_self
    simp only [List.length_cons]
    omega
theorem pw_len {n : Nat} {l : List Nat} (h1 : l.Pairwise (· < ·)) (h2 : ∀ p ∈ l, p < n) : l.length ≤ n := by
  have := pw_len' (n := n) (lo := 0) h1 fun p hp => ⟨Nat.zero_le _, h2 p hp⟩
  omega
theorem isW_nat {a b : Int} {n : Nat} : isW a b (.int n) = decide (a ≤ n ∧ (n : Int) ≤ b) := by
  simp [isW]
theorem rowB_of {many : Nat} {most : Int} {row : List Nat} (h1 : row.Pairwise (· < ·)) (h2 : ∀ p ∈ row, p < many) (h3 : (row.length : Int) ≤ most) : rowB many most (.tup (wI8 row)) = true := by
  show (decide (((wI8 row).length : Int) ≤ most) && ((wI8 row).all (isW 0 ((many : Int) - 1)) && riseW (wI8 row))) = true
  rw [rise_nat, wI8_len, decide_eq_true h3, decide_eq_true h1, Bool.true_and, Bool.and_true, List.all_eq_true]
  intro w hw
  obtain ⟨p, hp, rfl⟩ := List.mem_map.mp hw
  have := h2 p hp
  rw [isW_nat]
  exact decide_eq_true (by omega)
theorem Good.puts {many width : Nat} {puts : List (List Nat)} (g : Good many puts width) : putsB many (.tup (putsW puts)) = true := by
  show (decide ((putsW puts).length ≤ 64) && (putsW puts).all (rowB many 16)) = true
  rw [Bool.and_eq_true, List.all_eq_true]
  refine ⟨decide_eq_true (by simpa [putsW] using g.t), fun w hw => ?_⟩
  obtain ⟨row, hr, rfl⟩ := List.mem_map.mp hw
  obtain ⟨a, b⟩ := g.r row hr
  refine rowB_of a b ?_
  have := pw_len a b
  have := g.m2
  omega
theorem wI8_tyb {st : Sto} {ns : List Nat} : ∀ w ∈ wI8 ns, TyB st w := fun w hw => by
  obtain ⟨n, _, rfl⟩ := List.mem_map.mp hw
  exact TyB.int
theorem plain_row {st : Sto} {ns : List Nat} (h : ns.length ≤ 1000) : Plain st (.tup (wI8 ns)) := ⟨TyB.tup, fun l e => by
  cases e
  exact ⟨by rw [wI8_len]; exact h, fun w hw g => wI8_tyb w hw⟩⟩
theorem plain_puts {st : Sto} {puts : List (List Nat)} (h : puts.length ≤ 1000) (h2 : ∀ r ∈ puts, r.length ≤ 1000) : Plain2 st (.tup (putsW puts)) := ⟨TyB.tup, fun l e => by
  cases e
  refine ⟨by simpa [putsW] using h, fun w hw g => ?_⟩
  obtain ⟨row, hr, rfl⟩ := List.mem_map.mp hw
  exact plain_row (h2 row hr)⟩
theorem Good.plain {many width : Nat} {puts : List (List Nat)} (g : Good many puts width) {st : Sto} : Plain2 st (.tup (putsW puts)) := plain_puts (by have := g.t; omega) fun r hr => by
  obtain ⟨a, b⟩ := g.r r hr
  have := pw_len a b
  have := g.m2
  omega
theorem Good.need {many width : Nat} {puts : List (List Nat)} (g : Good many puts width) : needB (.int many) (.tup (putsW puts)) (.int width) = true := by
  unfold needB
  rw [isW_nat, isW_nat, decide_eq_true (by have := g.m1; have := g.m2; omega), decide_eq_true (by have := g.w; omega)]
  exact (Bool.true_and _).trans ((Bool.and_true _).trans g.puts)


end Lw

namespace Lw
open PySem PySem.Spec PyProof.Rows L2 Sw
/-- one step; the goal's head says which -/
local macro_rules | `(tactic| decreasing_trivial_pre_omega) => `(tactic| first
  | ((with_reducible refine Sw.gWi ?_); first
    | with_reducible refine Sw.ws_ift ?_
    | with_reducible refine Sw.ws_iff ?_
    | with_reducible refine Sw.ws_ifn ?_
    | ((with_reducible refine Sw.ws_ifd1 ?_ ?_); (focus first | assumption | omega | (simp; done)))
    | ((with_reducible refine Sw.ws_ifd0 ?_ ?_); (focus first | assumption | omega | (simp; done)))
    | ((with_reducible refine Sw.ws_ifb1 ?_ ?_); (focus rfl))
    | ((with_reducible refine Sw.ws_ifb0 ?_ ?_); (focus rfl))
    )
  | ((with_reducible refine Sw.gW ?_); first
    | with_reducible refine Sw.ws_seqS ?_
    | with_reducible refine Sw.ws_ifS ?_
    | with_reducible refine Sw.ws_forN ?_
    | with_reducible refine Sw.ws_seq ?_
    | with_reducible refine Sw.ws_set ?_
    | with_reducible refine Sw.ws_if ?_
    | with_reducible refine Sw.ws_ret ?_
    | with_reducible refine Sw.ws_next ?_
    | with_reducible refine Sw.ws_drop ?_
    | with_reducible refine Sw.ws_for ?_
    | with_reducible refine Sw.ws_asg ?_
    | with_reducible refine Sw.ws_retN ?_
    | with_reducible refine Sw.ws_raise ?_
    | with_reducible refine Sw.ws_raiseD ?_
    | with_reducible refine Sw.ws_gN ?_
    | with_reducible refine Sw.ws_brk ?_
    | with_reducible refine Sw.ws_cnt ?_
    | ((with_reducible apply Sw.ws_aug); rfl)
    | with_reducible refine Sw.ws_gSub ?_
    | with_reducible refine Sw.ws_gsCons ?_
    | with_reducible refine Sw.ws_gsNil ?_
    | ((with_reducible apply Sw.ws_gsConsE); (focus rfl))
    | ((with_reducible apply Sw.ws_gsNilE); (focus rfl))
    | with_reducible refine Sw.ws_par2 ?_
    | with_reducible refine Sw.ws_par3 ?_
    | ((with_reducible refine Sw.ws_gTup ?_ ?_); (focus rfl))
    | ((with_reducible apply Sw.ws_gSeqN); (focus first | rfl | exact getS_at (by assumption) | exact getS_at sto_at | exact getS_at (sto_app (by assumption)) | exact getS_at (sto_app sto_at)); (focus first | rfl | decide | (simp; done) | (simp; omega)))
    | ((with_reducible apply Sw.ws_gStarN); (focus first | rfl | exact getS_at (by assumption) | exact getS_at sto_at | exact getS_at (sto_app (by assumption)) | exact getS_at (sto_app sto_at)); (focus first | decide | (simp; done) | (simp; omega)))
    )
  | ((with_reducible refine Sw.gI ?_); first
    | with_reducible refine Sw.wp_ift ?_
    | with_reducible refine Sw.wp_iff ?_
    | with_reducible refine Sw.wp_ifn ?_
    | ((with_reducible refine Sw.wp_ifd1 ?_ ?_); (focus first | assumption | omega | (simp; done)))
    | ((with_reducible refine Sw.wp_ifd0 ?_ ?_); (focus first | assumption | omega | (simp; done)))
    | ((with_reducible refine Sw.wp_ifb1 ?_ ?_); (focus rfl))
    | ((with_reducible refine Sw.wp_ifb0 ?_ ?_); (focus rfl))
    )
  | ((with_reducible refine Sw.gF ?_); first
    | ((with_reducible apply Sw.v_var); rfl)
    | with_reducible refine Sw.v_c ?_
    | with_reducible refine Sw.v_cons ?_
    | with_reducible refine Sw.v_nil ?_
    | ((with_reducible refine Sw.v_fn ?_))
    | with_reducible refine Sw.v_call ?_
    | ((with_reducible apply Sw.v_ask); (focus rfl); (focus rfl))
    | with_reducible refine Sw.v_bin ?_
    | with_reducible refine Sw.v_cmp ?_
    | with_reducible refine Sw.v_cmpE ?_
    | with_reducible refine Sw.v_tru ?_
    | with_reducible refine Sw.v_notT ?_
    | with_reducible refine Sw.v_andT ?_
    | with_reducible refine Sw.v_orT ?_
    | with_reducible refine Sw.v_and ?_
    | with_reducible refine Sw.v_or ?_
    | with_reducible refine Sw.v_not ?_
    | with_reducible refine Sw.v_if ?_
    | with_reducible refine Sw.v_chn ?_
    | with_reducible refine Sw.v_chnE ?_
    | with_reducible refine Sw.v_tup ?_
    | with_reducible refine Sw.v_lst ?_
    | with_reducible refine Sw.v_sl ?_
    | with_reducible refine Sw.v_no ?_
    | with_reducible refine Sw.v_so ?_
    | with_reducible refine Sw.v_neg ?_
    | with_reducible refine Sw.v_lc ?_
    | with_reducible refine Sw.v_it ?_
    | with_reducible refine Sw.v_seqI ?_
    | with_reducible refine Sw.v_mt ?_
    | with_reducible refine Sw.v_m1 ?_
    | with_reducible refine Sw.v_dict0 ?_
    | with_reducible refine Sw.v_it1 ?_
    )
  | ((with_reducible refine Sw.gO ?_); first
    | with_reducible refine Sw.v_ltI ?_
    | with_reducible refine Sw.v_leI ?_
    | with_reducible refine Sw.v_gtI ?_
    | with_reducible refine Sw.v_geI ?_
    | with_reducible refine Sw.v_eqI ?_
    | with_reducible refine Sw.v_neI ?_
    | with_reducible refine Sw.v_eqS ?_
    | with_reducible refine Sw.v_neS ?_
    | with_reducible refine Sw.v_truB ?_
    | with_reducible refine Sw.v_truI ?_
    | with_reducible refine Sw.v_truN ?_
    | with_reducible refine Sw.v_truT ?_
    | with_reducible refine Sw.v_seqT ?_
    | with_reducible refine Sw.v_seqR ?_
    | with_reducible refine Sw.v_seqS ?_
    | ((with_reducible apply Sw.v_seqL); (focus first | assumption | exact sto_at | exact sto_app (by assumption) | exact sto_app (sto_app (by assumption)) | exact sto_app sto_at | exact sto_app (sto_app sto_at)))
    | with_reducible refine Sw.v_inK ?_
    | with_reducible refine Sw.v_notInK ?_
    | ((with_reducible apply Sw.wp_opt); (focus rfl))
    )
  | ((with_reducible refine Sw.gE ?_); first
    | with_reducible refine Sw.wp_bind ?_
    | with_reducible refine Sw.wp_ok ?_
    | with_reducible refine Sw.v_addI ?_
    | with_reducible refine Sw.v_subI ?_
    | ((with_reducible refine Sw.v_mulI (.inl ?_) ?_); (focus first | decide | omega))
    | ((with_reducible refine Sw.v_mulT ?_ ?_); exact ⟨by simp, by decide, by decide, by simp⟩)
    | ((with_reducible apply Sw.v_mulL); (focus first | assumption | exact sto_at | exact sto_app (by assumption) | exact sto_app (sto_app (by assumption)) | exact sto_app sto_at | exact sto_app (sto_app sto_at)); (focus exact ⟨by decide, by decide, by simp⟩))
    | ((with_reducible refine Sw.v_modI ?_ ?_); (focus first | decide | omega))
    | ((with_reducible refine Sw.v_addT ?_ ?_); refine line1000 ?_; (focus first | decide | (simp; done) | (simp; omega)))
    | ((with_reducible apply Sw.v_powE); (focus decide +kernel); (focus (simp only [Int.reduceToNat, Int.reducePow]; rfl)))
    | ((with_reducible apply Sw.v_ixL); (first | assumption | exact sto_at | exact sto_app (by assumption) | exact sto_app (sto_app (by assumption)) | exact sto_app sto_at | exact sto_app (sto_app sto_at)); (focus first | rfl | assumption | exact atI_nat (by assumption) | exact Sw.atc0 | exact Sw.atc1 | exact Sw.atc2))
    | ((with_reducible apply Sw.v_ixT); (focus first | rfl | assumption | exact atI_nat (by assumption) | exact Sw.atc0 | exact Sw.atc1 | exact Sw.atc2))
    | ((with_reducible apply Sw.v_ixR); (focus first | rfl | assumption | exact atI_nat (by assumption) | exact Sw.atc0 | exact Sw.atc1 | exact Sw.atc2))
    | with_reducible refine Sw.v_slc1 ?_
    | with_reducible refine Sw.v_slc2 ?_
    | ((with_reducible apply Sw.v_slLt1); (focus first | assumption | exact sto_at | exact sto_app (by assumption) | exact sto_app (sto_app (by assumption)) | exact sto_app sto_at | exact sto_app (sto_app sto_at)))
    | ((with_reducible apply Sw.v_slLt2); (focus first | assumption | exact sto_at | exact sto_app (by assumption) | exact sto_app (sto_app (by assumption)) | exact sto_app sto_at | exact sto_app (sto_app sto_at)))
    | ((with_reducible apply Sw.v_slLd1); (focus first | assumption | exact sto_at | exact sto_app (by assumption) | exact sto_app (sto_app (by assumption)) | exact sto_app sto_at | exact sto_app (sto_app sto_at)))
    | ((with_reducible apply Sw.v_addL); (focus first | assumption | exact sto_at | exact sto_app (by assumption) | exact sto_app (sto_app (by assumption)) | exact sto_app sto_at | exact sto_app (sto_app sto_at)); (focus first | assumption | exact sto_at | exact sto_app (by assumption) | exact sto_app (sto_app (by assumption)) | exact sto_app sto_at | exact sto_app (sto_app sto_at)); (focus first | decide | (simp; done) | (simp; omega)))
    | with_reducible refine Sw.v_sortSet ?_
    | ((with_reducible refine Sw.v_sl0 ?_ ?_); (focus omega))
    | ((with_reducible refine Sw.v_sl1 ?_ ?_); (focus omega))
    | with_reducible refine Sw.v_lenT ?_
    | with_reducible refine Sw.v_lenR ?_
    | ((with_reducible apply Sw.v_lenL); (focus first | assumption | exact sto_at | exact sto_app (by assumption) | exact sto_app (sto_app (by assumption)) | exact sto_app sto_at | exact sto_app (sto_app sto_at)))
    | ((with_reducible apply Sw.v_appT); (focus first | decide | (simp; done) | (simp; omega)))
    | with_reducible refine Sw.v_intI ?_
    | with_reducible refine Sw.v_intB ?_
    | with_reducible refine Sw.v_absI ?_
    | with_reducible refine Sw.v_max2 ?_
    | with_reducible refine Sw.v_min2 ?_
    | with_reducible refine Sw.v_listT ?_
    | ((with_reducible apply Sw.v_listL); (focus first | assumption | exact sto_at | exact sto_app (by assumption) | exact sto_app (sto_app (by assumption)) | exact sto_app sto_at | exact sto_app (sto_app sto_at)))
    | with_reducible refine Sw.v_tupleT ?_
    | ((with_reducible apply Sw.v_tupleL); (focus first | assumption | exact sto_at | exact sto_app (by assumption) | exact sto_app (sto_app (by assumption)) | exact sto_app sto_at | exact sto_app (sto_app sto_at)))
    | ((with_reducible refine Sw.v_rng1 ?_ ?_); (focus first | exact ⟨by omega, by omega, by omega, by omega⟩ | decide))
    | ((with_reducible refine Sw.v_rng2 ?_ ?_); (focus first | exact ⟨by omega, by omega, by omega, by omega⟩ | decide))
    | with_reducible refine Sw.v_zipT ?_
    | with_reducible refine Sw.v_enumT ?_
    | ((with_reducible apply Sw.v_enumL); (focus first | assumption | exact sto_at | exact sto_app (by assumption) | exact sto_app (sto_app (by assumption)) | exact sto_app sto_at | exact sto_app (sto_app sto_at)))
    | with_reducible refine Sw.v_andI ?_
    | with_reducible refine Sw.v_orI ?_
    | ((with_reducible refine Sw.v_shrI ?_ ?_); decide)
    | ((with_reducible apply Sw.v_allL); (focus first | assumption | exact sto_at | exact sto_app (by assumption) | exact sto_app (sto_app (by assumption)) | exact sto_app sto_at | exact sto_app (sto_app sto_at)))
    | ((with_reducible apply Sw.v_anyL); (focus first | assumption | exact sto_at | exact sto_app (by assumption) | exact sto_app (sto_app (by assumption)) | exact sto_app sto_at | exact sto_app (sto_app sto_at)))
    | with_reducible refine Sw.v_addGI ?_
    | ((with_reducible refine Sw.v_addGT ?_ ?_); refine line1000 ?_; (focus first | decide | (simp; done) | (simp; omega)))
    | ((with_reducible apply Sw.v_ixK); (focus rfl))
    )
  | with_reducible refine ⟨_, rfl, ?_⟩
  | with_reducible refine ⟨_, _, rfl, ?_⟩
  | with_reducible refine ⟨_, _, _, rfl, ?_⟩
  | ((with_reducible refine And.intro ?_ ?_); (focus first | rfl | decide | exact isLst_at sto_at | exact isLst_at (by assumption) | exact isLst_at (sto_app sto_at) | exact isLst_at (sto_app (by assumption)) | (simp; done) | (simp; omega)))
  | exact ⟨[], (List.append_nil _).symm⟩
  | with_reducible rfl
  | with_reducible refine Sw.ex_app ?_
  | exact ⟨_, rfl⟩
  )
def sortN (l : List Nat) : List Nat := l.mergeSort fun a b => decide (a ≤ b)
def filledL (since : List Nat) (ticks w : Nat) : List (List Nat) := ((planG since ticks w).1.map sortN).reverse
abbrev tabO : Ob := .tab "filled" "filled.<locals>.<lambda>"
theorem sort_cast {l : List Nat} : ((l.map Int.ofNat).mergeSort leI).map W.int = wI8 (sortN l) := by
  rw [← ints_wI8]
  congr 1
  unfold sortN
  refine (List.map_mergeSort (fun a _ b _ => ?_)).symm
  unfold leI
  exact decide_eq_decide.mpr Int.ofNat_le.symm
theorem inF_wI8 {p : Nat} {ns : List Nat} : inFW (.int p) (wI8 ns) = decide (p ∈ ns) := by
  unfold inFW wI8
  rw [List.any_map]
  induction ns with
  | nil => rfl
  | cons n ns ih =>
    rw [List.any_cons, ih]
    have e : ((fun y => eqFW y (W.int p)) ∘ fun n : Nat => W.int n) n = decide (p = n) := by
      show ((n : Int) == (p : Int)) = _
      rw [Bool.eq_iff_iff]
      simp
      omega
    rw [e]
    by_cases h : p = n
    · simp [h]
    · simp [h]
theorem flat_wI8 {ns : List Nat} : (wI8 ns).all flatW = true := by
  rw [List.all_eq_true]
  intro w hw
  obtain ⟨n, _, rfl⟩ := List.mem_map.mp hw
  rfl
theorem v_notInL {n p : Nat} {ns : List Nat} {st : Sto} {Q : Bool → Sto → Prop} {E : XE} (h : st[n]? = some (.lst (wI8 ns))) (q : Q (decide (p ∉ ns)) st) : wp (optB (wNotIn (.int p) (.ref n) st) st) Q E := by
  refine wp_opt (a := decide (p ∉ ns)) ?_ q
  simp only [wNotIn, wIn, getS, getL, h]
  have f1 : flatW (.int p) = true := rfl
  rw [if_pos ⟨f1, flat_wI8⟩, inF_wI8]
  simp
theorem filt_wI8 {f : W → Bool} {g : Nat → Bool} {ns : List Nat} (h : ∀ p : Nat, f (.int p) = g p) : (wI8 ns).filter f = wI8 (ns.filter g) := by
  unfold wI8
  rw [List.filter_map]
  congr 1
  apply List.filter_congr
  intro p _
  exact h p
theorem take_wI8 {n : Nat} {ns : List Nat} : (wI8 ns).take n = wI8 (ns.take n) := by
  unfold wI8
  rw [List.map_take]
theorem app_of {s st : Sto} (h1 : st.length ≤ s.length) (h2 : ∀ j, j < st.length → s[j]? = st[j]?) : ∃ g, s = st ++ g := by
  refine ⟨s.drop st.length, ?_⟩
  conv => lhs; rw [← List.take_append_drop st.length s]
  congr 1
  apply List.ext_getElem?
  intro j
  rcases Nat.lt_or_ge j st.length with h | h
  · rw [List.getElem?_take_of_lt h, h2 j h]
  · rw [List.getElem?_eq_none (by simp; omega), List.getElem?_eq_none (by omega)]
theorem rows_closed {n : Nat} {rows : List (List Nat)} : closedW n (.tup (putsW rows)) = true := by
  have h : ∀ l : List (List Nat), closedL n (putsW l) = true := by
    intro l
    induction l with
    | nil => rfl
    | cons r l ih =>
      show (closedW n (.tup (wI8 r)) && closedL n (putsW l)) = true
      rw [ih, Bool.and_true]
      have h2 : ∀ r : List Nat, closedL n (wI8 r) = true := by
        intro r
        induction r with
        | nil => rfl
        | cons a r ih => exact ih
      exact h2 r
  exact h rows
theorem filled_ok {since : List Nat} {n ticks width : Nat} {st : Sto} (hs : st[n]? = some (.lst (wI8 since))) (hl : since.length ≤ 100) (ht : ticks ≤ 100) (h0 : st[0]? = some tabO) :
    f_filled [.ref n, .int ticks, .int width] st = .ok (.tup (putsW (filledL since ticks width))) st := by
  have hn : n < st.length := sto_lt hs
  refine clean_wp (wp_runN ?_) rows_closed
  unfold b_filled
  repeat decreasing_trivial_pre_omega
  refine v_sortKey ?_
  repeat decreasing_trivial_pre_omega
  refine ⟨.ref n, wI8 since, _, by rw [wI8_len, List.length_map], rfl, by simp only [getL, hs], getI_wI8, by rw [List.length_map]; omega, h0, ?_⟩
  rw [order_cast, ints_wI8]
  repeat decreasing_trivial_pre_omega
  refine Sw.v_revR ⟨by omega, by omega, by omega, by omega⟩ ?_
  rw [rngW_nat, len1, app2]
  repeat decreasing_trivial_pre_omega
  refine ws_forS (fun r e s => ∃ (tks todo : List Nat) (done : List (List Nat)) (m : Nat) (x5 x6 x7 : Option W), r = tks.map (fun i : Nat => W.int i) ∧ planG since ticks width = (done ++ (goL since width tks todo).1, (goL since width tks todo).2) ∧ todo.length ≤ 100 ∧ (∀ p ∈ todo, p < since.length) ∧ (∀ t ∈ tks, t < ticks) ∧ done.length + tks.length ≤ 100 ∧
    Keep (st.length + 1) (st ++ [Ob.lst (wI8 (orderL since)), .lst []]) s ∧ s[st.length + 1]? = some (.lst (putsW (done.map sortN))) ∧ s[m]? = some (.lst (wI8 todo)) ∧ m ≠ st.length + 1 ∧
    e = [some (.ref n), some (.int ticks), some (.int width), some (.ref m), some (.ref (st.length + 1)), x5, x6, x7])
    ⟨(List.range ticks).reverse, orderL since, [], st.length, _, _, _, by rw [List.map_reverse], rfl, by rw [(order_perm since).length_eq, List.length_range]; exact hl, fun p hp => order_mem.mp hp, fun t h => by simpa using h, by simpa using ht, Keep.refl, sto_at2, sto_at, by omega, rfl⟩ ?_ ?_
  · rintro w r e s ⟨tks, todo, done, m, x5, x6, x7, hr, hgo, htl, htm, htt, hd, K, hp, hm, hne, rfl⟩
    cases tks with
    | nil => cases hr
    | cons t tks =>
      simp only [List.map_cons, List.cons.injEq] at hr
      obtain ⟨rfl, rfl⟩ := hr
      refine ⟨trivial, ?_⟩
      have hsn : s[n]? = some (.lst (wI8 since)) := K.at (sto_app hs) (by omega)
      have hB : st.length + 2 ≤ s.length := by have := K.le; simpa using this
      repeat decreasing_trivial_pre_omega
      refine Sw.v_lcPM (fun w => decide (since.getD (unI w) 0 ≤ t)) id (by rw [wI8_len]; omega) (fun _ => sto_app hm) (fun acc w hw => ⟨_, rfl, ?_⟩) ?_
      · obtain ⟨p, hp2, rfl⟩ := List.mem_map.mp hw
        have hpl := htm p hp2
        have ex : (wI8 since)[p]? = some (W.int (since.getD p 0 : Nat)) := by
          unfold wI8
          rw [List.getElem?_map, List.getElem?_eq_getElem hpl, List.getD_eq_getElem?_getD, List.getElem?_eq_getElem hpl]
          rfl
        repeat decreasing_trivial_pre_omega
        refine ⟨by rw [unI_int]; exact decide_eq_decide.mpr Int.ofNat_le, rfl, ?_⟩
        intro _
        repeat decreasing_trivial_pre_omega
      · rw [List.map_id, filt_wI8 (g := fun p => decide (since.getD p 0 ≤ t)) (fun p => by rw [unI_int])]
        repeat decreasing_trivial_pre_omega
        refine Sw.v_slL sto_at ?_
        rw [cutL_toN, take_wI8]
        repeat decreasing_trivial_pre_omega
        refine ⟨isLst_at (sto_app (sto_app hp)), ?_⟩
        repeat decreasing_trivial_pre_omega
        refine v_sortI sto_at getI_wI8 ?_
        rw [sort_cast]
        repeat decreasing_trivial_pre_omega
        refine Sw.v_app (sto_app (sto_app (sto_app hp))) (by simp [putsW]; simp only [List.length_cons] at hd; omega) ?_
        repeat decreasing_trivial_pre_omega
        have hsl : s.length + 1 ≠ st.length + 1 := by omega
        generalize hs5 : List.set _ (st.length + 1) _ = s5
        have hm5 : s5[m]? = some (.lst (wI8 todo)) := by rw [← hs5, List.getElem?_set_ne (Ne.symm hne)]; exact sto_app (sto_app (sto_app hm))
        have hsent5 : s5[s.length + 1]? = some (.lst (wI8 (sentL since width t todo))) := by
          rw [← hs5, List.getElem?_set_ne (Ne.symm hsl), ← len1 (a := Ob.lst (wI8 (List.filter (fun p => decide (since.getD p 0 ≤ t)) todo)))]
          exact sto_app sto_at
        have hp5 : s5[st.length + 1]? = some (.lst (putsW ((done ++ [sentL since width t todo]).map sortN))) := by
          rw [← hs5, List.getElem?_set_self (by simp; omega)]
          simp [putsW, sentL]
        have K5 : Keep (st.length + 1) (st ++ [Ob.lst (wI8 (orderL since)), .lst []]) s5 := by
          rw [← hs5]
          exact K.trans (Keep.app.trans (Keep.app.trans (Keep.app.trans Keep.set)))
        refine Sw.v_seqL hm5 ?_
        rw [len1]
        refine Sw.v_lcPM (fun w => decide (unI w ∉ sentL since width t todo)) id (by rw [wI8_len]; omega) (fun _ => sto_app hm5) (fun acc w hw => ⟨_, rfl, ?_⟩) ?_
        · obtain ⟨p, hp2, rfl⟩ := List.mem_map.mp hw
          repeat decreasing_trivial_pre_omega
          refine v_notInL (sto_app hsent5) ?_
          refine ⟨rfl, rfl, ?_⟩
          intro _
          repeat decreasing_trivial_pre_omega
        · rw [List.map_id, filt_wI8 (g := fun p => decide (p ∉ sentL since width t todo)) (fun p => by rw [unI_int])]
          simp only [goL] at hgo
          simp only [List.length_cons] at hd
          refine ⟨tks, restL todo (sentL since width t todo), done ++ [sentL since width t todo], s5.length, _, _, _, rfl, by rw [hgo]; simp, ?_, fun p hp => htm p (rest_sub.subset hp), fun x hx => htt x (List.mem_cons_of_mem _ hx), by simp; omega, K5.trans Keep.app, sto_app hp5, sto_at, ?_, rfl⟩
          · have := (rest_sub (todo := todo) (sent := sentL since width t todo)).length_le
            omega
          · have := K5.le
            simp at this
            omega
  · rintro e s ⟨tks, todo, done, m, x5, x6, x7, hr, hgo, htl, htm, htt, hd, K, hp, hm, hne, rfl⟩
    cases tks with
    | cons _ _ => cases hr
    | nil =>
      refine ⟨trivial, ?_⟩
      repeat decreasing_trivial_pre_omega
      refine Sw.v_rev ?_
      repeat decreasing_trivial_pre_omega
      refine ⟨putsW (done.map sortN), by simp only [getL, hp], ?_⟩
      repeat decreasing_trivial_pre_omega
      simp only [goL, List.append_nil] at hgo
      refine ⟨?_, app_of (by have := K.le; simp at this ⊢; omega) fun j hj => ?_⟩
      · unfold filledL
        rw [hgo]
        simp [putsW]
      · have := K.eq j (by omega) (by simp; omega)
        rw [List.getElem?_append_left (by have := K.le; simp at this; omega), this, List.getElem?_append_left hj]

theorem Good.rows {many width : Nat} {puts : List (List Nat)} (g : Good many puts width) : ∀ row ∈ puts, ∀ p ∈ row, p < many := fun row h => (g.r row h).2
theorem putsW_len {puts : List (List Nat)} : (putsW puts).length = puts.length := by simp [putsW]
section
variable {many width : Nat} {puts : List (List Nat)}
def leftL (many : Nat) (puts : List (List Nat)) (width : Nat) : Nat := (planG (sinceL many puts) puts.length width).2.length
def planL (many : Nat) (puts : List (List Nat)) (width : Nat) : List (List Nat) := filledL (sinceL many puts) puts.length width
def tickL (many : Nat) (puts : List (List Nat)) (width : Nat) : Nat := firstL (sinceL many puts) puts.length width (leftL many puts width)
def toldW (many : Nat) (puts : List (List Nat)) (width : Nat) : W := .tup [.int (leftL many puts width), .tup (putsW (planL many puts width)), .int (tickL many puts width)]
theorem owed_top (g : Good many puts width) {u : Nat} (hu : u ≤ puts.length) : owedL (sinceL many puts) puts.length width u ≤ leftL many puts width := owed_le hu
theorem owed_at (g : Good many puts width) : ∃ u, u ≤ puts.length ∧ owedL (sinceL many puts) puts.length width u = leftL many puts width := by
  refine owed_some (fun x hx => ?_) fun e => ?_
  · by_cases h : puts = []
    · subst h
      have e : sinceL many [] = List.replicate many 0 := rfl
      rw [e] at hx
      exact .inr (List.mem_replicate.mp hx).2
    · exact .inl (since_lt h x hx)
  · have h1 := since_len (many := many) (puts := puts)
    rw [e] at h1
    have h2 := g.m1
    simp only [List.length_nil] at h1
    omega
theorem maxI_of {l : List Int} {m : Int} (h1 : m ∈ l) (h2 : ∀ x ∈ l, x ≤ m) : maxI l = m := by
  obtain ⟨a, b⟩ := maxI_mem (l := l) (by rintro rfl; cases h1)
  have := b m h1
  have := h2 _ a
  omega
theorem v_maxL {n : Nat} {ns : List Int} {m : Int} {st : Sto} {Q : W → Sto → Prop} {E : XE} (hs : st[n]? = some (.lst (ns.map .int))) (h1 : m ∈ ns) (h2 : ∀ x ∈ ns, x ≤ m) (q : Q (.int m) st) : wp (wMax [.ref n] st) Q E := by
  have hne : ns ≠ [] := by rintro rfl; cases h1
  refine wp_eq (a := .int m) (s := st) ?_ q
  simp only [wMax, getL, hs, Option.bind_some, getI_map, optB_some, An.bind_ok]
  rw [if_pos hne, maxI_of h1 h2]
theorem plan_ok (g : Good many puts width) {st : Sto} (h0 : st[0]? = some tabO) : f_plan_of [.int many, .tup (putsW puts), .int width] st = .ok (toldW many puts width) st := by
  have hm := g.m2
  have ht := g.t
  have hw := g.w
  have hsl := since_len (many := many) (puts := puts)
  have hpl := putsW_len (puts := puts)
  refine clean_wp (wp_runN ?_) ?_
  · unfold b_plan_of
    repeat decreasing_trivial_pre_omega
    refine wp_eq (need_ok TyB.int g.plain TyB.int g.need) ?_
    repeat decreasing_trivial_pre_omega
    refine wp_eq (last_ok (by omega) g.rows) ?_
    repeat decreasing_trivial_pre_omega
    rw [show (((putsW puts).length : Int) + 1) = ((puts.length + 1 : Nat) : Int) by simp [putsW], rngW_nat]
    have h2 : ∀ a, (st ++ [Ob.lst [W.int 0], .lst (wI8 (sinceL many puts))] ++ a)[st.length + 1]? = some (.lst (wI8 (sinceL many puts))) := fun a => sto_app sto_at2
    refine Sw.v_lcM (fun w => .int (owedL (sinceL many puts) puts.length width (unI w))) (by simp; omega) (fun _ => trivial) (fun acc w hw2 => ⟨_, rfl, ?_⟩) ?_
    · obtain ⟨k, hk, rfl⟩ := List.mem_map.mp hw2
      have hk := List.mem_range.mp hk
      repeat decreasing_trivial_pre_omega
      rw [show ((putsW puts).length : Int) = (puts.length : Int) by simp [putsW]]
      refine wp_eq (owed_ok (h2 _) (by omega) (by omega) (by omega) (by omega)) ?_
      repeat decreasing_trivial_pre_omega
    · rw [List.map_map]
      have e : (fun w => W.int (owedL (sinceL many puts) puts.length width (unI w))) ∘ (fun i : Nat => W.int i) = W.int ∘ fun i : Nat => owedL (sinceL many puts) puts.length width i := rfl
      rw [e, ← List.map_map]
      obtain ⟨u, hu, eu⟩ := owed_at g
      refine v_maxL sto_at (m := leftL many puts width) (List.mem_map.mpr ⟨u, List.mem_range.mpr (by omega), eu⟩) (fun x hx => ?_) ?_
      · obtain ⟨v, hv, rfl⟩ := List.mem_map.mp hx
        exact owed_top g (by have := List.mem_range.mp hv; omega)
      repeat decreasing_trivial_pre_omega
      rw [show ((putsW puts).length : Int) = (puts.length : Int) by simp [putsW]]
      refine wp_eq (filled_ok (h2 _) (by omega) (by omega) (sto_app (sto_app h0))) ?_
      repeat decreasing_trivial_pre_omega
      refine wp_eq (first_ok (h2 _) (by omega) (by omega) (by omega) ⟨u, hu, eu⟩) ?_
      repeat decreasing_trivial_pre_omega
  · show closedL st.length [W.int _, .tup (putsW _), .int _] = true
    show (closedW st.length (.int _) && (closedW st.length (.tup (putsW (planL many puts width))) && (closedW st.length (.int _) && true))) = true
    rw [rows_closed]
    simp [closedW]
end


end Lw

namespace Lw
open PySem PySem.Spec PyProof.Rows L2 Sw
/-- one step; the goal's head says which -/
local macro_rules | `(tactic| decreasing_trivial_pre_omega) => `(tactic| first
  | ((with_reducible refine Sw.gWi ?_); first
    | with_reducible refine Sw.ws_ift ?_
    | with_reducible refine Sw.ws_iff ?_
    | with_reducible refine Sw.ws_ifn ?_
    | ((with_reducible refine Sw.ws_ifd1 ?_ ?_); (focus first | assumption | omega | (simp; done)))
    | ((with_reducible refine Sw.ws_ifd0 ?_ ?_); (focus first | assumption | omega | (simp; done)))
    | ((with_reducible refine Sw.ws_ifb1 ?_ ?_); (focus rfl))
    | ((with_reducible refine Sw.ws_ifb0 ?_ ?_); (focus rfl))
    )
  | ((with_reducible refine Sw.gW ?_); first
    | with_reducible refine Sw.ws_seqS ?_
    | with_reducible refine Sw.ws_ifS ?_
    | with_reducible refine Sw.ws_forN ?_
    | with_reducible refine Sw.ws_seq ?_
    | with_reducible refine Sw.ws_set ?_
    | with_reducible refine Sw.ws_if ?_
    | with_reducible refine Sw.ws_ret ?_
    | with_reducible refine Sw.ws_next ?_
    | with_reducible refine Sw.ws_drop ?_
    | with_reducible refine Sw.ws_for ?_
    | with_reducible refine Sw.ws_asg ?_
    | with_reducible refine Sw.ws_retN ?_
    | with_reducible refine Sw.ws_raise ?_
    | with_reducible refine Sw.ws_raiseD ?_
    | with_reducible refine Sw.ws_gN ?_
    | with_reducible refine Sw.ws_brk ?_
    | with_reducible refine Sw.ws_cnt ?_
    | ((with_reducible apply Sw.ws_aug); rfl)
    | with_reducible refine Sw.ws_gSub ?_
    | with_reducible refine Sw.ws_gsCons ?_
    | with_reducible refine Sw.ws_gsNil ?_
    | ((with_reducible apply Sw.ws_gsConsE); (focus rfl))
    | ((with_reducible apply Sw.ws_gsNilE); (focus rfl))
    | with_reducible refine Sw.ws_par2 ?_
    | with_reducible refine Sw.ws_par3 ?_
    | ((with_reducible refine Sw.ws_gTup ?_ ?_); (focus rfl))
    | ((with_reducible apply Sw.ws_gSeqN); (focus first | rfl | exact getS_at (by assumption) | exact getS_at sto_at | exact getS_at (sto_app (by assumption)) | exact getS_at (sto_app sto_at)); (focus first | rfl | decide | (simp; done) | (simp; omega)))
    | ((with_reducible apply Sw.ws_gStarN); (focus first | rfl | exact getS_at (by assumption) | exact getS_at sto_at | exact getS_at (sto_app (by assumption)) | exact getS_at (sto_app sto_at)); (focus first | decide | (simp; done) | (simp; omega)))
    )
  | ((with_reducible refine Sw.gI ?_); first
    | with_reducible refine Sw.wp_ift ?_
    | with_reducible refine Sw.wp_iff ?_
    | with_reducible refine Sw.wp_ifn ?_
    | ((with_reducible refine Sw.wp_ifd1 ?_ ?_); (focus first | assumption | omega | (simp; done)))
    | ((with_reducible refine Sw.wp_ifd0 ?_ ?_); (focus first | assumption | omega | (simp; done)))
    | ((with_reducible refine Sw.wp_ifb1 ?_ ?_); (focus rfl))
    | ((with_reducible refine Sw.wp_ifb0 ?_ ?_); (focus rfl))
    )
  | ((with_reducible refine Sw.gF ?_); first
    | ((with_reducible apply Sw.v_var); rfl)
    | with_reducible refine Sw.v_c ?_
    | with_reducible refine Sw.v_cons ?_
    | with_reducible refine Sw.v_nil ?_
    | ((with_reducible refine Sw.v_fn ?_))
    | with_reducible refine Sw.v_call ?_
    | ((with_reducible apply Sw.v_ask); (focus rfl); (focus rfl))
    | with_reducible refine Sw.v_bin ?_
    | with_reducible refine Sw.v_cmp ?_
    | with_reducible refine Sw.v_cmpE ?_
    | with_reducible refine Sw.v_tru ?_
    | with_reducible refine Sw.v_notT ?_
    | with_reducible refine Sw.v_andT ?_
    | with_reducible refine Sw.v_orT ?_
    | with_reducible refine Sw.v_and ?_
    | with_reducible refine Sw.v_or ?_
    | with_reducible refine Sw.v_not ?_
    | with_reducible refine Sw.v_if ?_
    | with_reducible refine Sw.v_chn ?_
    | with_reducible refine Sw.v_chnE ?_
    | with_reducible refine Sw.v_tup ?_
    | with_reducible refine Sw.v_lst ?_
    | with_reducible refine Sw.v_sl ?_
    | with_reducible refine Sw.v_no ?_
    | with_reducible refine Sw.v_so ?_
    | with_reducible refine Sw.v_neg ?_
    | with_reducible refine Sw.v_lc ?_
    | with_reducible refine Sw.v_it ?_
    | with_reducible refine Sw.v_seqI ?_
    | with_reducible refine Sw.v_mt ?_
    | with_reducible refine Sw.v_m1 ?_
    | with_reducible refine Sw.v_dict0 ?_
    | with_reducible refine Sw.v_it1 ?_
    )
  | ((with_reducible refine Sw.gO ?_); first
    | with_reducible refine Sw.v_ltI ?_
    | with_reducible refine Sw.v_leI ?_
    | with_reducible refine Sw.v_gtI ?_
    | with_reducible refine Sw.v_geI ?_
    | with_reducible refine Sw.v_eqI ?_
    | with_reducible refine Sw.v_neI ?_
    | with_reducible refine Sw.v_eqS ?_
    | with_reducible refine Sw.v_neS ?_
    | with_reducible refine Sw.v_truB ?_
    | with_reducible refine Sw.v_truI ?_
    | with_reducible refine Sw.v_truN ?_
    | with_reducible refine Sw.v_truT ?_
    | with_reducible refine Sw.v_seqT ?_
    | with_reducible refine Sw.v_seqR ?_
    | with_reducible refine Sw.v_seqS ?_
    | ((with_reducible apply Sw.v_seqL); (focus first | assumption | exact sto_at | exact sto_app (by assumption) | exact sto_app (sto_app (by assumption)) | exact sto_app sto_at | exact sto_app (sto_app sto_at)))
    | with_reducible refine Sw.v_inK ?_
    | with_reducible refine Sw.v_notInK ?_
    | ((with_reducible apply Sw.wp_opt); (focus rfl))
    )
  | ((with_reducible refine Sw.gE ?_); first
    | with_reducible refine Sw.wp_bind ?_
    | with_reducible refine Sw.wp_ok ?_
    | with_reducible refine Sw.v_addI ?_
    | with_reducible refine Sw.v_subI ?_
    | ((with_reducible refine Sw.v_mulI (.inl ?_) ?_); (focus first | decide | omega))
    | ((with_reducible refine Sw.v_mulT ?_ ?_); exact ⟨by simp, by decide, by decide, by simp⟩)
    | ((with_reducible apply Sw.v_mulL); (focus first | assumption | exact sto_at | exact sto_app (by assumption) | exact sto_app (sto_app (by assumption)) | exact sto_app sto_at | exact sto_app (sto_app sto_at)); (focus exact ⟨by decide, by decide, by simp⟩))
    | ((with_reducible refine Sw.v_modI ?_ ?_); (focus first | decide | omega))
    | ((with_reducible refine Sw.v_addT ?_ ?_); refine line1000 ?_; (focus first | decide | (simp; done) | (simp; omega)))
    | ((with_reducible apply Sw.v_powE); (focus decide +kernel); (focus (simp only [Int.reduceToNat, Int.reducePow]; rfl)))
    | ((with_reducible apply Sw.v_ixL); (first | assumption | exact sto_at | exact sto_app (by assumption) | exact sto_app (sto_app (by assumption)) | exact sto_app sto_at | exact sto_app (sto_app sto_at)); (focus first | rfl | assumption | exact atI_nat (by assumption) | exact Sw.atc0 | exact Sw.atc1 | exact Sw.atc2))
    | ((with_reducible apply Sw.v_ixT); (focus first | rfl | assumption | exact atI_nat (by assumption) | exact Sw.atc0 | exact Sw.atc1 | exact Sw.atc2))
    | ((with_reducible apply Sw.v_ixR); (focus first | rfl | assumption | exact atI_nat (by assumption) | exact Sw.atc0 | exact Sw.atc1 | exact Sw.atc2))
    | with_reducible refine Sw.v_slc1 ?_
    | with_reducible refine Sw.v_slc2 ?_
    | ((with_reducible apply Sw.v_slLt1); (focus first | assumption | exact sto_at | exact sto_app (by assumption) | exact sto_app (sto_app (by assumption)) | exact sto_app sto_at | exact sto_app (sto_app sto_at)))
    | ((with_reducible apply Sw.v_slLt2); (focus first | assumption | exact sto_at | exact sto_app (by assumption) | exact sto_app (sto_app (by assumption)) | exact sto_app sto_at | exact sto_app (sto_app sto_at)))
    | ((with_reducible apply Sw.v_slLd1); (focus first | assumption | exact sto_at | exact sto_app (by assumption) | exact sto_app (sto_app (by assumption)) | exact sto_app sto_at | exact sto_app (sto_app sto_at)))
    | ((with_reducible apply Sw.v_addL); (focus first | assumption | exact sto_at | exact sto_app (by assumption) | exact sto_app (sto_app (by assumption)) | exact sto_app sto_at | exact sto_app (sto_app sto_at)); (focus first | assumption | exact sto_at | exact sto_app (by assumption) | exact sto_app (sto_app (by assumption)) | exact sto_app sto_at | exact sto_app (sto_app sto_at)); (focus first | decide | (simp; done) | (simp; omega)))
    | with_reducible refine Sw.v_sortSet ?_
    | ((with_reducible refine Sw.v_sl0 ?_ ?_); (focus omega))
    | ((with_reducible refine Sw.v_sl1 ?_ ?_); (focus omega))
    | with_reducible refine Sw.v_lenT ?_
    | with_reducible refine Sw.v_lenR ?_
    | ((with_reducible apply Sw.v_lenL); (focus first | assumption | exact sto_at | exact sto_app (by assumption) | exact sto_app (sto_app (by assumption)) | exact sto_app sto_at | exact sto_app (sto_app sto_at)))
    | ((with_reducible apply Sw.v_appT); (focus first | decide | (simp; done) | (simp; omega)))
    | with_reducible refine Sw.v_intI ?_
    | with_reducible refine Sw.v_intB ?_
    | with_reducible refine Sw.v_absI ?_
    | with_reducible refine Sw.v_max2 ?_
    | with_reducible refine Sw.v_min2 ?_
    | with_reducible refine Sw.v_listT ?_
    | ((with_reducible apply Sw.v_listL); (focus first | assumption | exact sto_at | exact sto_app (by assumption) | exact sto_app (sto_app (by assumption)) | exact sto_app sto_at | exact sto_app (sto_app sto_at)))
    | with_reducible refine Sw.v_tupleT ?_
    | ((with_reducible apply Sw.v_tupleL); (focus first | assumption | exact sto_at | exact sto_app (by assumption) | exact sto_app (sto_app (by assumption)) | exact sto_app sto_at | exact sto_app (sto_app sto_at)))
    | ((with_reducible refine Sw.v_rng1 ?_ ?_); (focus first | exact ⟨by omega, by omega, by omega, by omega⟩ | decide))
    | ((with_reducible refine Sw.v_rng2 ?_ ?_); (focus first | exact ⟨by omega, by omega, by omega, by omega⟩ | decide))
    | with_reducible refine Sw.v_zipT ?_
    | with_reducible refine Sw.v_enumT ?_
    | ((with_reducible apply Sw.v_enumL); (focus first | assumption | exact sto_at | exact sto_app (by assumption) | exact sto_app (sto_app (by assumption)) | exact sto_app sto_at | exact sto_app (sto_app sto_at)))
    | with_reducible refine Sw.v_andI ?_
    | with_reducible refine Sw.v_orI ?_
    | ((with_reducible refine Sw.v_shrI ?_ ?_); decide)
    | ((with_reducible apply Sw.v_allL); (focus first | assumption | exact sto_at | exact sto_app (by assumption) | exact sto_app (sto_app (by assumption)) | exact sto_app sto_at | exact sto_app (sto_app sto_at)))
    | ((with_reducible apply Sw.v_anyL); (focus first | assumption | exact sto_at | exact sto_app (by assumption) | exact sto_app (sto_app (by assumption)) | exact sto_app sto_at | exact sto_app (sto_app sto_at)))
    | with_reducible refine Sw.v_addGI ?_
    | ((with_reducible refine Sw.v_addGT ?_ ?_); refine line1000 ?_; (focus first | decide | (simp; done) | (simp; omega)))
    | ((with_reducible apply Sw.v_ixK); (focus rfl))
    )
  | with_reducible refine ⟨_, rfl, ?_⟩
  | with_reducible refine ⟨_, _, rfl, ?_⟩
  | with_reducible refine ⟨_, _, _, rfl, ?_⟩
  | ((with_reducible refine And.intro ?_ ?_); (focus first | rfl | decide | exact isLst_at sto_at | exact isLst_at (by assumption) | exact isLst_at (sto_app sto_at) | exact isLst_at (sto_app (by assumption)) | (simp; done) | (simp; omega)))
  | exact ⟨[], (List.append_nil _).symm⟩
  | with_reducible rfl
  | with_reducible refine Sw.ex_app ?_
  | exact ⟨_, rfl⟩
  )
theorem inF_bl {α : Type} {f : α → Bool} {l : List α} : inFW (.bl false) (l.map fun x => W.bl (f x)) = !l.all f := by
  unfold inFW
  rw [List.any_map]
  induction l with
  | nil => rfl
  | cons a l ih =>
    rw [List.any_cons, ih, List.all_cons]
    cases h : f a <;> simp [eqFW, h]
theorem flat_bl {α : Type} {f : α → Bool} {l : List α} : (l.map fun x => W.bl (f x)).all flatW = true := by
  rw [List.all_eq_true]
  intro w hw
  obtain ⟨n, _, rfl⟩ := List.mem_map.mp hw
  rfl
theorem v_inB {α : Type} {n : Nat} {f : α → Bool} {l : List α} {st : Sto} {Q : Bool → Sto → Prop} {E : XE} (h : st[n]? = some (.lst (l.map fun x => W.bl (f x)))) (q : Q (!l.all f) st) : wp (optB (wIn (.bl false) (.ref n) st) st) Q E := by
  refine wp_opt (a := !l.all f) ?_ q
  simp only [wIn, getS, getL, h]
  have f1 : flatW (.bl false) = true := rfl
  rw [if_pos ⟨f1, flat_bl⟩, inF_bl]
theorem v_notInB {α : Type} {n : Nat} {f : α → Bool} {l : List α} {st : Sto} {Q : Bool → Sto → Prop} {E : XE} (h : st[n]? = some (.lst (l.map fun x => W.bl (f x)))) (q : Q (l.all f) st) : wp (optB (wNotIn (.bl false) (.ref n) st) st) Q E := by
  refine wp_opt (a := l.all f) ?_ q
  simp only [wNotIn, wIn, getS, getL, h]
  have f1 : flatW (.bl false) = true := rfl
  rw [if_pos ⟨f1, flat_bl⟩, inF_bl]
  simp
def addKey (acc : List Nat) (p : Nat) : List Nat := if p ∈ acc then acc else acc ++ [p]
def keyRow (since : List Nat) (t : Nat) (acc : List Nat) (row : List Nat) : List Nat := row.foldl (fun a p => if since.getD p 0 ≤ t then addKey a p else a) acc
def keyFrom (since : List Nat) (k : Nat) (plan : List (List Nat)) (acc : List Nat) : List Nat := (plan.zipIdx k).foldl (fun a r => keyRow since r.2 a r.1) acc
def leftP (since : List Nat) (plan : List (List Nat)) : Nat := since.length - (keyFrom since 0 plan []).length
def dctW (ks : List Nat) : List (Key × W) := ks.map fun p => (Sum.inl ((p : Nat) : Int), W.bl true)
theorem dct_put {ks : List Nat} {p : Nat} : putW (dctW ks) (Sum.inl (p : Int)) (.bl true) = dctW (addKey ks p) := by
  have ea : ((dctW ks).any fun q => decide (q.1 = (Sum.inl (p : Int) : Key))) = decide (p ∈ ks) := by
    unfold dctW
    rw [List.any_map]
    induction ks with
    | nil => rfl
    | cons k ks ih =>
      rw [List.any_cons, ih]
      by_cases h : p = k
      · subst h; simp
      · have : ¬ ((k : Int) = p) := fun z => h (by omega)
        simp [h, this]
  have em : (dctW ks).map (fun q => if q.1 = (Sum.inl (p : Int) : Key) then (q.1, W.bl true) else q) = dctW ks := by
    unfold dctW
    rw [List.map_map]
    apply List.map_congr_left
    intro k _
    simp only [Function.comp]
    split <;> rfl
  unfold putW addKey
  rw [ea, em]
  by_cases h : p ∈ ks
  · rw [if_pos (by simpa using h), if_pos h]
  · rw [if_neg (by simpa using h), if_neg h]
    simp [dctW]
theorem addKey_len {acc : List Nat} {p : Nat} : (addKey acc p).length ≤ acc.length + 1 := by unfold addKey; split <;> simp
theorem addKey_nodup {acc : List Nat} {p : Nat} (h : acc.Nodup) : (addKey acc p).Nodup := by
  unfold addKey
  split
  · exact h
  · rename_i hp
    rw [List.nodup_append]
    refine ⟨h, by simp, fun a ha b hb => ?_⟩
    rw [List.mem_singleton.mp hb]
    rintro rfl
    exact hp ha
theorem keyRow_cons {since : List Nat} {t p : Nat} {acc row : List Nat} : keyRow since t acc (p :: row) = keyRow since t (if since.getD p 0 ≤ t then addKey acc p else acc) row := rfl
theorem keyFrom_cons {since : List Nat} {k : Nat} {row : List Nat} {plan : List (List Nat)} {acc : List Nat} : keyFrom since k (row :: plan) acc = keyFrom since (k + 1) plan (keyRow since k acc row) := rfl
/-- keys are different pages -/
structure Keys (n : Nat) (ks : List Nat) : Prop where
  nd : ks.Nodup
  lt : ∀ p ∈ ks, p < n
theorem Keys.len {n : Nat} {ks : List Nat} (h : Keys n ks) : ks.length ≤ n := by
  have h1 := (List.nodup_iff_count.mp h.nd)
  have hp : (ks.mergeSort fun a b => decide (a ≤ b)).Perm ks := List.mergeSort_perm _ _
  have hs : (ks.mergeSort fun a b => decide (a ≤ b)).Pairwise (fun a b => decide (a ≤ b) = true) := List.pairwise_mergeSort (fun a b c h1 h2 => by simp at *; omega) (fun a b => by simp; omega) _
  have hn := hp.nodup_iff.mpr h.nd
  have hlt : (ks.mergeSort fun a b => decide (a ≤ b)).Pairwise (· < ·) := (hs.and hn).imp fun {a b} z => by
    have z1 := z.1
    have z2 := z.2
    simp at z1
    omega
  rw [← hp.length_eq]
  exact pw_len hlt fun p hp2 => h.lt p (hp.subset hp2)
theorem Keys.add {n p : Nat} {ks : List Nat} (h : Keys n ks) (hp : p < n) : Keys n (addKey ks p) := ⟨addKey_nodup h.nd, fun q hq => by
  unfold addKey at hq
  split at hq
  · exact h.lt q hq
  · rcases List.mem_append.mp hq with hq | hq
    · exact h.lt q hq
    · rw [List.mem_singleton.mp hq]; exact hp⟩
theorem ws_gSubD {fo fi : FE} {w : W} {env : En} {st : Sto} {nx : En → Sto → Prop} {rt : W → Sto → Prop} {lp : Bool → En → Sto → Prop} {ex : Str → Flds → En → Sto → Prop} (h : wp (fo env st) (fun o s => wp (fi env s) (fun i s2 => ∃ s3, wSetD o i w s2 = some s3 ∧ nx env s3) noX) noX) : ws (gSubD fo fi w env st) nx rt lp ex := by
  obtain ⟨o, s, e1, h⟩ := wp_get h
  obtain ⟨i, s2, e2, s3, e3, h⟩ := wp_get h
  unfold gSubD
  simp only [e1, e2, An.bind_ok, e3, optB_some]
  exact h
theorem wSetD_at {st : Sto} {p : Nat} {ks : List Nat} (h : ks.length ≤ 1000) : wSetD (.ref st.length) (.int p) (.bl true) (st ++ [.dct (dctW ks)]) = some (st ++ [.dct (dctW (addKey ks p))]) := by
  simp only [wSetD, keyW, sto_at]
  rw [if_pos (by simp [dctW]; omega), dct_put, sto_set0]
  rfl
theorem lawleft_ok {since : List Nat} {plan : List (List Nat)} {n : Nat} {st : Sto} (hs : st[n]? = some (.lst (wI8 since))) (hl : since.length ≤ 100) (hp : ∀ row ∈ plan, ∀ p ∈ row, p < since.length) :
    f_law_left [.ref n, .tup (putsW plan)] st = .ok (.int (leftP since plan)) st := by
  refine clean_wp (wp_runN ?_) rfl
  unfold b_law_left
  repeat decreasing_trivial_pre_omega
  refine ws_forS (fun r e s => ∃ (k : Nat) (rest : List (List Nat)) (acc : List Nat) (a b c : Option W), r = enumW k (putsW rest) ∧ (∀ row ∈ rest, ∀ p ∈ row, p < since.length) ∧ Keys since.length acc ∧ keyFrom since k rest acc = keyFrom since 0 plan [] ∧
    e = [some (.ref n), some (.tup (putsW plan)), some (.ref st.length), a, b, c] ∧ s = st ++ [.dct (dctW acc)]) ⟨0, plan, [], _, _, _, rfl, hp, ⟨by simp, by simp⟩, rfl, rfl, rfl⟩ ?_ ?_
  · rintro w r e s ⟨k, rest, acc, a, b, c, hr, hrest, hacc, hput, rfl, rfl⟩
    cases rest with
    | nil => cases hr
    | cons row rest =>
      simp only [putsW, List.map_cons, enumW, List.cons.injEq] at hr
      obtain ⟨rfl, rfl⟩ := hr
      refine ⟨trivial, ?_⟩
      repeat decreasing_trivial_pre_omega
      refine ws_forS (fun r e s => ∃ (row2 acc2 : List Nat) (c : Option W), r = wI8 row2 ∧ (∀ p ∈ row2, p < since.length) ∧ Keys since.length acc2 ∧ keyRow since k acc2 row2 = keyRow since k acc row ∧
        e = [some (.ref n), some (.tup (putsW plan)), some (.ref st.length), some (.int k), some (.tup (wI8 row)), c] ∧ s = st ++ [.dct (dctW acc2)]) ⟨row, acc, _, rfl, hrest row List.mem_cons_self, hacc, rfl, rfl, rfl⟩ ?_ ?_
      · rintro w2 r2 e s ⟨row2, acc2, c, hr2, hlt, hacc2, hf, rfl, rfl⟩
        cases row2 with
        | nil => cases hr2
        | cons p row2 =>
          simp only [wI8, List.map_cons, List.cons.injEq] at hr2
          obtain ⟨rfl, rfl⟩ := hr2
          have hpl := hlt p List.mem_cons_self
          have ex : (wI8 since)[p]? = some (W.int (since.getD p 0 : Nat)) := by
            unfold wI8
            rw [List.getElem?_map, List.getElem?_eq_getElem hpl, List.getD_eq_getElem?_getD, List.getElem?_eq_getElem hpl]
            rfl
          refine ⟨trivial, ?_⟩
          repeat decreasing_trivial_pre_omega
          by_cases hle : ((since.getD p 0 : Nat) : Int) ≤ k
          · repeat decreasing_trivial_pre_omega
            refine ws_gSubD ?_
            repeat decreasing_trivial_pre_omega
            refine ⟨_, wSetD_at (by have := hacc2.len; omega), ?_⟩
            refine ⟨row2, addKey acc2 p, _, rfl, fun q hq => hlt q (List.mem_cons_of_mem _ hq), hacc2.add hpl, ?_, rfl, rfl⟩
            rw [keyRow_cons, if_pos (by omega)] at hf
            exact hf
          · repeat decreasing_trivial_pre_omega
            refine ⟨row2, acc2, _, rfl, fun q hq => hlt q (List.mem_cons_of_mem _ hq), hacc2, ?_, rfl, rfl⟩
            rw [keyRow_cons, if_neg (by omega)] at hf
            exact hf
      · rintro e s ⟨row2, acc2, c, hr2, hlt, hacc2, hf, rfl, rfl⟩
        cases row2 with
        | cons _ _ => cases hr2
        | nil =>
          refine ⟨trivial, k + 1, rest, acc2, _, _, _, rfl, fun r hr => hrest r (List.mem_cons_of_mem _ hr), hacc2, ?_, rfl, rfl⟩
          have hf : acc2 = keyRow since k acc row := hf
          rw [hf, ← keyFrom_cons]
          exact hput
  · rintro e s ⟨k, rest, acc, a, b, c, hr, hrest, hacc, hput, rfl, rfl⟩
    cases rest with
    | cons _ _ => cases hr
    | nil =>
      refine ⟨trivial, ?_⟩
      have e : acc = keyFrom since 0 plan [] := hput
      subst e
      repeat decreasing_trivial_pre_omega
      refine wp_eq (a := .int (dctW (keyFrom since 0 plan [])).length) (s := st ++ [.dct (dctW (keyFrom since 0 plan []))]) (by simp only [wLen, sto_at]) ?_
      repeat decreasing_trivial_pre_omega
      have := hacc.len
      refine ⟨?_, _, rfl⟩
      unfold leftP
      simp only [wI8_len, dctW, List.length_map]
      congr 1
      omega

/-- what the judge lets by -/
def Lets (many : Nat) (puts : List (List Nat)) (width : Nat) (x : W) : Prop := ∃ (left : Nat) (plan : List (List Nat)) (first : Nat), x = .tup [.int left, .tup (putsW plan), .int first] ∧ left ≤ many ∧ first ≤ puts.length ∧ plan.length = puts.length ∧
  (∀ row ∈ plan, row.Pairwise (· < ·) ∧ (∀ p ∈ row, p < many) ∧ row.length ≤ width) ∧ leftP (sinceL many puts) plan = left ∧ owedL (sinceL many puts) puts.length width first = left ∧ ∀ t, t < first → owedL (sinceL many puts) puts.length width t ≠ left
open Classical in
noncomputable def letsB (many : Nat) (puts : List (List Nat)) (width : Nat) (x : W) : Bool := decide (Lets many puts width x)
theorem letsB_no {many width : Nat} {puts : List (List Nat)} {x : W} (h : ¬ Lets many puts width x) : letsB many puts width x = false := by unfold letsB; exact @decide_eq_false _ (Classical.propDecidable _) h
theorem letsB_yes {many width : Nat} {puts : List (List Nat)} {x : W} (h : Lets many puts width x) : letsB many puts width x = true := by unfold letsB; exact @decide_eq_true _ (Classical.propDecidable _) h
structure Plain3 (st : Sto) (x : W) : Prop where
  ty : TyB st x
  it : ∀ l, x = .tup l → ∀ w ∈ l, ∀ g, Plain2 (st ++ g) w
theorem nat_of_isW {b : Int} {w : W} (h : isW 0 b w = true) : ∃ n : Nat, w = .int n ∧ (n : Int) ≤ b := by
  cases w with
  | int i =>
    simp [isW] at h
    exact ⟨i.toNat, by rw [Int.toNat_of_nonneg h.1], by omega⟩
  | _ => cases h
theorem nats_of {l : List W} {b : Int} (h : l.all (isW 0 b) = true) : ∃ ns : List Nat, l = wI8 ns ∧ ∀ n ∈ ns, (n : Int) ≤ b := by
  induction l with
  | nil => exact ⟨[], rfl, by simp⟩
  | cons x l ih =>
    rw [List.all_cons, Bool.and_eq_true] at h
    obtain ⟨ns, rfl, h2⟩ := ih h.2
    obtain ⟨n, rfl, h3⟩ := nat_of_isW h.1
    exact ⟨n :: ns, rfl, fun m hm => by
      rcases List.mem_cons.mp hm with rfl | hm
      · exact h3
      · exact h2 m hm⟩
theorem rowB_nat {many : Nat} {most : Int} {w : W} (h : rowB many most w = true) : ∃ row : List Nat, w = .tup (wI8 row) ∧ row.Pairwise (· < ·) ∧ (∀ p ∈ row, p < many) ∧ (row.length : Int) ≤ most := by
  cases w with
  | tup l =>
    simp only [rowB, Bool.and_eq_true, decide_eq_true_eq] at h
    obtain ⟨h1, h2, h3⟩ := h
    obtain ⟨ns, rfl, h4⟩ := nats_of h2
    rw [rise_nat, decide_eq_true_eq] at h3
    rw [wI8_len] at h1
    exact ⟨ns, rfl, h3, fun p hp => by have := h4 p hp; omega, h1⟩
  | _ => cases h
theorem rowsB_nat {many : Nat} {most : Int} : ∀ {l : List W}, l.all (rowB many most) = true → ∃ plan : List (List Nat), l = putsW plan ∧ ∀ row ∈ plan, row.Pairwise (· < ·) ∧ (∀ p ∈ row, p < many) ∧ (row.length : Int) ≤ most
  | [], _ => ⟨[], rfl, by simp⟩
  | w :: l, h => by
    rw [List.all_cons, Bool.and_eq_true] at h
    obtain ⟨row, rfl, h1⟩ := rowB_nat h.1
    obtain ⟨plan, rfl, h2⟩ := rowsB_nat h.2
    exact ⟨row :: plan, rfl, fun r hr => by
      rcases List.mem_cons.mp hr with rfl | hr
      · exact h1
      · exact h2 r hr⟩
theorem wI8_inj {a b : List Nat} (h : wI8 a = wI8 b) : a = b := by
  unfold wI8 at h
  refine List.map_inj_right (fun x y e => ?_) |>.mp h
  injection e with e
  omega
theorem putsW_inj {a b : List (List Nat)} (h : putsW a = putsW b) : a = b := by
  unfold putsW at h
  refine List.map_inj_right (fun x y e => ?_) |>.mp h
  injection e with e
  exact wI8_inj e
theorem lets_shape {many width : Nat} {puts : List (List Nat)} {l : List W} (h : Lets many puts width (.tup l)) : l.length = 3 := by
  obtain ⟨_, _, _, e, _⟩ := h
  cases e
  rfl
theorem inF_ints {i : Int} : ∀ ns : List Int, inFW (.int i) (ns.map W.int) = decide (i ∈ ns)
  | [] => rfl
  | a :: l => by
    have ih := inF_ints (i := i) l
    unfold inFW at ih ⊢
    rw [List.map_cons, List.any_cons, ih]
    by_cases e : i = a
    · simp [eqFW, e]
    · have : ¬ a = i := fun z => e z.symm
      simp [eqFW, e, this]
theorem flat_ints {ns : List Int} : (ns.map W.int).all flatW = true := by
  rw [List.all_eq_true]
  intro w hw
  obtain ⟨n, _, rfl⟩ := List.mem_map.mp hw
  rfl
theorem lets_iff {many width : Nat} {puts plan : List (List Nat)} {left first : Nat} : Lets many puts width (.tup [.int left, .tup (putsW plan), .int first]) ↔ (left ≤ many ∧ first ≤ puts.length ∧ plan.length = puts.length ∧
    (∀ row ∈ plan, row.Pairwise (· < ·) ∧ (∀ p ∈ row, p < many) ∧ row.length ≤ width) ∧ leftP (sinceL many puts) plan = left ∧ owedL (sinceL many puts) puts.length width first = left ∧ ∀ t, t < first → owedL (sinceL many puts) puts.length width t ≠ left) := by
  constructor
  · rintro ⟨l', p', f', e, h⟩
    have e := W.tup.inj e
    simp only [List.cons.injEq, W.int.injEq, W.tup.injEq, and_true] at e
    obtain ⟨e1, e2, e3⟩ := e
    have e1 : left = l' := by omega
    have e3 : first = f' := by omega
    have e2 := putsW_inj e2
    subst e1 e2 e3
    exact h
  · intro h
    exact ⟨left, plan, first, rfl, h⟩
theorem v_notInI {n : Nat} {ns : List Int} {i : Int} {st : Sto} {QB : Bool → Sto → Prop} {E : XE} (h : st[n]? = some (.lst (ns.map W.int))) (q : QB (decide (i ∉ ns)) st) : wp (optB (wNotIn (.int i) (.ref n) st) st) QB E := by
  refine wp_opt (a := decide (i ∉ ns)) ?_ q
  have f1 : flatW (.int i) = true := rfl
  simp only [wNotIn, wIn, getS, getL, h]
  rw [if_pos ⟨f1, flat_ints⟩, inF_ints]
  simp

end Lw

namespace Lw
open PySem PySem.Spec PyProof.Rows L2 Sw
/-- one step; the goal's head says which -/
local macro_rules | `(tactic| decreasing_trivial_pre_omega) => `(tactic| first
  | ((with_reducible refine Sw.gWi ?_); first
    | with_reducible refine Sw.ws_ift ?_
    | with_reducible refine Sw.ws_iff ?_
    | with_reducible refine Sw.ws_ifn ?_
    | ((with_reducible refine Sw.ws_ifd1 ?_ ?_); (focus first | assumption | omega | (simp; done)))
    | ((with_reducible refine Sw.ws_ifd0 ?_ ?_); (focus first | assumption | omega | (simp; done)))
    | ((with_reducible refine Sw.ws_ifb1 ?_ ?_); (focus rfl))
    | ((with_reducible refine Sw.ws_ifb0 ?_ ?_); (focus rfl))
    )
  | ((with_reducible refine Sw.gW ?_); first
    | with_reducible refine Sw.ws_seqS ?_
    | with_reducible refine Sw.ws_ifS ?_
    | with_reducible refine Sw.ws_forN ?_
    | with_reducible refine Sw.ws_seq ?_
    | with_reducible refine Sw.ws_set ?_
    | with_reducible refine Sw.ws_if ?_
    | with_reducible refine Sw.ws_ret ?_
    | with_reducible refine Sw.ws_next ?_
    | with_reducible refine Sw.ws_drop ?_
    | with_reducible refine Sw.ws_for ?_
    | with_reducible refine Sw.ws_asg ?_
    | with_reducible refine Sw.ws_retN ?_
    | with_reducible refine Sw.ws_raise ?_
    | with_reducible refine Sw.ws_raiseD ?_
    | with_reducible refine Sw.ws_gN ?_
    | with_reducible refine Sw.ws_brk ?_
    | with_reducible refine Sw.ws_cnt ?_
    | ((with_reducible apply Sw.ws_aug); rfl)
    | with_reducible refine Sw.ws_gSub ?_
    | with_reducible refine Sw.ws_gsCons ?_
    | with_reducible refine Sw.ws_gsNil ?_
    | ((with_reducible apply Sw.ws_gsConsE); (focus rfl))
    | ((with_reducible apply Sw.ws_gsNilE); (focus rfl))
    | with_reducible refine Sw.ws_par2 ?_
    | with_reducible refine Sw.ws_par3 ?_
    | ((with_reducible refine Sw.ws_gTup ?_ ?_); (focus rfl))
    | ((with_reducible apply Sw.ws_gSeqN); (focus first | rfl | exact getS_at (by assumption) | exact getS_at sto_at | exact getS_at (sto_app (by assumption)) | exact getS_at (sto_app sto_at)); (focus first | rfl | decide | (simp; done) | (simp; omega)))
    | ((with_reducible apply Sw.ws_gStarN); (focus first | rfl | exact getS_at (by assumption) | exact getS_at sto_at | exact getS_at (sto_app (by assumption)) | exact getS_at (sto_app sto_at)); (focus first | decide | (simp; done) | (simp; omega)))
    )
  | ((with_reducible refine Sw.gI ?_); first
    | with_reducible refine Sw.wp_ift ?_
    | with_reducible refine Sw.wp_iff ?_
    | with_reducible refine Sw.wp_ifn ?_
    | ((with_reducible refine Sw.wp_ifd1 ?_ ?_); (focus first | assumption | omega | (simp; done)))
    | ((with_reducible refine Sw.wp_ifd0 ?_ ?_); (focus first | assumption | omega | (simp; done)))
    | ((with_reducible refine Sw.wp_ifb1 ?_ ?_); (focus rfl))
    | ((with_reducible refine Sw.wp_ifb0 ?_ ?_); (focus rfl))
    )
  | ((with_reducible refine Sw.gF ?_); first
    | ((with_reducible apply Sw.v_var); rfl)
    | with_reducible refine Sw.v_c ?_
    | with_reducible refine Sw.v_cons ?_
    | with_reducible refine Sw.v_nil ?_
    | ((with_reducible refine Sw.v_fn ?_))
    | with_reducible refine Sw.v_call ?_
    | ((with_reducible apply Sw.v_ask); (focus rfl); (focus rfl))
    | with_reducible refine Sw.v_bin ?_
    | with_reducible refine Sw.v_cmp ?_
    | with_reducible refine Sw.v_cmpE ?_
    | with_reducible refine Sw.v_tru ?_
    | with_reducible refine Sw.v_notT ?_
    | with_reducible refine Sw.v_andT ?_
    | with_reducible refine Sw.v_orT ?_
    | with_reducible refine Sw.v_and ?_
    | with_reducible refine Sw.v_or ?_
    | with_reducible refine Sw.v_not ?_
    | with_reducible refine Sw.v_if ?_
    | with_reducible refine Sw.v_chn ?_
    | with_reducible refine Sw.v_chnE ?_
    | with_reducible refine Sw.v_tup ?_
    | with_reducible refine Sw.v_lst ?_
    | with_reducible refine Sw.v_sl ?_
    | with_reducible refine Sw.v_no ?_
    | with_reducible refine Sw.v_so ?_
    | with_reducible refine Sw.v_neg ?_
    | with_reducible refine Sw.v_lc ?_
    | with_reducible refine Sw.v_it ?_
    | with_reducible refine Sw.v_seqI ?_
    | with_reducible refine Sw.v_mt ?_
    | with_reducible refine Sw.v_m1 ?_
    | with_reducible refine Sw.v_dict0 ?_
    | with_reducible refine Sw.v_it1 ?_
    )
  | ((with_reducible refine Sw.gO ?_); first
    | with_reducible refine Sw.v_ltI ?_
    | with_reducible refine Sw.v_leI ?_
    | with_reducible refine Sw.v_gtI ?_
    | with_reducible refine Sw.v_geI ?_
    | with_reducible refine Sw.v_eqI ?_
    | with_reducible refine Sw.v_neI ?_
    | with_reducible refine Sw.v_eqS ?_
    | with_reducible refine Sw.v_neS ?_
    | with_reducible refine Sw.v_truB ?_
    | with_reducible refine Sw.v_truI ?_
    | with_reducible refine Sw.v_truN ?_
    | with_reducible refine Sw.v_truT ?_
    | with_reducible refine Sw.v_seqT ?_
    | with_reducible refine Sw.v_seqR ?_
    | with_reducible refine Sw.v_seqS ?_
    | ((with_reducible apply Sw.v_seqL); (focus first | assumption | exact sto_at | exact sto_app (by assumption) | exact sto_app (sto_app (by assumption)) | exact sto_app sto_at | exact sto_app (sto_app sto_at)))
    | with_reducible refine Sw.v_inK ?_
    | with_reducible refine Sw.v_notInK ?_
    | ((with_reducible apply Sw.wp_opt); (focus rfl))
    )
  | ((with_reducible refine Sw.gE ?_); first
    | with_reducible refine Sw.wp_bind ?_
    | with_reducible refine Sw.wp_ok ?_
    | with_reducible refine Sw.v_addI ?_
    | with_reducible refine Sw.v_subI ?_
    | ((with_reducible refine Sw.v_mulI (.inl ?_) ?_); (focus first | decide | omega))
    | ((with_reducible refine Sw.v_mulT ?_ ?_); exact ⟨by simp, by decide, by decide, by simp⟩)
    | ((with_reducible apply Sw.v_mulL); (focus first | assumption | exact sto_at | exact sto_app (by assumption) | exact sto_app (sto_app (by assumption)) | exact sto_app sto_at | exact sto_app (sto_app sto_at)); (focus exact ⟨by decide, by decide, by simp⟩))
    | ((with_reducible refine Sw.v_modI ?_ ?_); (focus first | decide | omega))
    | ((with_reducible refine Sw.v_addT ?_ ?_); refine line1000 ?_; (focus first | decide | (simp; done) | (simp; omega)))
    | ((with_reducible apply Sw.v_powE); (focus decide +kernel); (focus (simp only [Int.reduceToNat, Int.reducePow]; rfl)))
    | ((with_reducible apply Sw.v_ixL); (first | assumption | exact sto_at | exact sto_app (by assumption) | exact sto_app (sto_app (by assumption)) | exact sto_app sto_at | exact sto_app (sto_app sto_at)); (focus first | rfl | assumption | exact atI_nat (by assumption) | exact Sw.atc0 | exact Sw.atc1 | exact Sw.atc2))
    | ((with_reducible apply Sw.v_ixT); (focus first | rfl | assumption | exact atI_nat (by assumption) | exact Sw.atc0 | exact Sw.atc1 | exact Sw.atc2))
    | ((with_reducible apply Sw.v_ixR); (focus first | rfl | assumption | exact atI_nat (by assumption) | exact Sw.atc0 | exact Sw.atc1 | exact Sw.atc2))
    | with_reducible refine Sw.v_slc1 ?_
    | with_reducible refine Sw.v_slc2 ?_
    | ((with_reducible apply Sw.v_slLt1); (focus first | assumption | exact sto_at | exact sto_app (by assumption) | exact sto_app (sto_app (by assumption)) | exact sto_app sto_at | exact sto_app (sto_app sto_at)))
    | ((with_reducible apply Sw.v_slLt2); (focus first | assumption | exact sto_at | exact sto_app (by assumption) | exact sto_app (sto_app (by assumption)) | exact sto_app sto_at | exact sto_app (sto_app sto_at)))
    | ((with_reducible apply Sw.v_slLd1); (focus first | assumption | exact sto_at | exact sto_app (by assumption) | exact sto_app (sto_app (by assumption)) | exact sto_app sto_at | exact sto_app (sto_app sto_at)))
    | ((with_reducible apply Sw.v_addL); (focus first | assumption | exact sto_at | exact sto_app (by assumption) | exact sto_app (sto_app (by assumption)) | exact sto_app sto_at | exact sto_app (sto_app sto_at)); (focus first | assumption | exact sto_at | exact sto_app (by assumption) | exact sto_app (sto_app (by assumption)) | exact sto_app sto_at | exact sto_app (sto_app sto_at)); (focus first | decide | (simp; done) | (simp; omega)))
    | with_reducible refine Sw.v_sortSet ?_
    | ((with_reducible refine Sw.v_sl0 ?_ ?_); (focus omega))
    | ((with_reducible refine Sw.v_sl1 ?_ ?_); (focus omega))
    | with_reducible refine Sw.v_lenT ?_
    | with_reducible refine Sw.v_lenR ?_
    | ((with_reducible apply Sw.v_lenL); (focus first | assumption | exact sto_at | exact sto_app (by assumption) | exact sto_app (sto_app (by assumption)) | exact sto_app sto_at | exact sto_app (sto_app sto_at)))
    | ((with_reducible apply Sw.v_appT); (focus first | decide | (simp; done) | (simp; omega)))
    | with_reducible refine Sw.v_intI ?_
    | with_reducible refine Sw.v_intB ?_
    | with_reducible refine Sw.v_absI ?_
    | with_reducible refine Sw.v_max2 ?_
    | with_reducible refine Sw.v_min2 ?_
    | with_reducible refine Sw.v_listT ?_
    | ((with_reducible apply Sw.v_listL); (focus first | assumption | exact sto_at | exact sto_app (by assumption) | exact sto_app (sto_app (by assumption)) | exact sto_app sto_at | exact sto_app (sto_app sto_at)))
    | with_reducible refine Sw.v_tupleT ?_
    | ((with_reducible apply Sw.v_tupleL); (focus first | assumption | exact sto_at | exact sto_app (by assumption) | exact sto_app (sto_app (by assumption)) | exact sto_app sto_at | exact sto_app (sto_app sto_at)))
    | ((with_reducible refine Sw.v_rng1 ?_ ?_); (focus first | exact ⟨by omega, by omega, by omega, by omega⟩ | decide))
    | ((with_reducible refine Sw.v_rng2 ?_ ?_); (focus first | exact ⟨by omega, by omega, by omega, by omega⟩ | decide))
    | with_reducible refine Sw.v_zipT ?_
    | with_reducible refine Sw.v_enumT ?_
    | ((with_reducible apply Sw.v_enumL); (focus first | assumption | exact sto_at | exact sto_app (by assumption) | exact sto_app (sto_app (by assumption)) | exact sto_app sto_at | exact sto_app (sto_app sto_at)))
    | with_reducible refine Sw.v_andI ?_
    | with_reducible refine Sw.v_orI ?_
    | ((with_reducible refine Sw.v_shrI ?_ ?_); decide)
    | ((with_reducible apply Sw.v_allL); (focus first | assumption | exact sto_at | exact sto_app (by assumption) | exact sto_app (sto_app (by assumption)) | exact sto_app sto_at | exact sto_app (sto_app sto_at)))
    | ((with_reducible apply Sw.v_anyL); (focus first | assumption | exact sto_at | exact sto_app (by assumption) | exact sto_app (sto_app (by assumption)) | exact sto_app sto_at | exact sto_app (sto_app sto_at)))
    | with_reducible refine Sw.v_addGI ?_
    | ((with_reducible refine Sw.v_addGT ?_ ?_); refine line1000 ?_; (focus first | decide | (simp; done) | (simp; omega)))
    | ((with_reducible apply Sw.v_ixK); (focus rfl))
    )
  | with_reducible refine ⟨_, rfl, ?_⟩
  | with_reducible refine ⟨_, _, rfl, ?_⟩
  | with_reducible refine ⟨_, _, _, rfl, ?_⟩
  | ((with_reducible refine And.intro ?_ ?_); (focus first | rfl | decide | exact isLst_at sto_at | exact isLst_at (by assumption) | exact isLst_at (sto_app sto_at) | exact isLst_at (sto_app (by assumption)) | (simp; done) | (simp; omega)))
  | exact ⟨[], (List.append_nil _).symm⟩
  | with_reducible rfl
  | with_reducible refine Sw.ex_app ?_
  | exact ⟨_, rfl⟩
  )
theorem keyRow_all {since : List Nat} {t : Nat} : ∀ {row acc : List Nat}, (acc ++ row).Nodup → (∀ p ∈ row, since.getD p 0 ≤ t) → keyRow since t acc row = acc ++ row
  | [], acc, _, _ => by simp [keyRow]
  | p :: row, acc, hn, h => by
    have hp : p ∉ acc := fun z => by
      have := (List.nodup_append.mp hn).2.2 p z p List.mem_cons_self
      exact this rfl
    rw [keyRow_cons, if_pos (h p List.mem_cons_self)]
    have e : addKey acc p = acc ++ [p] := if_neg hp
    rw [e, keyRow_all (by simpa using hn) fun q hq => h q (List.mem_cons_of_mem _ hq)]
    simp
theorem keyFrom_all {since : List Nat} : ∀ {plan : List (List Nat)} {k : Nat} {acc : List Nat}, (acc ++ plan.flatten).Nodup → (∀ (i : Nat) (row : List Nat), plan[i]? = some row → ∀ p ∈ row, since.getD p 0 ≤ k + i) → keyFrom since k plan acc = acc ++ plan.flatten
  | [], k, acc, _, _ => by simp [keyFrom]
  | row :: plan, k, acc, hn, h => by
    rw [List.flatten_cons, ← List.append_assoc] at hn
    have h0 : keyRow since k acc row = acc ++ row := keyRow_all (hn.sublist (List.sublist_append_left _ _)) fun p hp => h 0 row rfl p hp
    rw [keyFrom_cons, h0, keyFrom_all hn fun i r e p hp => by have := h (i + 1) r (by simpa using e) p hp; omega]
    simp
theorem sortN_perm (l : List Nat) : (sortN l).Perm l := List.mergeSort_perm _ _
theorem sortN_rise {l : List Nat} (h : l.Nodup) : (sortN l).Pairwise (· < ·) := by
  have hs : (sortN l).Pairwise (fun a b => decide (a ≤ b) = true) := List.pairwise_mergeSort (fun a b c h1 h2 => by simp at *; omega) (fun a b => by simp; omega) _
  have hn := (sortN_perm l).nodup_iff.mpr h
  exact (hs.and hn).imp fun {a b} z => by
    have z1 := z.1
    have z2 := z.2
    simp at z1
    omega
theorem flat_sort : ∀ {rows : List (List Nat)}, (rows.map sortN).flatten.Perm rows.flatten
  | [] => List.Perm.refl _
  | r :: rows => by
    simp only [List.map_cons, List.flatten_cons]
    exact (sortN_perm r).append flat_sort
theorem filled_flat {since : List Nat} {ticks w : Nat} : (filledL since ticks w).flatten.Perm (planG since ticks w).1.flatten := by
  unfold filledL
  exact ((List.reverse_perm _).flatten).trans flat_sort
theorem filled_len {since : List Nat} {ticks w : Nat} : (filledL since ticks w).length = ticks := by
  unfold filledL
  rw [List.length_reverse, List.length_map, go_len, List.length_reverse, List.length_range]
theorem filled_row {since : List Nat} {ticks w : Nat} {i : Nat} {row : List Nat} (h : (filledL since ticks w)[i]? = some row) : ∃ r, row = sortN r ∧ r.length ≤ w ∧ r.Nodup ∧ ∀ q ∈ r, since.getD q 0 ≤ i ∧ q < since.length := by
  have hi : i < ticks := by
    have := (List.getElem?_eq_some_iff.mp h).1
    rwa [filled_len] at this
  unfold filledL at h
  have hl : ((planG since ticks w).1.map sortN).length = ticks := by rw [List.length_map, go_len, List.length_reverse, List.length_range]
  rw [List.getElem?_reverse (by rw [hl]; exact hi), List.getElem?_map, hl] at h
  obtain ⟨r, hr, rfl⟩ := Option.map_eq_some_iff.mp h
  have ht : (List.range ticks).reverse[ticks - 1 - i]? = some i := by
    rw [List.getElem?_reverse (by simp; omega), List.length_range, List.getElem?_range (by omega)]
    congr 1
    omega
  obtain ⟨a, b, c⟩ := go_row _ _ _ ht hr
  exact ⟨r, rfl, a, (order_nodup since).sublist c, fun q hq => ⟨(b q hq).1, order_mem.mp (b q hq).2⟩⟩
section
variable {many width : Nat} {puts : List (List Nat)}
theorem plan_nodup : (planL many puts width).flatten.Nodup := by
  have h := (plan_perm (since := sinceL many puts) (ticks := puts.length) (w := width)).nodup_iff.mpr (order_nodup _)
  exact filled_flat.nodup_iff.mpr (h.sublist (List.sublist_append_left _ _))
theorem plan_count : (planL many puts width).flatten.length + leftL many puts width = many := by
  have h := (plan_perm (since := sinceL many puts) (ticks := puts.length) (w := width)).length_eq
  rw [List.length_append, (order_perm _).length_eq, List.length_range, since_len] at h
  have h2 := (filled_flat (since := sinceL many puts) (ticks := puts.length) (w := width)).length_eq
  unfold planL leftL
  omega
theorem told_lets (g : Good many puts width) : Lets many puts width (toldW many puts width) := by
  obtain ⟨u, hu, eu⟩ := owed_at g
  have hc := plan_count (many := many) (puts := puts) (width := width)
  have ht0 : tickL many puts width = firstL (sinceL many puts) puts.length width (leftL many puts width) := rfl
  obtain ⟨f1, f2, f3, _⟩ := first_spec (since := sinceL many puts) (ticks := puts.length) (width := width) ⟨u, hu, eu⟩
  refine lets_iff.mpr ⟨by omega, f1, filled_len, fun row hr => ?_, ?_, f2, f3⟩
  · obtain ⟨i, hi⟩ := List.getElem?_of_mem hr
    obtain ⟨r, rfl, h1, h2, h3⟩ := filled_row hi
    refine ⟨sortN_rise h2, fun p hp => ?_, by rw [(sortN_perm r).length_eq]; exact h1⟩
    have := (h3 p ((sortN_perm r).subset hp)).2
    rwa [since_len] at this
  · unfold leftP
    rw [keyFrom_all (by simpa using plan_nodup) fun i row hi p hp => ?_]
    · rw [List.nil_append, since_len]
      omega
    · obtain ⟨r, rfl, h1, h2, h3⟩ := filled_row hi
      have := (h3 p ((sortN_perm r).subset hp)).1
      omega
end

end Lw

namespace Lw
open PySem PySem.Spec PyProof.Rows L2 Sw
/-- one step; the goal's head says which -/
local macro_rules | `(tactic| decreasing_trivial_pre_omega) => `(tactic| first
  | ((with_reducible refine Sw.gWi ?_); first
    | with_reducible refine Sw.ws_ift ?_
    | with_reducible refine Sw.ws_iff ?_
    | with_reducible refine Sw.ws_ifn ?_
    | ((with_reducible refine Sw.ws_ifd1 ?_ ?_); (focus first | assumption | omega | (simp; done)))
    | ((with_reducible refine Sw.ws_ifd0 ?_ ?_); (focus first | assumption | omega | (simp; done)))
    | ((with_reducible refine Sw.ws_ifb1 ?_ ?_); (focus rfl))
    | ((with_reducible refine Sw.ws_ifb0 ?_ ?_); (focus rfl))
    )
  | ((with_reducible refine Sw.gW ?_); first
    | with_reducible refine Sw.ws_seqS ?_
    | with_reducible refine Sw.ws_ifS ?_
    | with_reducible refine Sw.ws_forN ?_
    | with_reducible refine Sw.ws_seq ?_
    | with_reducible refine Sw.ws_set ?_
    | with_reducible refine Sw.ws_if ?_
    | with_reducible refine Sw.ws_ret ?_
    | with_reducible refine Sw.ws_next ?_
    | with_reducible refine Sw.ws_drop ?_
    | with_reducible refine Sw.ws_for ?_
    | with_reducible refine Sw.ws_asg ?_
    | with_reducible refine Sw.ws_retN ?_
    | with_reducible refine Sw.ws_raise ?_
    | with_reducible refine Sw.ws_raiseD ?_
    | with_reducible refine Sw.ws_gN ?_
    | with_reducible refine Sw.ws_brk ?_
    | with_reducible refine Sw.ws_cnt ?_
    | ((with_reducible apply Sw.ws_aug); rfl)
    | with_reducible refine Sw.ws_gSub ?_
    | with_reducible refine Sw.ws_gsCons ?_
    | with_reducible refine Sw.ws_gsNil ?_
    | ((with_reducible apply Sw.ws_gsConsE); (focus rfl))
    | ((with_reducible apply Sw.ws_gsNilE); (focus rfl))
    | with_reducible refine Sw.ws_par2 ?_
    | with_reducible refine Sw.ws_par3 ?_
    | ((with_reducible refine Sw.ws_gTup ?_ ?_); (focus rfl))
    | ((with_reducible apply Sw.ws_gSeqN); (focus first | rfl | exact getS_at (by assumption) | exact getS_at sto_at | exact getS_at (sto_app (by assumption)) | exact getS_at (sto_app sto_at)); (focus first | rfl | decide | (simp; done) | (simp; omega)))
    | ((with_reducible apply Sw.ws_gStarN); (focus first | rfl | exact getS_at (by assumption) | exact getS_at sto_at | exact getS_at (sto_app (by assumption)) | exact getS_at (sto_app sto_at)); (focus first | decide | (simp; done) | (simp; omega)))
    )
  | ((with_reducible refine Sw.gI ?_); first
    | with_reducible refine Sw.wp_ift ?_
    | with_reducible refine Sw.wp_iff ?_
    | with_reducible refine Sw.wp_ifn ?_
    | ((with_reducible refine Sw.wp_ifd1 ?_ ?_); (focus first | assumption | omega | (simp; done)))
    | ((with_reducible refine Sw.wp_ifd0 ?_ ?_); (focus first | assumption | omega | (simp; done)))
    | ((with_reducible refine Sw.wp_ifb1 ?_ ?_); (focus rfl))
    | ((with_reducible refine Sw.wp_ifb0 ?_ ?_); (focus rfl))
    )
  | ((with_reducible refine Sw.gF ?_); first
    | ((with_reducible apply Sw.v_var); rfl)
    | with_reducible refine Sw.v_c ?_
    | with_reducible refine Sw.v_cons ?_
    | with_reducible refine Sw.v_nil ?_
    | ((with_reducible refine Sw.v_fn ?_))
    | with_reducible refine Sw.v_call ?_
    | ((with_reducible apply Sw.v_ask); (focus rfl); (focus rfl))
    | with_reducible refine Sw.v_bin ?_
    | with_reducible refine Sw.v_cmp ?_
    | with_reducible refine Sw.v_cmpE ?_
    | with_reducible refine Sw.v_tru ?_
    | with_reducible refine Sw.v_notT ?_
    | with_reducible refine Sw.v_andT ?_
    | with_reducible refine Sw.v_orT ?_
    | with_reducible refine Sw.v_and ?_
    | with_reducible refine Sw.v_or ?_
    | with_reducible refine Sw.v_not ?_
    | with_reducible refine Sw.v_if ?_
    | with_reducible refine Sw.v_chn ?_
    | with_reducible refine Sw.v_chnE ?_
    | with_reducible refine Sw.v_tup ?_
    | with_reducible refine Sw.v_lst ?_
    | with_reducible refine Sw.v_sl ?_
    | with_reducible refine Sw.v_no ?_
    | with_reducible refine Sw.v_so ?_
    | with_reducible refine Sw.v_neg ?_
    | with_reducible refine Sw.v_lc ?_
    | with_reducible refine Sw.v_it ?_
    | with_reducible refine Sw.v_seqI ?_
    | with_reducible refine Sw.v_mt ?_
    | with_reducible refine Sw.v_m1 ?_
    | with_reducible refine Sw.v_dict0 ?_
    | with_reducible refine Sw.v_it1 ?_
    )
  | ((with_reducible refine Sw.gO ?_); first
    | with_reducible refine Sw.v_ltI ?_
    | with_reducible refine Sw.v_leI ?_
    | with_reducible refine Sw.v_gtI ?_
    | with_reducible refine Sw.v_geI ?_
    | with_reducible refine Sw.v_eqI ?_
    | with_reducible refine Sw.v_neI ?_
    | with_reducible refine Sw.v_eqS ?_
    | with_reducible refine Sw.v_neS ?_
    | with_reducible refine Sw.v_truB ?_
    | with_reducible refine Sw.v_truI ?_
    | with_reducible refine Sw.v_truN ?_
    | with_reducible refine Sw.v_truT ?_
    | with_reducible refine Sw.v_seqT ?_
    | with_reducible refine Sw.v_seqR ?_
    | with_reducible refine Sw.v_seqS ?_
    | ((with_reducible apply Sw.v_seqL); (focus first | assumption | exact sto_at | exact sto_app (by assumption) | exact sto_app (sto_app (by assumption)) | exact sto_app sto_at | exact sto_app (sto_app sto_at)))
    | with_reducible refine Sw.v_inK ?_
    | with_reducible refine Sw.v_notInK ?_
    | ((with_reducible apply Sw.wp_opt); (focus rfl))
    )
  | ((with_reducible refine Sw.gE ?_); first
    | with_reducible refine Sw.wp_bind ?_
    | with_reducible refine Sw.wp_ok ?_
    | with_reducible refine Sw.v_addI ?_
    | with_reducible refine Sw.v_subI ?_
    | ((with_reducible refine Sw.v_mulI (.inl ?_) ?_); (focus first | decide | omega))
    | ((with_reducible refine Sw.v_mulT ?_ ?_); exact ⟨by simp, by decide, by decide, by simp⟩)
    | ((with_reducible apply Sw.v_mulL); (focus first | assumption | exact sto_at | exact sto_app (by assumption) | exact sto_app (sto_app (by assumption)) | exact sto_app sto_at | exact sto_app (sto_app sto_at)); (focus exact ⟨by decide, by decide, by simp⟩))
    | ((with_reducible refine Sw.v_modI ?_ ?_); (focus first | decide | omega))
    | ((with_reducible refine Sw.v_addT ?_ ?_); refine line1000 ?_; (focus first | decide | (simp; done) | (simp; omega)))
    | ((with_reducible apply Sw.v_powE); (focus decide +kernel); (focus (simp only [Int.reduceToNat, Int.reducePow]; rfl)))
    | ((with_reducible apply Sw.v_ixL); (first | assumption | exact sto_at | exact sto_app (by assumption) | exact sto_app (sto_app (by assumption)) | exact sto_app sto_at | exact sto_app (sto_app sto_at)); (focus first | rfl | assumption | exact atI_nat (by assumption) | exact Sw.atc0 | exact Sw.atc1 | exact Sw.atc2))
    | ((with_reducible apply Sw.v_ixT); (focus first | rfl | assumption | exact atI_nat (by assumption) | exact Sw.atc0 | exact Sw.atc1 | exact Sw.atc2))
    | ((with_reducible apply Sw.v_ixR); (focus first | rfl | assumption | exact atI_nat (by assumption) | exact Sw.atc0 | exact Sw.atc1 | exact Sw.atc2))
    | with_reducible refine Sw.v_slc1 ?_
    | with_reducible refine Sw.v_slc2 ?_
    | ((with_reducible apply Sw.v_slLt1); (focus first | assumption | exact sto_at | exact sto_app (by assumption) | exact sto_app (sto_app (by assumption)) | exact sto_app sto_at | exact sto_app (sto_app sto_at)))
    | ((with_reducible apply Sw.v_slLt2); (focus first | assumption | exact sto_at | exact sto_app (by assumption) | exact sto_app (sto_app (by assumption)) | exact sto_app sto_at | exact sto_app (sto_app sto_at)))
    | ((with_reducible apply Sw.v_slLd1); (focus first | assumption | exact sto_at | exact sto_app (by assumption) | exact sto_app (sto_app (by assumption)) | exact sto_app sto_at | exact sto_app (sto_app sto_at)))
    | ((with_reducible apply Sw.v_addL); (focus first | assumption | exact sto_at | exact sto_app (by assumption) | exact sto_app (sto_app (by assumption)) | exact sto_app sto_at | exact sto_app (sto_app sto_at)); (focus first | assumption | exact sto_at | exact sto_app (by assumption) | exact sto_app (sto_app (by assumption)) | exact sto_app sto_at | exact sto_app (sto_app sto_at)); (focus first | decide | (simp; done) | (simp; omega)))
    | with_reducible refine Sw.v_sortSet ?_
    | ((with_reducible refine Sw.v_sl0 ?_ ?_); (focus omega))
    | ((with_reducible refine Sw.v_sl1 ?_ ?_); (focus omega))
    | with_reducible refine Sw.v_lenT ?_
    | with_reducible refine Sw.v_lenR ?_
    | ((with_reducible apply Sw.v_lenL); (focus first | assumption | exact sto_at | exact sto_app (by assumption) | exact sto_app (sto_app (by assumption)) | exact sto_app sto_at | exact sto_app (sto_app sto_at)))
    | ((with_reducible apply Sw.v_appT); (focus first | decide | (simp; done) | (simp; omega)))
    | with_reducible refine Sw.v_intI ?_
    | with_reducible refine Sw.v_intB ?_
    | with_reducible refine Sw.v_absI ?_
    | with_reducible refine Sw.v_max2 ?_
    | with_reducible refine Sw.v_min2 ?_
    | with_reducible refine Sw.v_listT ?_
    | ((with_reducible apply Sw.v_listL); (focus first | assumption | exact sto_at | exact sto_app (by assumption) | exact sto_app (sto_app (by assumption)) | exact sto_app sto_at | exact sto_app (sto_app sto_at)))
    | with_reducible refine Sw.v_tupleT ?_
    | ((with_reducible apply Sw.v_tupleL); (focus first | assumption | exact sto_at | exact sto_app (by assumption) | exact sto_app (sto_app (by assumption)) | exact sto_app sto_at | exact sto_app (sto_app sto_at)))
    | ((with_reducible refine Sw.v_rng1 ?_ ?_); (focus first | exact ⟨by omega, by omega, by omega, by omega⟩ | decide))
    | ((with_reducible refine Sw.v_rng2 ?_ ?_); (focus first | exact ⟨by omega, by omega, by omega, by omega⟩ | decide))
    | with_reducible refine Sw.v_zipT ?_
    | with_reducible refine Sw.v_enumT ?_
    | ((with_reducible apply Sw.v_enumL); (focus first | assumption | exact sto_at | exact sto_app (by assumption) | exact sto_app (sto_app (by assumption)) | exact sto_app sto_at | exact sto_app (sto_app sto_at)))
    | with_reducible refine Sw.v_andI ?_
    | with_reducible refine Sw.v_orI ?_
    | ((with_reducible refine Sw.v_shrI ?_ ?_); decide)
    | ((with_reducible apply Sw.v_allL); (focus first | assumption | exact sto_at | exact sto_app (by assumption) | exact sto_app (sto_app (by assumption)) | exact sto_app sto_at | exact sto_app (sto_app sto_at)))
    | ((with_reducible apply Sw.v_anyL); (focus first | assumption | exact sto_at | exact sto_app (by assumption) | exact sto_app (sto_app (by assumption)) | exact sto_app sto_at | exact sto_app (sto_app sto_at)))
    | with_reducible refine Sw.v_addGI ?_
    | ((with_reducible refine Sw.v_addGT ?_ ?_); refine line1000 ?_; (focus first | decide | (simp; done) | (simp; omega)))
    | ((with_reducible apply Sw.v_ixK); (focus rfl))
    )
  | with_reducible refine ⟨_, rfl, ?_⟩
  | with_reducible refine ⟨_, _, rfl, ?_⟩
  | with_reducible refine ⟨_, _, _, rfl, ?_⟩
  | ((with_reducible refine And.intro ?_ ?_); (focus first | rfl | decide | exact isLst_at sto_at | exact isLst_at (by assumption) | exact isLst_at (sto_app sto_at) | exact isLst_at (sto_app (by assumption)) | (simp; done) | (simp; omega)))
  | exact ⟨[], (List.append_nil _).symm⟩
  | with_reducible rfl
  | with_reducible refine Sw.ex_app ?_
  | exact ⟨_, rfl⟩
  )
def lastFrom (p : Nat) : Nat → List (List Nat) → Nat → Nat
  | _, [], d => d
  | k, row :: rest, d => lastFrom p (k + 1) rest (if p ∈ row then k else d)
theorem setAll_at {t p : Nat} : ∀ {row acc : List Nat}, p < acc.length → (row.foldl (fun a q => a.set q t) acc).getD p 0 = if p ∈ row then t else acc.getD p 0
  | [], acc, _ => by simp
  | q :: row, acc, h => by
    rw [List.foldl_cons, setAll_at (by simpa using h)]
    by_cases h1 : p ∈ row
    · rw [if_pos h1, if_pos (List.mem_cons_of_mem _ h1)]
    · rw [if_neg h1]
      by_cases h2 : p = q
      · subst h2
        rw [if_pos List.mem_cons_self, List.getD_eq_getElem?_getD, List.getElem?_set_self h]
        rfl
      · rw [if_neg (by simp [h1, h2]), List.getD_eq_getElem?_getD, List.getElem?_set_ne (fun z => h2 z.symm), List.getD_eq_getElem?_getD]
theorem since_at' {p : Nat} : ∀ {rest : List (List Nat)} {k : Nat} {acc : List Nat}, p < acc.length → ((rest.zipIdx k).foldl (fun acc p => p.1.foldl (fun a q => a.set q p.2) acc) acc).getD p 0 = lastFrom p k rest (acc.getD p 0)
  | [], k, acc, _ => rfl
  | row :: rest, k, acc, h => by
    rw [List.zipIdx_cons, List.foldl_cons]
    show ((rest.zipIdx (k + 1)).foldl _ (row.foldl (fun a q => a.set q k) acc)).getD p 0 = _
    rw [since_at' (by rw [setAll_len]; exact h), setAll_at h]
    rfl
theorem since_at {many p : Nat} {puts : List (List Nat)} (h : p < many) : (sinceL many puts).getD p 0 = lastFrom p 0 puts 0 := by
  unfold sinceL
  rw [since_at' (by simpa using h)]
  congr 1
  rw [List.getD_eq_getElem?_getD, List.getElem?_replicate]
  split <;> rfl
theorem since_map {many : Nat} {puts : List (List Nat)} : sinceL many puts = (List.range many).map fun p => lastFrom p 0 puts 0 := by
  apply List.ext_getElem?
  intro p
  by_cases h : p < many
  · have h1 := since_at (puts := puts) h
    rw [List.getD_eq_getElem?_getD, List.getElem?_eq_getElem (by rw [since_len]; exact h)] at h1
    rw [List.getElem?_map, List.getElem?_range h, List.getElem?_eq_getElem (by rw [since_len]; exact h)]
    exact congrArg some h1
  · rw [List.getElem?_eq_none (by rw [since_len]; omega), List.getElem?_eq_none (by simp; omega)]
theorem last_ge {p u : Nat} (hu : u ≠ 0) : ∀ {rest : List (List Nat)} {k d : Nat}, u ≤ lastFrom p k rest d ↔ (∃ i row, rest[i]? = some row ∧ u ≤ k + i ∧ p ∈ row) ∨ (u ≤ d ∧ ∀ row ∈ rest, p ∉ row)
  | [], k, d => by simp [lastFrom]
  | row :: rest, k, d => by
    unfold lastFrom
    rw [last_ge hu]
    constructor
    · rintro (⟨i, r, h1, h2, h3⟩ | ⟨h1, h2⟩)
      · exact .inl ⟨i + 1, r, by simpa using h1, by omega, h3⟩
      · by_cases hp : p ∈ row
        · rw [if_pos hp] at h1
          exact .inl ⟨0, row, rfl, by omega, hp⟩
        · rw [if_neg hp] at h1
          exact .inr ⟨h1, fun r hr => (List.mem_cons.mp hr).elim (fun e => by rw [e]; exact hp) (h2 r)⟩
    · rintro (⟨i, r, h1, h2, h3⟩ | ⟨h1, h2⟩)
      · cases i with
        | zero =>
          simp only [List.getElem?_cons_zero, Option.some.injEq] at h1
          subst h1
          by_cases hm : ∀ r ∈ rest, p ∉ r
          · exact .inr ⟨by rw [if_pos h3]; omega, hm⟩
          · simp only [Classical.not_forall, Classical.not_not] at hm
            obtain ⟨r, hr, hp⟩ := hm
            obtain ⟨i, hi⟩ := List.getElem?_of_mem hr
            exact .inl ⟨i, r, hi, by omega, hp⟩
        | succ i => exact .inl ⟨i, r, by simpa using h1, by omega, h3⟩
      · exact .inr ⟨by rw [if_neg (h2 row List.mem_cons_self)]; exact h1, fun r hr => h2 r (List.mem_cons_of_mem _ hr)⟩
/-- the page is put in this tick or later; in the first one each is -/
def putB (puts : List (List Nat)) (u p : Nat) : Bool := decide (u = 0) || (puts.drop u).any fun row => decide (p ∈ row)
theorem putB_iff {puts : List (List Nat)} {u p : Nat} : putB puts u p = true ↔ u = 0 ∨ ∃ row ∈ puts.drop u, p ∈ row := by
  simp [putB]
theorem putB_last {puts : List (List Nat)} {u p : Nat} : decide (u ≤ lastFrom p 0 puts 0) = putB puts u p := by
  rw [Bool.eq_iff_iff, decide_eq_true_eq, putB_iff]
  by_cases hu : u = 0
  · simp [hu]
  · rw [last_ge hu]
    constructor
    · rintro (⟨i, row, h1, h2, h3⟩ | ⟨h1, _⟩)
      · refine .inr ⟨row, ?_, h3⟩
        refine List.mem_of_getElem? (i := i - u) ?_
        rw [List.getElem?_drop, show u + (i - u) = i by omega]
        exact h1
      · omega
    · rintro (h | ⟨row, h1, h2⟩)
      · exact absurd h hu
      · obtain ⟨i, hi⟩ := List.getElem?_of_mem h1
        rw [List.getElem?_drop] at hi
        exact .inl ⟨u + i, row, hi, by omega, h2⟩
def cntL (many : Nat) (puts : List (List Nat)) (u : Nat) : Nat := (List.range many).countP (putB puts u)
theorem owed_cnt {many width u : Nat} {puts : List (List Nat)} {ticks : Nat} : owedL (sinceL many puts) ticks width u = (cntL many puts u : Nat) - (width : Int) * ((ticks : Int) - u) := by
  unfold owedL cntL
  rw [since_map, List.countP_map]
  have e : ((fun s => decide (u ≤ s)) ∘ fun p => lastFrom p 0 puts 0) = putB puts u := funext fun p => putB_last
  rw [e]
theorem cnt_le {many : Nat} {puts : List (List Nat)} {u : Nat} : cntL many puts u ≤ many := by
  have := List.countP_le_length (p := putB puts u) (l := List.range many)
  simpa [cntL] using this
theorem cnt_zero {many : Nat} {puts : List (List Nat)} : cntL many puts 0 = many := by
  unfold cntL
  rw [List.countP_eq_length.mpr (fun p _ => putB_iff.mpr (.inl rfl)), List.length_range]
theorem cnt_past {many : Nat} {puts : List (List Nat)} {u : Nat} (h : puts.length ≤ u) (hu : u ≠ 0) : cntL many puts u = 0 := by
  unfold cntL
  rw [List.countP_eq_zero]
  intro p _ z
  rcases putB_iff.mp z with z | ⟨row, hr, _⟩
  · exact hu z
  · rw [List.drop_eq_nil_of_le h] at hr
    cases hr
theorem cnt_mono {many : Nat} {p1 p2 : List (List Nat)} {u v : Nat} (h : ∀ p, p < many → putB p1 u p = true → putB p2 v p = true) : cntL many p1 u ≤ cntL many p2 v :=
  List.countP_mono_left fun p hp => h p (List.mem_range.mp hp)
theorem cnt_eq {many : Nat} {p1 p2 : List (List Nat)} {u v : Nat} (h : ∀ p, p < many → putB p1 u p = putB p2 v p) : cntL many p1 u = cntL many p2 v :=
  Nat.le_antisymm (cnt_mono fun p hp z => by rw [← h p hp]; exact z) (cnt_mono fun p hp z => by rw [h p hp]; exact z)
/-- without one page one fewer at most -/
theorem countP_but {f g : Nat → Bool} {q : Nat} : ∀ {l : List Nat}, l.Nodup → (∀ p ∈ l, p ≠ q → f p = true → g p = true) → l.countP f ≤ l.countP g + 1
  | [], _, _ => by simp
  | a :: l, hn, h => by
    obtain ⟨ha, hl⟩ := List.nodup_cons.mp hn
    rw [List.countP_cons, List.countP_cons]
    by_cases e : a = q
    · have hm : l.countP f ≤ l.countP g := List.countP_mono_left fun p hp z => h p (List.mem_cons_of_mem _ hp) (fun y => ha (by rw [e, ← y]; exact hp)) z
      split <;> split <;> omega
    · have ih := countP_but (q := q) hl fun p hp => h p (List.mem_cons_of_mem _ hp)
      have h0 := h a List.mem_cons_self e
      split
      · rename_i h1
        rw [if_pos (h0 h1)]
        omega
      · split <;> omega

section
variable {many width : Nat} {puts : List (List Nat)}
theorem left_top (g : Good many puts width) {u : Nat} (hu : u ≤ puts.length) : ((cntL many puts u : Nat) : Int) - (width : Int) * ((puts.length : Int) - u) ≤ leftL many puts width := by
  have := owed_top g hu
  rwa [owed_cnt] at this
theorem left_at (g : Good many puts width) : ∃ u, u ≤ puts.length ∧ ((cntL many puts u : Nat) : Int) - (width : Int) * ((puts.length : Int) - u) = leftL many puts width := by
  obtain ⟨u, hu, e⟩ := owed_at g
  exact ⟨u, hu, by rw [← owed_cnt]; exact e⟩
theorem mul_nn {w n : Int} (hw : 0 ≤ w) (hn : 0 ≤ n) : 0 ≤ w * n := Int.mul_nonneg hw hn
/-- one wider -/
theorem wider (g : Good many puts width) (hw : width < 16) : Good many puts (width + 1) ∧ (leftL many puts width : Int) - puts.length ≤ leftL many puts (width + 1) ∧ leftL many puts (width + 1) ≤ leftL many puts width := by
  have g2 : Good many puts (width + 1) := ⟨g.m1, g.m2, g.t, by omega, g.r⟩
  refine ⟨g2, ?_, ?_⟩
  · obtain ⟨u, hu, e⟩ := left_at g
    have h2 := left_top g2 hu
    rw [Int.natCast_add, Int.add_mul] at h2
    simp only [Int.natCast_one, Int.one_mul] at h2
    omega
  · obtain ⟨u, hu, e⟩ := left_at g2
    have h2 := left_top g hu
    rw [Int.natCast_add, Int.add_mul] at e
    simp only [Int.natCast_one, Int.one_mul] at e
    omega
theorem drop_snoc {α : Type} {l : List α} {x : α} {u : Nat} (h : u ≤ l.length) : (l ++ [x]).drop u = l.drop u ++ [x] := List.drop_append_of_le_length h
/-- a tick of nothing -/
theorem nothing_more (g : Good many puts width) (ht : puts.length < 64) : Good many (puts ++ [[]]) width ∧ (leftL many puts width : Int) - width ≤ leftL many (puts ++ [[]]) width ∧ leftL many (puts ++ [[]]) width ≤ leftL many puts width := by
  have hl : (puts ++ [([] : List Nat)]).length = puts.length + 1 := by simp
  have g2 : Good many (puts ++ [[]]) width := ⟨g.m1, g.m2, by omega, g.w, fun row hr => by
    rcases List.mem_append.mp hr with hr | hr
    · exact g.r row hr
    · rw [List.mem_singleton.mp hr]
      exact ⟨List.Pairwise.nil, by simp⟩⟩
  have hc : ∀ u, u ≤ puts.length → cntL many (puts ++ [[]]) u = cntL many puts u := fun u hu => cnt_eq fun p _ => by
    rw [Bool.eq_iff_iff, putB_iff, putB_iff, drop_snoc hu]
    constructor
    · rintro (h | ⟨row, h1, h2⟩)
      · exact .inl h
      · rcases List.mem_append.mp h1 with h1 | h1
        · exact .inr ⟨row, h1, h2⟩
        · rw [List.mem_singleton.mp h1] at h2
          cases h2
    · rintro (h | ⟨row, h1, h2⟩)
      · exact .inl h
      · exact .inr ⟨row, List.mem_append_left _ h1, h2⟩
  have hm : ∀ u : Int, (width : Int) * (((puts.length + 1 : Nat) : Int) - u) = (width : Int) * ((puts.length : Int) - u) + width := fun u => by
    rw [show ((puts.length + 1 : Nat) : Int) - u = ((puts.length : Int) - u) + 1 by omega, Int.mul_add, Int.mul_one]
  refine ⟨g2, ?_, ?_⟩
  · obtain ⟨u, hu, e⟩ := left_at g
    have h2 := left_top g2 (u := u) (by omega)
    rw [hc u hu, hl, hm] at h2
    omega
  · obtain ⟨u, hu, e⟩ := left_at g2
    rw [hl] at hu e
    by_cases h : u ≤ puts.length
    · have h2 := left_top g h
      rw [hc u h, hm] at e
      omega
    · have : u = puts.length + 1 := by omega
      subst this
      rw [cnt_past (by omega) (by omega), Int.sub_self, Int.mul_zero] at e
      omega
theorem range_rise {n : Nat} : (List.range n).Pairwise (· < ·) := List.pairwise_lt_range
/-- all put in a last tick -/
theorem all_last (g : Good many puts width) (ht : puts.length < 64) : Good many (puts ++ [List.range many]) width ∧ ((leftL many (puts ++ [List.range many]) width : Nat) : Int) = max 0 ((many : Int) - width) := by
  have hl : (puts ++ [List.range many]).length = puts.length + 1 := by simp
  have g2 : Good many (puts ++ [List.range many]) width := ⟨g.m1, g.m2, by omega, g.w, fun row hr => by
    rcases List.mem_append.mp hr with hr | hr
    · exact g.r row hr
    · rw [List.mem_singleton.mp hr]
      exact ⟨range_rise, fun p hp => List.mem_range.mp hp⟩⟩
  have hc : ∀ u, u ≤ puts.length → cntL many (puts ++ [List.range many]) u = many := fun u hu => by
    unfold cntL
    rw [List.countP_eq_length.mpr (fun p hp => putB_iff.mpr (.inr ⟨_, by rw [drop_snoc hu]; exact List.mem_append_right _ List.mem_cons_self, hp⟩)), List.length_range]
  refine ⟨g2, ?_⟩
  obtain ⟨u, hu, e⟩ := left_at g2
  have h1 := left_top g2 (u := puts.length) (by omega)
  have h2 := left_top g2 (u := puts.length + 1) (by omega)
  rw [hl] at hu e h1 h2
  rw [hc _ (Nat.le_refl _), show (((puts.length + 1 : Nat) : Int) - (puts.length : Int)) = 1 by omega, Int.mul_one] at h1
  rw [Int.sub_self, Int.mul_zero] at h2
  by_cases h : u ≤ puts.length
  · rw [hc u h] at e
    have : (width : Int) * 1 ≤ (width : Int) * (((puts.length + 1 : Nat) : Int) - u) := Int.mul_le_mul_of_nonneg_left (by omega) (by omega)
    omega
  · have : u = puts.length + 1 := by omega
    subst this
    rw [cnt_past (by omega) (by omega), Int.sub_self, Int.mul_zero] at e
    omega
def withoutL (puts : List (List Nat)) (q : Nat) : List (List Nat) := puts.map fun row => row.filter fun p => decide (p ≠ q)
/-- a page put no more -/
theorem page_out (g : Good many puts width) {q : Nat} : Good many (withoutL puts q) width ∧ (leftL many puts width : Int) - 1 ≤ leftL many (withoutL puts q) width ∧ leftL many (withoutL puts q) width ≤ leftL many puts width := by
  have hl : (withoutL puts q).length = puts.length := by simp [withoutL]
  have g2 : Good many (withoutL puts q) width := ⟨g.m1, g.m2, by rw [hl]; exact g.t, g.w, fun row hr => by
    obtain ⟨r, hr2, rfl⟩ := List.mem_map.mp hr
    obtain ⟨a, b⟩ := g.r r hr2
    exact ⟨a.sublist List.filter_sublist, fun p hp => b p (List.mem_filter.mp hp).1⟩⟩
  have hp : ∀ u p, putB (withoutL puts q) u p = true ↔ u = 0 ∨ (p ≠ q ∧ ∃ row ∈ puts.drop u, p ∈ row) := fun u p => by
    rw [putB_iff]
    unfold withoutL
    rw [← List.map_drop]
    constructor
    · rintro (h | ⟨row, h1, h2⟩)
      · exact .inl h
      · obtain ⟨r, hr, rfl⟩ := List.mem_map.mp h1
        obtain ⟨h3, h4⟩ := List.mem_filter.mp h2
        exact .inr ⟨by simpa using h4, r, hr, h3⟩
    · rintro (h | ⟨h0, row, h1, h2⟩)
      · exact .inl h
      · exact .inr ⟨_, List.mem_map.mpr ⟨row, h1, rfl⟩, List.mem_filter.mpr ⟨h2, by simpa using h0⟩⟩
  have c1 : ∀ u, cntL many (withoutL puts q) u ≤ cntL many puts u := fun u => cnt_mono fun p _ z => by
    rcases (hp u p).mp z with h | ⟨_, h⟩
    · exact putB_iff.mpr (.inl h)
    · exact putB_iff.mpr (.inr h)
  have c2 : ∀ u, cntL many puts u ≤ cntL many (withoutL puts q) u + 1 := fun u => countP_but (q := q) List.nodup_range fun p _ hq z => by
    rcases putB_iff.mp z with h | h
    · exact (hp u p).mpr (.inl h)
    · exact (hp u p).mpr (.inr ⟨hq, h⟩)
  refine ⟨g2, ?_, ?_⟩
  · obtain ⟨u, hu, e⟩ := left_at g
    have h2 := left_top g2 (u := u) (by omega)
    rw [hl] at h2
    have := c2 u
    omega
  · obtain ⟨u, hu, e⟩ := left_at g2
    rw [hl] at hu e
    have h2 := left_top g hu
    have := c1 u
    omega
/-- without the first tick -/
theorem first_out (g : Good many puts width) (ht : 1 < puts.length) : Good many (puts.drop 1) width ∧ leftL many puts width ≤ leftL many (puts.drop 1) width ∧ leftL many (puts.drop 1) width ≤ leftL many puts width + width := by
  have hl : (puts.drop 1).length = puts.length - 1 := by simp
  have g2 : Good many (puts.drop 1) width := ⟨g.m1, g.m2, by have := g.t; omega, g.w, fun row hr => g.r row (List.mem_of_mem_drop hr)⟩
  have hc : ∀ u, u ≠ 0 → cntL many (puts.drop 1) u = cntL many puts (u + 1) := fun u hu => cnt_eq fun p _ => by
    rw [Bool.eq_iff_iff, putB_iff, putB_iff, List.drop_drop, Nat.add_comm 1 u]
    constructor
    · rintro (h | h)
      · exact absurd h hu
      · exact .inr h
    · rintro (h | h)
      · omega
      · exact .inr h
  have hlc : ((puts.length - 1 : Nat) : Int) = (puts.length : Int) - 1 := by omega
  refine ⟨g2, ?_, ?_⟩
  · obtain ⟨u, hu, e⟩ := left_at g
    have h0 := left_top g2 (u := 0) (Nat.zero_le _)
    rw [cnt_zero, hl, hlc] at h0
    by_cases h : 2 ≤ u
    · have h2 := left_top g2 (u := u - 1) (by omega)
      rw [hc (u - 1) (by omega), hl, hlc, show u - 1 + 1 = u by omega, show ((puts.length : Int) - 1 - ((u - 1 : Nat) : Int)) = (puts.length : Int) - u by omega] at h2
      omega
    · have h1 : cntL many puts u ≤ many := cnt_le
      have h3 : (width : Int) * ((puts.length : Int) - 1 - ((0 : Nat) : Int)) ≤ (width : Int) * ((puts.length : Int) - u) := Int.mul_le_mul_of_nonneg_left (by omega) (by omega)
      omega
  · obtain ⟨u, hu, e⟩ := left_at g2
    rw [hl] at hu
    rw [hl, hlc] at e
    by_cases h : u = 0
    · subst h
      rw [cnt_zero] at e
      have h2 := left_top g (u := 0) (Nat.zero_le _)
      rw [cnt_zero] at h2
      have h3 : (width : Int) * ((puts.length : Int) - ((0 : Nat) : Int)) = (width : Int) * ((puts.length : Int) - 1 - ((0 : Nat) : Int)) + width := by
        rw [show (puts.length : Int) - ((0 : Nat) : Int) = ((puts.length : Int) - 1 - ((0 : Nat) : Int)) + 1 by omega, Int.mul_add, Int.mul_one]
      omega
    · have h2 := left_top g (u := u + 1) (by omega)
      rw [hc u h] at e
      rw [show ((puts.length : Int) - ((u + 1 : Nat) : Int)) = (puts.length : Int) - 1 - u by omega] at h2
      omega
end

def exchL (rows : List (List Nat)) (order : List Nat) : List (List Nat) := rows.map fun row => sortN (row.map fun p => order.getD p 0)
section
variable {many width : Nat} {puts : List (List Nat)} {order : List Nat}
theorem order_map (h : order.length = many) : order = (List.range many).map fun p => order.getD p 0 := by
  apply List.ext_getElem?
  intro i
  by_cases hi : i < many
  · rw [List.getElem?_map, List.getElem?_range hi, List.getElem?_eq_getElem (by omega)]
    simp [List.getD_eq_getElem?_getD, List.getElem?_eq_getElem (show i < order.length by omega)]
  · rw [List.getElem?_eq_none (by omega), List.getElem?_eq_none (by simp; omega)]
theorem order_inj (ho : order.Perm (List.range many)) {p q : Nat} (hp : p < many) (hq : q < many) (e : order.getD p 0 = order.getD q 0) : p = q := by
  have hl : order.length = many := by rw [ho.length_eq, List.length_range]
  have hn : order.Nodup := ho.nodup_iff.mpr List.nodup_range
  rw [List.getD_eq_getElem?_getD, List.getD_eq_getElem?_getD, List.getElem?_eq_getElem (by omega), List.getElem?_eq_getElem (by omega)] at e
  exact (List.getElem_inj hn).mp e
theorem order_lt (ho : order.Perm (List.range many)) {p : Nat} (hp : p < many) : order.getD p 0 < many := by
  have hl : order.length = many := by rw [ho.length_eq, List.length_range]
  rw [List.getD_eq_getElem?_getD, List.getElem?_eq_getElem (by omega)]
  exact List.mem_range.mp (ho.subset (List.getElem_mem _))
theorem sortN_mem {l : List Nat} {p : Nat} : p ∈ sortN l ↔ p ∈ l := (sortN_perm l).mem_iff
theorem exch_nd (ho : order.Perm (List.range many)) {row : List Nat} (hr : row.Nodup) (hlt : ∀ p ∈ row, p < many) : (row.map fun p => order.getD p 0).Nodup := by
  induction row with
  | nil => exact List.nodup_nil
  | cons a row ih =>
    obtain ⟨ha, hl⟩ := List.nodup_cons.mp hr
    rw [List.map_cons, List.nodup_cons]
    refine ⟨fun z => ?_, ih hl fun p hp => hlt p (List.mem_cons_of_mem _ hp)⟩
    obtain ⟨q, hq, e⟩ := List.mem_map.mp z
    have := order_inj ho (hlt q (List.mem_cons_of_mem _ hq)) (hlt a List.mem_cons_self) e
    subst this
    exact ha hq
theorem exch_in (ho : order.Perm (List.range many)) {row : List Nat} (hlt : ∀ p ∈ row, p < many) {p : Nat} (hp : p < many) : order.getD p 0 ∈ sortN (row.map fun p => order.getD p 0) ↔ p ∈ row := by
  rw [sortN_mem, List.mem_map]
  constructor
  · rintro ⟨q, hq, e⟩
    rw [← order_inj ho (hlt q hq) hp e]
    exact hq
  · exact fun h => ⟨p, h, rfl⟩
theorem rise_nd {l : List Nat} (h : l.Pairwise (· < ·)) : l.Nodup := h.imp fun {a b} z => by omega
theorem exch_good (g : Good many puts width) (ho : order.Perm (List.range many)) : Good many (exchL puts order) width := ⟨g.m1, g.m2, by simpa [exchL] using g.t, g.w, fun row hr => by
  obtain ⟨r, hr2, rfl⟩ := List.mem_map.mp hr
  obtain ⟨a, b⟩ := g.r r hr2
  refine ⟨sortN_rise (exch_nd ho (rise_nd a) b), fun p hp => ?_⟩
  obtain ⟨q, hq, rfl⟩ := List.mem_map.mp (sortN_mem.mp hp)
  exact order_lt ho (b q hq)⟩
theorem exch_put (g : Good many puts width) (ho : order.Perm (List.range many)) {u p : Nat} (hp : p < many) : putB (exchL puts order) u (order.getD p 0) = putB puts u p := by
  rw [Bool.eq_iff_iff, putB_iff, putB_iff]
  unfold exchL
  rw [← List.map_drop]
  constructor
  · rintro (h | ⟨row, h1, h2⟩)
    · exact .inl h
    · obtain ⟨r, hr, rfl⟩ := List.mem_map.mp h1
      exact .inr ⟨r, hr, (exch_in ho (g.r r (List.mem_of_mem_drop hr)).2 hp).mp h2⟩
  · rintro (h | ⟨row, h1, h2⟩)
    · exact .inl h
    · exact .inr ⟨_, List.mem_map.mpr ⟨row, h1, rfl⟩, (exch_in ho (g.r row (List.mem_of_mem_drop h1)).2 hp).mpr h2⟩
theorem exch_cnt (g : Good many puts width) (ho : order.Perm (List.range many)) {u : Nat} : cntL many (exchL puts order) u = cntL many puts u := by
  have key : ∀ f : Nat → Bool, order.countP f = (List.range many).countP fun p => f (order.getD p 0) := fun f => by
    have h := congrArg (List.countP f) (order_map (order := order) (many := many) (by rw [ho.length_eq, List.length_range]))
    rw [List.countP_map] at h
    exact h
  unfold cntL
  rw [← ho.countP_eq, key]
  refine List.countP_congr fun p hp => ?_
  rw [exch_put g ho (List.mem_range.mp hp)]
theorem exch_owed (g : Good many puts width) (ho : order.Perm (List.range many)) {t u : Nat} : owedL (sinceL many (exchL puts order)) t width u = owedL (sinceL many puts) t width u := by
  rw [owed_cnt, owed_cnt, exch_cnt g ho]
theorem exch_len : (exchL puts order).length = puts.length := by simp [exchL]
theorem exch_left (g : Good many puts width) (ho : order.Perm (List.range many)) : leftL many (exchL puts order) width = leftL many puts width := by
  have g2 := exch_good g ho
  have h1 : (leftL many (exchL puts order) width : Int) ≤ leftL many puts width := by
    obtain ⟨u, hu, e⟩ := owed_at g2
    rw [exch_len] at hu e
    rw [← e, exch_owed g ho]
    exact owed_top g hu
  have h2 : (leftL many puts width : Int) ≤ leftL many (exchL puts order) width := by
    obtain ⟨u, hu, e⟩ := owed_at g
    have := owed_top g2 (u := u) (by rw [exch_len]; exact hu)
    rw [exch_len, exch_owed g ho] at this
    rw [← e]
    exact this
  omega
theorem exch_tick (g : Good many puts width) (ho : order.Perm (List.range many)) : tickL many (exchL puts order) width = tickL many puts width := by
  unfold tickL firstL
  rw [exch_left g ho, exch_len]
  have e : (fun t => decide (owedL (sinceL many (exchL puts order)) puts.length width t = (leftL many puts width : Int))) = fun t => decide (owedL (sinceL many puts) puts.length width t = (leftL many puts width : Int)) := funext fun t => by rw [exch_owed g ho]
  rw [e]
theorem exch_since (g : Good many puts width) (ho : order.Perm (List.range many)) {p : Nat} (hp : p < many) : (sinceL many (exchL puts order)).getD (order.getD p 0) 0 = (sinceL many puts).getD p 0 := by
  rw [since_at (order_lt ho hp), since_at hp]
  have h : ∀ u, u ≤ lastFrom (order.getD p 0) 0 (exchL puts order) 0 ↔ u ≤ lastFrom p 0 puts 0 := fun u => by
    have h1 := putB_last (puts := exchL puts order) (u := u) (p := order.getD p 0)
    have h2 := putB_last (puts := puts) (u := u) (p := p)
    rw [exch_put g ho hp, ← h2] at h1
    simpa using h1
  exact Nat.le_antisymm ((h _).mp (Nat.le_refl _)) ((h _).mpr (Nat.le_refl _))
theorem exch_flat : ∀ {rows : List (List Nat)}, (exchL rows order).flatten.Perm (rows.flatten.map fun p => order.getD p 0)
  | [] => List.Perm.refl _
  | r :: rows => by
    show (sortN (r.map fun p => order.getD p 0) ++ (exchL rows order).flatten).Perm _
    rw [List.flatten_cons, List.map_append]
    exact (sortN_perm _).append exch_flat
theorem exch_lets (g : Good many puts width) (ho : order.Perm (List.range many)) : Lets many (exchL puts order) width (.tup [.int (leftL many puts width), .tup (putsW (exchL (planL many puts width) order)), .int (tickL many puts width)]) := by
  obtain ⟨h1, h2, h3, h4, h5, h6, h7⟩ := lets_iff.mp (told_lets g)
  refine lets_iff.mpr ⟨h1, by rw [exch_len]; exact h2, by rw [exch_len, exch_len]; exact h3, fun row hr => ?_, ?_, by rw [exch_len, exch_owed g ho]; exact h6, fun t ht => by rw [exch_len, exch_owed g ho]; exact h7 t ht⟩
  · obtain ⟨r, hr2, rfl⟩ := List.mem_map.mp hr
    obtain ⟨a, b, c⟩ := h4 r hr2
    refine ⟨sortN_rise (exch_nd ho (rise_nd a) b), fun p hp => ?_, by rw [(sortN_perm _).length_eq, List.length_map]; exact c⟩
    obtain ⟨q, hq, rfl⟩ := List.mem_map.mp (sortN_mem.mp hp)
    exact order_lt ho (b q hq)
  · have hlt : ∀ p ∈ (planL many puts width).flatten, p < many := fun p hp => by
      obtain ⟨r, hr, hp⟩ := List.mem_flatten.mp hp
      exact (h4 r hr).2.1 p hp
    have hc := plan_count (many := many) (puts := puts) (width := width)
    unfold leftP
    rw [keyFrom_all (by rw [List.nil_append]; exact exch_flat.nodup_iff.mpr (exch_nd ho plan_nodup hlt)) fun i row hi p hp => ?_]
    · rw [List.nil_append, since_len, exch_flat.length_eq, List.length_map]
      omega
    · unfold exchL at hi
      rw [List.getElem?_map] at hi
      obtain ⟨r, hr, rfl⟩ := Option.map_eq_some_iff.mp hi
      obtain ⟨q, hq, rfl⟩ := List.mem_map.mp (sortN_mem.mp hp)
      have hq2 := (h4 r (List.mem_of_getElem? hr)).2.1 q hq
      rw [exch_since g ho hq2]
      obtain ⟨r2, e, _, _, z⟩ := filled_row hr
      subst e
      have := (z q (sortN_mem.mp hq)).1
      omega
end

theorem v_lcG {gd : GD} {bind : W → En → Option En} {f : FE} {env : En} {items : List W} {st : Sto} {Q : Unit → Sto → Prop} {E : XE} (g : W → W) (hl : items.length ≤ 100000) (hg : ∀ x, gdOk gd (st ++ x))
    (h : ∀ acc x, ∀ w ∈ items, ∃ env1, bind w env = some env1 ∧ wp (f env1 (st ++ (Ob.lst acc :: x))) (fun y s => y = g w ∧ ∃ z, s = st ++ (Ob.lst acc :: z)) noX)
    (q : ∀ x, Q () (st ++ (Ob.lst (items.map g) :: x))) : wp (lcS gd bind fYes f st.length env items (st ++ [.lst []])) Q E := by
  refine Sw.v_lcS (fun r acc s => ∃ done x, items = done ++ r ∧ acc = done.map g ∧ s = st ++ (Ob.lst acc :: x)) ⟨[], [], rfl, rfl, rfl⟩ ?_ ?_
  · rintro w r acc s ⟨done, x, hi, ha, rfl⟩
    obtain ⟨env1, e1, h1⟩ := h acc x w (by rw [hi]; simp)
    refine ⟨hg _, env1, e1, ?_⟩
    show wp (An.ok true _) _ _
    refine Sw.wp_ok ?_
    rw [if_pos rfl]
    refine wp_use h1 ?_
    rintro y s3 ⟨rfl, z, rfl⟩
    have hlen : done.length + (r.length + 1) = items.length := by rw [hi]; simp
    refine ⟨by simp, by rw [ha, List.length_map]; omega, done ++ [w], z, by rw [hi]; simp, by rw [ha, List.map_append]; rfl, ?_⟩
    simp
  · rintro acc s ⟨done, x, hi, ha, rfl⟩
    refine ⟨hg _, ?_⟩
    rw [List.append_nil] at hi
    subst hi
    rw [ha]
    exact q x
theorem putsW_map {rows : List (List Nat)} {f : List Nat → List Nat} {g : W → W} (h : ∀ r ∈ rows, g (.tup (wI8 r)) = .tup (wI8 (f r))) : (putsW rows).map g = putsW (rows.map f) := by
  unfold putsW
  rw [List.map_map, List.map_map]
  exact List.map_congr_left fun r hr => h r hr
def rowOf : W → List Nat
  | .tup l => l.map unI
  | _ => []
theorem unI_wI8 {r : List Nat} : (wI8 r).map unI = r := by
  unfold wI8
  rw [List.map_map]
  have e : (unI ∘ fun n : Nat => W.int n) = id := funext fun n => unI_int
  rw [e, List.map_id]
theorem rowOf_tup {r : List Nat} : rowOf (.tup (wI8 r)) = r := unI_wI8
theorem len_all_le {rows : List (List Nat)} : (putsW rows).length = rows.length := putsW_len


end Lw

namespace Lw
open PySem PySem.Spec PyProof.Rows L2 Sw
/-- one step; the goal's head says which -/
local macro_rules | `(tactic| decreasing_trivial_pre_omega) => `(tactic| first
  | ((with_reducible refine Sw.gWi ?_); first
    | with_reducible refine Sw.ws_ift ?_
    | with_reducible refine Sw.ws_iff ?_
    | with_reducible refine Sw.ws_ifn ?_
    | ((with_reducible refine Sw.ws_ifd1 ?_ ?_); (focus first | assumption | omega | (simp; done)))
    | ((with_reducible refine Sw.ws_ifd0 ?_ ?_); (focus first | assumption | omega | (simp; done)))
    | ((with_reducible refine Sw.ws_ifb1 ?_ ?_); (focus rfl))
    | ((with_reducible refine Sw.ws_ifb0 ?_ ?_); (focus rfl))
    )
  | ((with_reducible refine Sw.gW ?_); first
    | with_reducible refine Sw.ws_seqS ?_
    | with_reducible refine Sw.ws_ifS ?_
    | with_reducible refine Sw.ws_forN ?_
    | with_reducible refine Sw.ws_seq ?_
    | with_reducible refine Sw.ws_set ?_
    | with_reducible refine Sw.ws_if ?_
    | with_reducible refine Sw.ws_ret ?_
    | with_reducible refine Sw.ws_next ?_
    | with_reducible refine Sw.ws_drop ?_
    | with_reducible refine Sw.ws_for ?_
    | with_reducible refine Sw.ws_asg ?_
    | with_reducible refine Sw.ws_retN ?_
    | with_reducible refine Sw.ws_raise ?_
    | with_reducible refine Sw.ws_raiseD ?_
    | with_reducible refine Sw.ws_gN ?_
    | with_reducible refine Sw.ws_brk ?_
    | with_reducible refine Sw.ws_cnt ?_
    | ((with_reducible apply Sw.ws_aug); rfl)
    | with_reducible refine Sw.ws_gSub ?_
    | with_reducible refine Sw.ws_gsCons ?_
    | with_reducible refine Sw.ws_gsNil ?_
    | ((with_reducible apply Sw.ws_gsConsE); (focus rfl))
    | ((with_reducible apply Sw.ws_gsNilE); (focus rfl))
    | with_reducible refine Sw.ws_par2 ?_
    | with_reducible refine Sw.ws_par3 ?_
    | ((with_reducible refine Sw.ws_gTup ?_ ?_); (focus rfl))
    | ((with_reducible apply Sw.ws_gSeqN); (focus first | rfl | exact getS_at (by assumption) | exact getS_at sto_at | exact getS_at (sto_app (by assumption)) | exact getS_at (sto_app sto_at)); (focus first | rfl | decide | (simp; done) | (simp; omega)))
    | ((with_reducible apply Sw.ws_gStarN); (focus first | rfl | exact getS_at (by assumption) | exact getS_at sto_at | exact getS_at (sto_app (by assumption)) | exact getS_at (sto_app sto_at)); (focus first | decide | (simp; done) | (simp; omega)))
    )
  | ((with_reducible refine Sw.gI ?_); first
    | with_reducible refine Sw.wp_ift ?_
    | with_reducible refine Sw.wp_iff ?_
    | with_reducible refine Sw.wp_ifn ?_
    | ((with_reducible refine Sw.wp_ifd1 ?_ ?_); (focus first | assumption | omega | (simp; done)))
    | ((with_reducible refine Sw.wp_ifd0 ?_ ?_); (focus first | assumption | omega | (simp; done)))
    | ((with_reducible refine Sw.wp_ifb1 ?_ ?_); (focus rfl))
    | ((with_reducible refine Sw.wp_ifb0 ?_ ?_); (focus rfl))
    )
  | ((with_reducible refine Sw.gF ?_); first
    | ((with_reducible apply Sw.v_var); rfl)
    | with_reducible refine Sw.v_c ?_
    | with_reducible refine Sw.v_cons ?_
    | with_reducible refine Sw.v_nil ?_
    | ((with_reducible refine Sw.v_fn ?_))
    | with_reducible refine Sw.v_call ?_
    | ((with_reducible apply Sw.v_ask); (focus rfl); (focus rfl))
    | with_reducible refine Sw.v_bin ?_
    | with_reducible refine Sw.v_cmp ?_
    | with_reducible refine Sw.v_cmpE ?_
    | with_reducible refine Sw.v_tru ?_
    | with_reducible refine Sw.v_notT ?_
    | with_reducible refine Sw.v_andT ?_
    | with_reducible refine Sw.v_orT ?_
    | with_reducible refine Sw.v_and ?_
    | with_reducible refine Sw.v_or ?_
    | with_reducible refine Sw.v_not ?_
    | with_reducible refine Sw.v_if ?_
    | with_reducible refine Sw.v_chn ?_
    | with_reducible refine Sw.v_chnE ?_
    | with_reducible refine Sw.v_tup ?_
    | with_reducible refine Sw.v_lst ?_
    | with_reducible refine Sw.v_sl ?_
    | with_reducible refine Sw.v_no ?_
    | with_reducible refine Sw.v_so ?_
    | with_reducible refine Sw.v_neg ?_
    | with_reducible refine Sw.v_lc ?_
    | with_reducible refine Sw.v_it ?_
    | with_reducible refine Sw.v_seqI ?_
    | with_reducible refine Sw.v_mt ?_
    | with_reducible refine Sw.v_m1 ?_
    | with_reducible refine Sw.v_dict0 ?_
    | with_reducible refine Sw.v_it1 ?_
    )
  | ((with_reducible refine Sw.gO ?_); first
    | with_reducible refine Sw.v_ltI ?_
    | with_reducible refine Sw.v_leI ?_
    | with_reducible refine Sw.v_gtI ?_
    | with_reducible refine Sw.v_geI ?_
    | with_reducible refine Sw.v_eqI ?_
    | with_reducible refine Sw.v_neI ?_
    | with_reducible refine Sw.v_eqS ?_
    | with_reducible refine Sw.v_neS ?_
    | with_reducible refine Sw.v_truB ?_
    | with_reducible refine Sw.v_truI ?_
    | with_reducible refine Sw.v_truN ?_
    | with_reducible refine Sw.v_truT ?_
    | with_reducible refine Sw.v_seqT ?_
    | with_reducible refine Sw.v_seqR ?_
    | with_reducible refine Sw.v_seqS ?_
    | ((with_reducible apply Sw.v_seqL); (focus first | assumption | exact sto_at | exact sto_app (by assumption) | exact sto_app (sto_app (by assumption)) | exact sto_app sto_at | exact sto_app (sto_app sto_at)))
    | with_reducible refine Sw.v_inK ?_
    | with_reducible refine Sw.v_notInK ?_
    | ((with_reducible apply Sw.wp_opt); (focus rfl))
    )
  | ((with_reducible refine Sw.gE ?_); first
    | with_reducible refine Sw.wp_bind ?_
    | with_reducible refine Sw.wp_ok ?_
    | with_reducible refine Sw.v_addI ?_
    | with_reducible refine Sw.v_subI ?_
    | ((with_reducible refine Sw.v_mulI (.inl ?_) ?_); (focus first | decide | omega))
    | ((with_reducible refine Sw.v_mulT ?_ ?_); exact ⟨by simp, by decide, by decide, by simp⟩)
    | ((with_reducible apply Sw.v_mulL); (focus first | assumption | exact sto_at | exact sto_app (by assumption) | exact sto_app (sto_app (by assumption)) | exact sto_app sto_at | exact sto_app (sto_app sto_at)); (focus exact ⟨by decide, by decide, by simp⟩))
    | ((with_reducible refine Sw.v_modI ?_ ?_); (focus first | decide | omega))
    | ((with_reducible refine Sw.v_addT ?_ ?_); refine line1000 ?_; (focus first | decide | (simp; done) | (simp; omega)))
    | ((with_reducible apply Sw.v_powE); (focus decide +kernel); (focus (simp only [Int.reduceToNat, Int.reducePow]; rfl)))
    | ((with_reducible apply Sw.v_ixL); (first | assumption | exact sto_at | exact sto_app (by assumption) | exact sto_app (sto_app (by assumption)) | exact sto_app sto_at | exact sto_app (sto_app sto_at)); (focus first | rfl | assumption | exact atI_nat (by assumption) | exact Sw.atc0 | exact Sw.atc1 | exact Sw.atc2))
    | ((with_reducible apply Sw.v_ixT); (focus first | rfl | assumption | exact atI_nat (by assumption) | exact Sw.atc0 | exact Sw.atc1 | exact Sw.atc2))
    | ((with_reducible apply Sw.v_ixR); (focus first | rfl | assumption | exact atI_nat (by assumption) | exact Sw.atc0 | exact Sw.atc1 | exact Sw.atc2))
    | with_reducible refine Sw.v_slc1 ?_
    | with_reducible refine Sw.v_slc2 ?_
    | ((with_reducible apply Sw.v_slLt1); (focus first | assumption | exact sto_at | exact sto_app (by assumption) | exact sto_app (sto_app (by assumption)) | exact sto_app sto_at | exact sto_app (sto_app sto_at)))
    | ((with_reducible apply Sw.v_slLt2); (focus first | assumption | exact sto_at | exact sto_app (by assumption) | exact sto_app (sto_app (by assumption)) | exact sto_app sto_at | exact sto_app (sto_app sto_at)))
    | ((with_reducible apply Sw.v_slLd1); (focus first | assumption | exact sto_at | exact sto_app (by assumption) | exact sto_app (sto_app (by assumption)) | exact sto_app sto_at | exact sto_app (sto_app sto_at)))
    | ((with_reducible apply Sw.v_addL); (focus first | assumption | exact sto_at | exact sto_app (by assumption) | exact sto_app (sto_app (by assumption)) | exact sto_app sto_at | exact sto_app (sto_app sto_at)); (focus first | assumption | exact sto_at | exact sto_app (by assumption) | exact sto_app (sto_app (by assumption)) | exact sto_app sto_at | exact sto_app (sto_app sto_at)); (focus first | decide | (simp; done) | (simp; omega)))
    | with_reducible refine Sw.v_sortSet ?_
    | ((with_reducible refine Sw.v_sl0 ?_ ?_); (focus omega))
    | ((with_reducible refine Sw.v_sl1 ?_ ?_); (focus omega))
    | with_reducible refine Sw.v_lenT ?_
    | with_reducible refine Sw.v_lenR ?_
    | ((with_reducible apply Sw.v_lenL); (focus first | assumption | exact sto_at | exact sto_app (by assumption) | exact sto_app (sto_app (by assumption)) | exact sto_app sto_at | exact sto_app (sto_app sto_at)))
    | ((with_reducible apply Sw.v_appT); (focus first | decide | (simp; done) | (simp; omega)))
    | with_reducible refine Sw.v_intI ?_
    | with_reducible refine Sw.v_intB ?_
    | with_reducible refine Sw.v_absI ?_
    | with_reducible refine Sw.v_max2 ?_
    | with_reducible refine Sw.v_min2 ?_
    | with_reducible refine Sw.v_listT ?_
    | ((with_reducible apply Sw.v_listL); (focus first | assumption | exact sto_at | exact sto_app (by assumption) | exact sto_app (sto_app (by assumption)) | exact sto_app sto_at | exact sto_app (sto_app sto_at)))
    | with_reducible refine Sw.v_tupleT ?_
    | ((with_reducible apply Sw.v_tupleL); (focus first | assumption | exact sto_at | exact sto_app (by assumption) | exact sto_app (sto_app (by assumption)) | exact sto_app sto_at | exact sto_app (sto_app sto_at)))
    | ((with_reducible refine Sw.v_rng1 ?_ ?_); (focus first | exact ⟨by omega, by omega, by omega, by omega⟩ | decide))
    | ((with_reducible refine Sw.v_rng2 ?_ ?_); (focus first | exact ⟨by omega, by omega, by omega, by omega⟩ | decide))
    | with_reducible refine Sw.v_zipT ?_
    | with_reducible refine Sw.v_enumT ?_
    | ((with_reducible apply Sw.v_enumL); (focus first | assumption | exact sto_at | exact sto_app (by assumption) | exact sto_app (sto_app (by assumption)) | exact sto_app sto_at | exact sto_app (sto_app sto_at)))
    | with_reducible refine Sw.v_andI ?_
    | with_reducible refine Sw.v_orI ?_
    | ((with_reducible refine Sw.v_shrI ?_ ?_); decide)
    | ((with_reducible apply Sw.v_allL); (focus first | assumption | exact sto_at | exact sto_app (by assumption) | exact sto_app (sto_app (by assumption)) | exact sto_app sto_at | exact sto_app (sto_app sto_at)))
    | ((with_reducible apply Sw.v_anyL); (focus first | assumption | exact sto_at | exact sto_app (by assumption) | exact sto_app (sto_app (by assumption)) | exact sto_app sto_at | exact sto_app (sto_app sto_at)))
    | with_reducible refine Sw.v_addGI ?_
    | ((with_reducible refine Sw.v_addGT ?_ ?_); refine line1000 ?_; (focus first | decide | (simp; done) | (simp; omega)))
    | ((with_reducible apply Sw.v_ixK); (focus rfl))
    )
  | with_reducible refine ⟨_, rfl, ?_⟩
  | with_reducible refine ⟨_, _, rfl, ?_⟩
  | with_reducible refine ⟨_, _, _, rfl, ?_⟩
  | ((with_reducible refine And.intro ?_ ?_); (focus first | rfl | decide | exact isLst_at sto_at | exact isLst_at (by assumption) | exact isLst_at (sto_app sto_at) | exact isLst_at (sto_app (by assumption)) | (simp; done) | (simp; omega)))
  | exact ⟨[], (List.append_nil _).symm⟩
  | with_reducible rfl
  | with_reducible refine Sw.ex_app ?_
  | exact ⟨_, rfl⟩
  )
def Nt (b : Nat) (w : W) : Prop := ∃ k : Nat, w = .int k ∧ k ≤ b
def Drw (n : Nat) (st : Sto) (c : Int) (R : W → Prop) (w : W) (s : Sto) : Prop := R w ∧ Keep n st s ∧ Pot s n c
theorem wp_cleanD {F : FF} {args : List W} {n : Nat} {st : Sto} {c : Int} {R : W → Prop} {E : XE} (hn : n < st.length) (h : wp (F args st) (Drw n st c R) E) : wp (clean F args st) (Drw n st c R) E :=
  wp_clean h fun _ _ h _ _ => ⟨h.1, h.2.1.take, Sw.Pot.take' h.2.2 hn⟩
theorem v_ixZ {n : Nat} {l : List W} {i : Int} {st : Sto} {Q : W → Sto → Prop} {E : XE} (hs : st[n]? = some (.lst l)) (h0 : 0 ≤ i) (hi : i < l.length) (q : ∀ w ∈ l, Q w st) : wp (wIxA (.ref n) (.int i) st) Q E := by
  obtain ⟨k, rfl⟩ : ∃ k : Nat, i = k := ⟨i.toNat, by omega⟩
  exact Sw.v_ixM hs (by omega) q
theorem b800 : (10 : Int) ^ 6 < 10 ^ 800 := by decide +kernel
theorem pot_wp {l : List Int} {x : W} {st : Sto} {k : Nat} (hx : getL st x = some (l.map W.int)) (hk : k ≤ 10 ^ 6) : wp (f_law_pot [x, .int k] st) (fun w s => w = .ref st.length ∧ Pot s st.length 0) noX := by
  obtain ⟨o, h, P⟩ := pot_ok hx hk
  exact wp_eq h ⟨rfl, P⟩
theorem rng_mem {b : Int} {w : W} (h : w ∈ rngW 0 b) : ∃ k : Nat, w = .int k ∧ (k : Int) < b := by
  simp only [rngW, List.mem_map, List.mem_range] at h
  obtain ⟨k, hk, rfl⟩ := h
  exact ⟨k, by simp, by omega⟩

theorem wI8_snoc {ns : List Nat} {n : Nat} : wI8 ns ++ [.int n] = wI8 (ns ++ [n]) := by simp [wI8]

theorem putsW_snoc {ps : List (List Nat)} {r : List Nat} : putsW ps ++ [.tup (wI8 r)] = putsW (ps ++ [r]) := by simp [putsW]
theorem Keep.both {n m : Nat} {s t : Sto} {o : Ob} (k : Keep n s t) : Keep n (s.set m o) (t.set m o) := ⟨by simpa using k.le, fun j h1 h2 => by
  rw [List.length_set] at h2
  by_cases e : m = j
  · subst e
    rw [List.getElem?_set_self h2, List.getElem?_set_self (Nat.lt_of_lt_of_le h2 k.le)]
  · rw [List.getElem?_set_ne e, List.getElem?_set_ne e]
    exact k.eq j h1 h2⟩

theorem pot_wp2 {l : List Int} {x : W} {st : Sto} {k : Nat} (hx : getL st x = some (l.map W.int)) (hk : k ≤ 10 ^ 6) : wp (f_law_pot [x, .int k] st) (fun w s => w = .ref st.length ∧ (∃ o, s = st ++ [o]) ∧ Pot s st.length 0) noX := by
  obtain ⟨o, h, P⟩ := pot_ok hx hk
  exact wp_eq h ⟨rfl, ⟨o, rfl⟩, P⟩
theorem folded_wp {l : List Int} {most : Nat} {st : Sto} (h0 : 0 < most) (h1 : most ≤ 63) : wp (f_law_folded [.rol (l.map W.int), .int most] st) (fun w s => ∃ (a b : Ob) (f : List Int), w = .ref (st.length + 1) ∧ s = st ++ [a, b] ∧ b = .lst (f.map W.int) ∧ f.length ≤ most) noX := by
  refine wp_mono (wp_clean (Q := fun w s => ∃ (a b : Ob) (f : List Int), w = .ref (st.length + 1) ∧ s = st ++ [a, b] ∧ b = .lst (f.map W.int) ∧ f.length ≤ most) (wp_runN ?_) (fun w s ⟨a, b, f, e1, _, _, _⟩ hc _ => ?_)) (fun _ _ h => h) fun _ _ _ h => h
  · unfold b_law_folded
    repeat decreasing_trivial_pre_omega
    refine wp_eq (a := .ref st.length) (s := st ++ [.lst ((l.take most).map W.int)]) ?_ ?_
    · show (match getL st (.rol (l.map W.int)) with | some l => An.ok (W.ref st.length) (st ++ [Ob.lst (cutL l none (some (most : Int)))]) | none => An.bad) = _
      simp only [getL]
      rw [cutL_toN, List.map_take]
    repeat decreasing_trivial_pre_omega
    rw [len1, app2]
    refine ws_forS (fun r e s => (∀ w ∈ r, ∃ k : Nat, w = .int k ∧ most ≤ k ∧ k < l.length) ∧ ∃ (f : List Int) (x : Option W), f.length = (l.take most).length ∧ e = [some (.rol (l.map W.int)), some (.int most), some (.ref (st.length + 1)), x] ∧ s = st ++ [.lst ((l.take most).map W.int), .lst (f.map W.int)]) ⟨fun w hw => ?_, _, _, rfl, rfl, rfl⟩ ?_ ?_
    · simp only [rngW, List.mem_map, List.mem_range] at hw
      obtain ⟨i, hi, rfl⟩ := hw
      simp only [List.length_map] at hi
      refine ⟨most + i, by simp, by omega, ?_⟩
      split at hi <;> omega
    · rintro w r e s ⟨hr, f, x, hf, rfl, rfl⟩
      obtain ⟨k, rfl, hk1, hk2⟩ := hr w List.mem_cons_self
      refine ⟨trivial, ?_⟩
      rw [List.length_take] at hf
      have hj : k % most < f.length := by
        have := Nat.mod_lt k h0
        omega
      have e1 : ((k : Int) % (most : Int)) = ((k % most : Nat) : Int) := by simp
      have ix1 : (f.map W.int)[k % most]? = some (.int (f.getD (k % most) 0)) := by
        rw [List.getElem?_map, List.getElem?_eq_getElem hj, List.getD_eq_getElem?_getD, List.getElem?_eq_getElem hj]
        rfl
      have ix2 : (l.map W.int)[k]? = some (.int (l.getD k 0)) := by
        rw [List.getElem?_map, List.getElem?_eq_getElem hk2, List.getD_eq_getElem?_getD, List.getElem?_eq_getElem hk2]
        rfl
      repeat decreasing_trivial_pre_omega
      rw [e1]
      refine Sw.v_ixL sto_at2 (atI_nat ix1) ?_
      repeat decreasing_trivial_pre_omega
      rw [e1]
      refine ⟨_, wSet_at sto_at2 (by rw [List.length_map]; exact hj), fun w h => hr w (List.mem_cons_of_mem _ h), f.set (k % most) (f.getD (k % most) 0 * 31 + l.getD k 0), _, by rw [List.length_set, List.length_take]; exact hf, rfl, ?_⟩
      rw [sto_set2, List.map_set]
    · rintro e s ⟨hr, f, x, hf, rfl, rfl⟩
      refine ⟨trivial, ?_⟩
      repeat decreasing_trivial_pre_omega
      exact ⟨_, _, f, rfl, rfl, rfl, by rw [hf, List.length_take]; omega⟩
  · subst e1
    simp [closedW] at hc
    omega



end Lw

namespace Lw
open PySem PySem.Spec PyProof.Rows L2 Sw
/-- one step; the goal's head says which -/
local macro_rules | `(tactic| decreasing_trivial_pre_omega) => `(tactic| first
  | ((with_reducible refine Sw.gWi ?_); first
    | with_reducible refine Sw.ws_ift ?_
    | with_reducible refine Sw.ws_iff ?_
    | with_reducible refine Sw.ws_ifn ?_
    | ((with_reducible refine Sw.ws_ifd1 ?_ ?_); (focus first | assumption | omega | (simp; done)))
    | ((with_reducible refine Sw.ws_ifd0 ?_ ?_); (focus first | assumption | omega | (simp; done)))
    | ((with_reducible refine Sw.ws_ifb1 ?_ ?_); (focus rfl))
    | ((with_reducible refine Sw.ws_ifb0 ?_ ?_); (focus rfl))
    )
  | ((with_reducible refine Sw.gW ?_); first
    | with_reducible refine Sw.ws_seqS ?_
    | with_reducible refine Sw.ws_ifS ?_
    | with_reducible refine Sw.ws_forN ?_
    | with_reducible refine Sw.ws_seq ?_
    | with_reducible refine Sw.ws_set ?_
    | with_reducible refine Sw.ws_if ?_
    | with_reducible refine Sw.ws_ret ?_
    | with_reducible refine Sw.ws_next ?_
    | with_reducible refine Sw.ws_drop ?_
    | with_reducible refine Sw.ws_for ?_
    | with_reducible refine Sw.ws_asg ?_
    | with_reducible refine Sw.ws_retN ?_
    | with_reducible refine Sw.ws_raise ?_
    | with_reducible refine Sw.ws_raiseD ?_
    | with_reducible refine Sw.ws_gN ?_
    | with_reducible refine Sw.ws_brk ?_
    | with_reducible refine Sw.ws_cnt ?_
    | ((with_reducible apply Sw.ws_aug); rfl)
    | with_reducible refine Sw.ws_gSub ?_
    | with_reducible refine Sw.ws_gsCons ?_
    | with_reducible refine Sw.ws_gsNil ?_
    | ((with_reducible apply Sw.ws_gsConsE); (focus rfl))
    | ((with_reducible apply Sw.ws_gsNilE); (focus rfl))
    | with_reducible refine Sw.ws_par2 ?_
    | with_reducible refine Sw.ws_par3 ?_
    | ((with_reducible refine Sw.ws_gTup ?_ ?_); (focus rfl))
    | ((with_reducible apply Sw.ws_gSeqN); (focus first | rfl | exact getS_at (by assumption) | exact getS_at sto_at | exact getS_at (sto_app (by assumption)) | exact getS_at (sto_app sto_at)); (focus first | rfl | decide | (simp; done) | (simp; omega)))
    | ((with_reducible apply Sw.ws_gStarN); (focus first | rfl | exact getS_at (by assumption) | exact getS_at sto_at | exact getS_at (sto_app (by assumption)) | exact getS_at (sto_app sto_at)); (focus first | decide | (simp; done) | (simp; omega)))
    )
  | ((with_reducible refine Sw.gI ?_); first
    | with_reducible refine Sw.wp_ift ?_
    | with_reducible refine Sw.wp_iff ?_
    | with_reducible refine Sw.wp_ifn ?_
    | ((with_reducible refine Sw.wp_ifd1 ?_ ?_); (focus first | assumption | omega | (simp; done)))
    | ((with_reducible refine Sw.wp_ifd0 ?_ ?_); (focus first | assumption | omega | (simp; done)))
    | ((with_reducible refine Sw.wp_ifb1 ?_ ?_); (focus rfl))
    | ((with_reducible refine Sw.wp_ifb0 ?_ ?_); (focus rfl))
    )
  | ((with_reducible refine Sw.gF ?_); first
    | ((with_reducible apply Sw.v_var); rfl)
    | with_reducible refine Sw.v_c ?_
    | with_reducible refine Sw.v_cons ?_
    | with_reducible refine Sw.v_nil ?_
    | ((with_reducible refine Sw.v_fn ?_))
    | with_reducible refine Sw.v_call ?_
    | ((with_reducible apply Sw.v_ask); (focus rfl); (focus rfl))
    | with_reducible refine Sw.v_bin ?_
    | with_reducible refine Sw.v_cmp ?_
    | with_reducible refine Sw.v_cmpE ?_
    | with_reducible refine Sw.v_tru ?_
    | with_reducible refine Sw.v_notT ?_
    | with_reducible refine Sw.v_andT ?_
    | with_reducible refine Sw.v_orT ?_
    | with_reducible refine Sw.v_and ?_
    | with_reducible refine Sw.v_or ?_
    | with_reducible refine Sw.v_not ?_
    | with_reducible refine Sw.v_if ?_
    | with_reducible refine Sw.v_chn ?_
    | with_reducible refine Sw.v_chnE ?_
    | with_reducible refine Sw.v_tup ?_
    | with_reducible refine Sw.v_lst ?_
    | with_reducible refine Sw.v_sl ?_
    | with_reducible refine Sw.v_no ?_
    | with_reducible refine Sw.v_so ?_
    | with_reducible refine Sw.v_neg ?_
    | with_reducible refine Sw.v_lc ?_
    | with_reducible refine Sw.v_it ?_
    | with_reducible refine Sw.v_seqI ?_
    | with_reducible refine Sw.v_mt ?_
    | with_reducible refine Sw.v_m1 ?_
    | with_reducible refine Sw.v_dict0 ?_
    | with_reducible refine Sw.v_it1 ?_
    )
  | ((with_reducible refine Sw.gO ?_); first
    | with_reducible refine Sw.v_ltI ?_
    | with_reducible refine Sw.v_leI ?_
    | with_reducible refine Sw.v_gtI ?_
    | with_reducible refine Sw.v_geI ?_
    | with_reducible refine Sw.v_eqI ?_
    | with_reducible refine Sw.v_neI ?_
    | with_reducible refine Sw.v_eqS ?_
    | with_reducible refine Sw.v_neS ?_
    | with_reducible refine Sw.v_truB ?_
    | with_reducible refine Sw.v_truI ?_
    | with_reducible refine Sw.v_truN ?_
    | with_reducible refine Sw.v_truT ?_
    | with_reducible refine Sw.v_seqT ?_
    | with_reducible refine Sw.v_seqR ?_
    | with_reducible refine Sw.v_seqS ?_
    | ((with_reducible apply Sw.v_seqL); (focus first | assumption | exact sto_at | exact sto_app (by assumption) | exact sto_app (sto_app (by assumption)) | exact sto_app sto_at | exact sto_app (sto_app sto_at)))
    | with_reducible refine Sw.v_inK ?_
    | with_reducible refine Sw.v_notInK ?_
    | ((with_reducible apply Sw.wp_opt); (focus rfl))
    )
  | ((with_reducible refine Sw.gE ?_); first
    | with_reducible refine Sw.wp_bind ?_
    | with_reducible refine Sw.wp_ok ?_
    | with_reducible refine Sw.v_addI ?_
    | with_reducible refine Sw.v_subI ?_
    | ((with_reducible refine Sw.v_mulI (.inl ?_) ?_); (focus first | decide | omega))
    | ((with_reducible refine Sw.v_mulT ?_ ?_); exact ⟨by simp, by decide, by decide, by simp⟩)
    | ((with_reducible apply Sw.v_mulL); (focus first | assumption | exact sto_at | exact sto_app (by assumption) | exact sto_app (sto_app (by assumption)) | exact sto_app sto_at | exact sto_app (sto_app sto_at)); (focus exact ⟨by decide, by decide, by simp⟩))
    | ((with_reducible refine Sw.v_modI ?_ ?_); (focus first | decide | omega))
    | ((with_reducible refine Sw.v_addT ?_ ?_); refine line1000 ?_; (focus first | decide | (simp; done) | (simp; omega)))
    | ((with_reducible apply Sw.v_powE); (focus decide +kernel); (focus (simp only [Int.reduceToNat, Int.reducePow]; rfl)))
    | ((with_reducible apply Sw.v_ixL); (first | assumption | exact sto_at | exact sto_app (by assumption) | exact sto_app (sto_app (by assumption)) | exact sto_app sto_at | exact sto_app (sto_app sto_at)); (focus first | rfl | assumption | exact atI_nat (by assumption) | exact Sw.atc0 | exact Sw.atc1 | exact Sw.atc2))
    | ((with_reducible apply Sw.v_ixT); (focus first | rfl | assumption | exact atI_nat (by assumption) | exact Sw.atc0 | exact Sw.atc1 | exact Sw.atc2))
    | ((with_reducible apply Sw.v_ixR); (focus first | rfl | assumption | exact atI_nat (by assumption) | exact Sw.atc0 | exact Sw.atc1 | exact Sw.atc2))
    | with_reducible refine Sw.v_slc1 ?_
    | with_reducible refine Sw.v_slc2 ?_
    | ((with_reducible apply Sw.v_slLt1); (focus first | assumption | exact sto_at | exact sto_app (by assumption) | exact sto_app (sto_app (by assumption)) | exact sto_app sto_at | exact sto_app (sto_app sto_at)))
    | ((with_reducible apply Sw.v_slLt2); (focus first | assumption | exact sto_at | exact sto_app (by assumption) | exact sto_app (sto_app (by assumption)) | exact sto_app sto_at | exact sto_app (sto_app sto_at)))
    | ((with_reducible apply Sw.v_slLd1); (focus first | assumption | exact sto_at | exact sto_app (by assumption) | exact sto_app (sto_app (by assumption)) | exact sto_app sto_at | exact sto_app (sto_app sto_at)))
    | ((with_reducible apply Sw.v_addL); (focus first | assumption | exact sto_at | exact sto_app (by assumption) | exact sto_app (sto_app (by assumption)) | exact sto_app sto_at | exact sto_app (sto_app sto_at)); (focus first | assumption | exact sto_at | exact sto_app (by assumption) | exact sto_app (sto_app (by assumption)) | exact sto_app sto_at | exact sto_app (sto_app sto_at)); (focus first | decide | (simp; done) | (simp; omega)))
    | with_reducible refine Sw.v_sortSet ?_
    | ((with_reducible refine Sw.v_sl0 ?_ ?_); (focus omega))
    | ((with_reducible refine Sw.v_sl1 ?_ ?_); (focus omega))
    | with_reducible refine Sw.v_lenT ?_
    | with_reducible refine Sw.v_lenR ?_
    | ((with_reducible apply Sw.v_lenL); (focus first | assumption | exact sto_at | exact sto_app (by assumption) | exact sto_app (sto_app (by assumption)) | exact sto_app sto_at | exact sto_app (sto_app sto_at)))
    | ((with_reducible apply Sw.v_appT); (focus first | decide | (simp; done) | (simp; omega)))
    | with_reducible refine Sw.v_intI ?_
    | with_reducible refine Sw.v_intB ?_
    | with_reducible refine Sw.v_absI ?_
    | with_reducible refine Sw.v_max2 ?_
    | with_reducible refine Sw.v_min2 ?_
    | with_reducible refine Sw.v_listT ?_
    | ((with_reducible apply Sw.v_listL); (focus first | assumption | exact sto_at | exact sto_app (by assumption) | exact sto_app (sto_app (by assumption)) | exact sto_app sto_at | exact sto_app (sto_app sto_at)))
    | with_reducible refine Sw.v_tupleT ?_
    | ((with_reducible apply Sw.v_tupleL); (focus first | assumption | exact sto_at | exact sto_app (by assumption) | exact sto_app (sto_app (by assumption)) | exact sto_app sto_at | exact sto_app (sto_app sto_at)))
    | ((with_reducible refine Sw.v_rng1 ?_ ?_); (focus first | exact ⟨by omega, by omega, by omega, by omega⟩ | decide))
    | ((with_reducible refine Sw.v_rng2 ?_ ?_); (focus first | exact ⟨by omega, by omega, by omega, by omega⟩ | decide))
    | with_reducible refine Sw.v_zipT ?_
    | with_reducible refine Sw.v_enumT ?_
    | ((with_reducible apply Sw.v_enumL); (focus first | assumption | exact sto_at | exact sto_app (by assumption) | exact sto_app (sto_app (by assumption)) | exact sto_app sto_at | exact sto_app (sto_app sto_at)))
    | with_reducible refine Sw.v_andI ?_
    | with_reducible refine Sw.v_orI ?_
    | ((with_reducible refine Sw.v_shrI ?_ ?_); decide)
    | ((with_reducible apply Sw.v_allL); (focus first | assumption | exact sto_at | exact sto_app (by assumption) | exact sto_app (sto_app (by assumption)) | exact sto_app sto_at | exact sto_app (sto_app sto_at)))
    | ((with_reducible apply Sw.v_anyL); (focus first | assumption | exact sto_at | exact sto_app (by assumption) | exact sto_app (sto_app (by assumption)) | exact sto_app sto_at | exact sto_app (sto_app sto_at)))
    | with_reducible refine Sw.v_addGI ?_
    | ((with_reducible refine Sw.v_addGT ?_ ?_); refine line1000 ?_; (focus first | decide | (simp; done) | (simp; omega)))
    | ((with_reducible apply Sw.v_ixK); (focus rfl))
    )
  | with_reducible refine ⟨_, rfl, ?_⟩
  | with_reducible refine ⟨_, _, rfl, ?_⟩
  | with_reducible refine ⟨_, _, _, rfl, ?_⟩
  | ((with_reducible refine And.intro ?_ ?_); (focus first | rfl | decide | exact isLst_at sto_at | exact isLst_at (by assumption) | exact isLst_at (sto_app sto_at) | exact isLst_at (sto_app (by assumption)) | (simp; done) | (simp; omega)))
  | exact ⟨[], (List.append_nil _).symm⟩
  | with_reducible rfl
  | with_reducible refine Sw.ex_app ?_
  | exact ⟨_, rfl⟩
  )
theorem ins_nat {ks : List Nat} {p : Nat} : insI (ks.map fun n : Nat => (n : Int)) (p : Int) = (addKey ks p).map fun n : Nat => (n : Int) := by
  have e : (p : Int) ∈ ks.map (fun n : Nat => (n : Int)) ↔ p ∈ ks := by
    rw [List.mem_map]
    constructor
    · rintro ⟨q, hq, e⟩
      have : q = p := by omega
      subst this
      exact hq
    · exact fun h => ⟨p, h, rfl⟩
  unfold insI addKey
  by_cases h : p ∈ ks
  · rw [if_pos (e.mpr h), if_pos h]
  · rw [if_neg (fun z => h (e.mp z)), if_neg h, List.map_append]
    rfl
theorem left_ok {since : List Nat} {plan : List (List Nat)} {n : Nat} {st : Sto} (hs : st[n]? = some (.lst (wI8 since))) (hl : since.length ≤ 100) (hp : ∀ row ∈ plan, ∀ p ∈ row, p < since.length) :
    f_left_by [.ref n, .tup (putsW plan)] st = .ok (.int (leftP since plan)) st := by
  refine clean_wp (wp_runN ?_) rfl
  unfold b_left_by
  repeat decreasing_trivial_pre_omega
  refine Sw.v_lenS2 ?_
  repeat decreasing_trivial_pre_omega
  refine Sw.v_s2out (gd := none) (fun r acc s => ∃ (k : Nat) (rest : List (List Nat)) (ks : List Nat), r = enumW k (putsW rest) ∧ (∀ row ∈ rest, ∀ p ∈ row, p < since.length) ∧ acc = ks.map (fun n : Nat => (n : Int)) ∧ Keys since.length ks ∧ keyFrom since k rest ks = keyFrom since 0 plan [] ∧ s = st) (fun _ _ _ _ => trivial) ?_ ?_
    ⟨0, plan, [], rfl, hp, rfl, ⟨by simp, by simp⟩, rfl, rfl⟩
  · rintro x xs acc s ⟨k, rest, ks, hr, hrest, rfl, hk, hf, rfl⟩
    cases rest with
    | nil => cases hr
    | cons row rest =>
      simp only [putsW, List.map_cons, enumW, List.cons.injEq] at hr
      obtain ⟨rfl, rfl⟩ := hr
      refine ⟨[some (.ref n), some (.tup (putsW plan)), none, some (.int k), some (.tup (wI8 row))], rfl, ?_⟩
      repeat decreasing_trivial_pre_omega
      refine Sw.v_s2in (gd := none) (fun r2 acc2 s2 => ∃ (row2 ks2 : List Nat), r2 = wI8 row2 ∧ (∀ p ∈ row2, p < since.length) ∧ acc2 = ks2.map (fun n : Nat => (n : Int)) ∧ Keys since.length ks2 ∧ keyRow since k ks2 row2 = keyRow since k ks row ∧ s2 = s) (fun _ _ _ _ => trivial) ?_ ?_
        ⟨row, ks, rfl, hrest row List.mem_cons_self, rfl, hk, rfl, rfl⟩
      · rintro x2 xs2 acc2 s2 ⟨row2, ks2, hr2, hlt, rfl, hk2, hf2, rfl⟩
        cases row2 with
        | nil => cases hr2
        | cons p row2 =>
          simp only [wI8, List.map_cons, List.cons.injEq] at hr2
          obtain ⟨rfl, rfl⟩ := hr2
          have hpl := hlt p List.mem_cons_self
          have ex : (wI8 since)[p]? = some (W.int (since.getD p 0 : Nat)) := by
            unfold wI8
            rw [List.getElem?_map, List.getElem?_eq_getElem hpl, List.getD_eq_getElem?_getD, List.getElem?_eq_getElem hpl]
            rfl
          have hln := hk2.len
          refine ⟨[some (.ref n), some (.tup (putsW plan)), some (.int p), some (.int k), some (.tup (wI8 row))], rfl, ?_⟩
          repeat decreasing_trivial_pre_omega
          by_cases hle : ((since.getD p 0 : Nat) : Int) ≤ k
          · rw [if_pos (decide_eq_true hle)]
            repeat decreasing_trivial_pre_omega
            refine ⟨row2, addKey ks2 p, rfl, fun q hq => hlt q (List.mem_cons_of_mem _ hq), ins_nat, hk2.add hpl, ?_, rfl⟩
            rw [keyRow_cons, if_pos (by omega)] at hf2
            exact hf2
          · rw [if_neg (by rw [decide_eq_true_eq]; exact hle)]
            refine ⟨row2, ks2, rfl, fun q hq => hlt q (List.mem_cons_of_mem _ hq), rfl, hk2, ?_, rfl⟩
            rw [keyRow_cons, if_neg (by omega)] at hf2
            exact hf2
      · rintro acc2 s2 ⟨row2, ks2, hr2, hlt, rfl, hk2, hf2, rfl⟩
        cases row2 with
        | cons _ _ => cases hr2
        | nil =>
          refine ⟨k + 1, rest, ks2, rfl, fun r hr => hrest r (List.mem_cons_of_mem _ hr), rfl, hk2, ?_, rfl⟩
          have hf2 : ks2 = keyRow since k ks row := hf2
          rw [hf2, ← keyFrom_cons]
          exact hf
  · rintro acc s ⟨k, rest, ks, hr, hrest, rfl, hk, hf, rfl⟩
    cases rest with
    | cons _ _ => cases hr
    | nil =>
      have e : ks = keyFrom since 0 plan [] := hf
      subst e
      repeat decreasing_trivial_pre_omega
      have := hk.len
      refine ⟨?_, [], by simp⟩
      unfold leftP
      simp only [wI8_len, List.length_map]
      congr 1
      omega

def planB (many ticks width : Int) : W → Bool
  | .tup l => decide ((l.length : Int) = ticks) && l.all (rowB many width)
  | _ => false
theorem isplan_ok {many ticks width : Int} {x : W} {st : Sto} (h : Plain2 st x) : f_is_plan [.int many, .int ticks, .int width, x] st = .ok (.bl (planB many ticks width x)) st := by
  refine clean_wp (wp_runN ?_) rfl
  unfold b_is_plan
  repeat decreasing_trivial_pre_omega
  refine wp_eq (isi_tup h.ty) ?_
  repeat decreasing_trivial_pre_omega
  cases x with
  | tup l =>
    obtain ⟨hz, hi⟩ := h.it l rfl
    repeat decreasing_trivial_pre_omega
    by_cases h1 : (l.length : Int) = ticks
    · repeat decreasing_trivial_pre_omega
      refine Sw.v_lcM (fun w => .bl (rowB many width w)) (Nat.le_trans hz (by decide)) (fun _ => trivial) (fun acc w hw => ⟨_, rfl, ?_⟩) ?_
      · refine Sw.v_fnK ?_
        repeat decreasing_trivial_pre_omega
        refine wp_eq (rising_ok (hi w hw _)) ?_
        repeat decreasing_trivial_pre_omega
      · repeat decreasing_trivial_pre_omega
        exact ⟨by simp [planB, h1], _, rfl⟩
    · repeat decreasing_trivial_pre_omega
      exact ⟨by simp [planB, h1], [], by simp⟩
  | _ => repeat decreasing_trivial_pre_omega
theorem lets_last {many width : Nat} {puts : List (List Nat)} {a b c : W} (h : Lets many puts width (.tup [a, b, c])) : isW 0 (putsW puts).length c = true := by
  obtain ⟨left, plan, first, e, _, z, _⟩ := h
  have e := W.tup.inj e
  simp only [List.cons.injEq, and_true] at e
  obtain ⟨_, _, rfl⟩ := e
  rw [isW_nat, putsW_len]
  exact decide_eq_true (by omega)
theorem shows_ok {many width : Nat} {puts : List (List Nat)} (g : Good many puts width) {x : W} {st : Sto} (h : Plain3 st x) : f_shows_plan [.int many, .tup (putsW puts), .int width, x] st = .ok (.bl (letsB many puts width x)) st := by
  have hm := g.m2
  have ht := g.t
  have hw := g.w
  have hsl := since_len (many := many) (puts := puts)
  have hpl := putsW_len (puts := puts)
  refine clean_wp (wp_runN ?_) rfl
  unfold b_shows_plan
  repeat decreasing_trivial_pre_omega
  refine wp_eq (need_ok TyB.int g.plain TyB.int g.need) ?_
  repeat decreasing_trivial_pre_omega
  refine wp_eq (isi_tup h.ty) ?_
  repeat decreasing_trivial_pre_omega
  cases x with
  | tup l =>
    have hi := h.it l rfl
    repeat decreasing_trivial_pre_omega
    by_cases h3 : l.length = 3
    · obtain ⟨a, b, c, rfl⟩ : ∃ a b c, l = [a, b, c] := by
        match l, h3 with
        | [a, b, c], _ => exact ⟨a, b, c, rfl⟩
      have pa := hi a (by simp)
      have pb := hi b (by simp)
      have pc := hi c (by simp)
      have a0 : Plain2 st a := by simpa using pa []
      have b0 : Plain2 st b := by simpa using pb []
      have c0 : Plain2 st c := by simpa using pc []
      repeat decreasing_trivial_pre_omega
      refine wp_eq (within_ok a0.ty) ?_
      repeat decreasing_trivial_pre_omega
      cases ea : isW 0 (many : Int) a
      · repeat decreasing_trivial_pre_omega
        exact ⟨by rw [letsB_no fun ⟨left, plan, first, e, z, _⟩ => by cases e; rw [isW_nat, decide_eq_false_iff_not] at ea; omega], [], by simp⟩
      obtain ⟨left, rfl, hleft⟩ := nat_of_isW ea
      repeat decreasing_trivial_pre_omega
      refine wp_eq (isplan_ok b0) ?_
      repeat decreasing_trivial_pre_omega
      cases eb : planB many (putsW puts).length width b
      · repeat decreasing_trivial_pre_omega
        have hno : ¬ Lets many puts width (.tup [.int left, b, c]) := fun ⟨left, plan, first, e, _, _, zl, z, _⟩ => by
          cases e
          have e2 : planB many (putsW puts).length width (.tup (putsW plan)) = true := by
            show (decide (((putsW plan).length : Int) = ((putsW puts).length : Int)) && (putsW plan).all (rowB many width)) = true
            rw [Bool.and_eq_true, List.all_eq_true]
            refine ⟨decide_eq_true (by rw [putsW_len, putsW_len, zl]), fun w hw => ?_⟩
            obtain ⟨row, hr, rfl⟩ := List.mem_map.mp hw
            obtain ⟨z1, z2, z3⟩ := z row hr
            exact rowB_of z1 z2 (by omega)
          rw [e2] at eb
          cases eb
        exact ⟨by rw [letsB_no hno], [], by simp⟩
      cases b with
      | tup rows =>
        have eb : (decide ((rows.length : Int) = ((putsW puts).length : Int)) && rows.all (rowB many width)) = true := eb
        rw [Bool.and_eq_true, decide_eq_true_eq] at eb
        obtain ⟨plan, rfl, hplan⟩ := rowsB_nat eb.2
        have hplen : plan.length = puts.length := by
          have : (putsW plan).length = plan.length := putsW_len
          have := eb.1
          omega
        repeat decreasing_trivial_pre_omega
        refine wp_eq (within_ok c0.ty) ?_
        repeat decreasing_trivial_pre_omega
        cases ec : isW 0 ((putsW puts).length : Int) c
        · repeat decreasing_trivial_pre_omega
          exact ⟨by rw [letsB_no fun z => by rw [lets_last z] at ec; cases ec], [], by simp⟩
        obtain ⟨first, rfl, hfirst⟩ := nat_of_isW ec
        repeat decreasing_trivial_pre_omega
        refine wp_eq (last_ok (by omega) g.rows) ?_
        repeat decreasing_trivial_pre_omega
        have h2 : ∀ a, (st ++ [Ob.lst [W.int 0], .lst (wI8 (sinceL many puts))] ++ a)[st.length + 1]? = some (.lst (wI8 (sinceL many puts))) := fun a => sto_app sto_at2
        have h20 : (st ++ [Ob.lst [W.int 0], .lst (wI8 (sinceL many puts))])[st.length + 1]? = some (.lst (wI8 (sinceL many puts))) := sto_at2
        refine wp_eq (left_ok h20 (by omega) fun row hr p hp => by have := (hplan row hr).2.1 p hp; omega) ?_
        repeat decreasing_trivial_pre_omega
        by_cases hleft2 : (leftP (sinceL many puts) plan : Int) = left
        · repeat decreasing_trivial_pre_omega
          rw [show ((putsW puts).length : Int) = (puts.length : Int) by omega]
          refine wp_eq (owed_ok h20 (by omega) (by omega) (by omega) (by omega)) ?_
          repeat decreasing_trivial_pre_omega
          by_cases howed : owedL (sinceL many puts) puts.length width first = left
          · repeat decreasing_trivial_pre_omega
            refine wp_eq (first_ok h20 (by omega) (by omega) (by omega) ⟨first, by omega, howed⟩) ?_
            repeat decreasing_trivial_pre_omega
            obtain ⟨f1, f2, f3, _⟩ := first_spec (since := sinceL many puts) (ticks := puts.length) (width := width) ⟨first, by omega, howed⟩
            refine ⟨?_, _, rfl⟩
            congr 1
            by_cases he : firstL (sinceL many puts) puts.length width left = first
            · rw [letsB_yes (lets_iff.mpr ⟨by omega, by omega, hplen, fun row hr => ⟨(hplan row hr).1, (hplan row hr).2.1, by have := (hplan row hr).2.2; omega⟩, by omega, howed, fun t ht => f3 t (by omega)⟩)]
              simp [he]
            · rw [letsB_no fun z => ?_]
              · have : ¬ ((firstL (sinceL many puts) puts.length width left : Nat) : Int) = first := by omega
                simp [this]
              · obtain ⟨_, _, _, _, _, _, z⟩ := lets_iff.mp z
                rcases Nat.lt_trichotomy (firstL (sinceL many puts) puts.length width left) first with h | h | h
                · exact z _ h f2
                · exact he h
                · exact f3 _ h howed
          · repeat decreasing_trivial_pre_omega
            exact ⟨by rw [letsB_no fun z => howed (lets_iff.mp z).2.2.2.2.2.1], _, rfl⟩
        · repeat decreasing_trivial_pre_omega
          exact ⟨by rw [letsB_no fun z => hleft2 (by have := (lets_iff.mp z).2.2.2.2.1; omega)], _, rfl⟩
      | _ => cases eb
    · repeat decreasing_trivial_pre_omega
      exact ⟨by rw [letsB_no fun z => h3 (lets_shape z)], [], by simp⟩
  | _ =>
    repeat decreasing_trivial_pre_omega
    exact ⟨by rw [letsB_no fun ⟨_, _, _, e, _⟩ => by cases e], [], by simp⟩


end Lw

namespace Lw
open PySem PySem.Spec PyProof.Rows L2 Sw
/-- one step; the goal's head says which -/
local macro_rules | `(tactic| decreasing_trivial_pre_omega) => `(tactic| first
  | ((with_reducible refine Sw.gWi ?_); first
    | with_reducible refine Sw.ws_ift ?_
    | with_reducible refine Sw.ws_iff ?_
    | with_reducible refine Sw.ws_ifn ?_
    | ((with_reducible refine Sw.ws_ifd1 ?_ ?_); (focus first | assumption | omega | (simp; done)))
    | ((with_reducible refine Sw.ws_ifd0 ?_ ?_); (focus first | assumption | omega | (simp; done)))
    | ((with_reducible refine Sw.ws_ifb1 ?_ ?_); (focus rfl))
    | ((with_reducible refine Sw.ws_ifb0 ?_ ?_); (focus rfl))
    )
  | ((with_reducible refine Sw.gW ?_); first
    | with_reducible refine Sw.ws_seqS ?_
    | with_reducible refine Sw.ws_ifS ?_
    | with_reducible refine Sw.ws_forN ?_
    | with_reducible refine Sw.ws_seq ?_
    | with_reducible refine Sw.ws_set ?_
    | with_reducible refine Sw.ws_if ?_
    | with_reducible refine Sw.ws_ret ?_
    | with_reducible refine Sw.ws_next ?_
    | with_reducible refine Sw.ws_drop ?_
    | with_reducible refine Sw.ws_for ?_
    | with_reducible refine Sw.ws_asg ?_
    | with_reducible refine Sw.ws_retN ?_
    | with_reducible refine Sw.ws_raise ?_
    | with_reducible refine Sw.ws_raiseD ?_
    | with_reducible refine Sw.ws_gN ?_
    | with_reducible refine Sw.ws_brk ?_
    | with_reducible refine Sw.ws_cnt ?_
    | ((with_reducible apply Sw.ws_aug); rfl)
    | with_reducible refine Sw.ws_gSub ?_
    | with_reducible refine Sw.ws_gsCons ?_
    | with_reducible refine Sw.ws_gsNil ?_
    | ((with_reducible apply Sw.ws_gsConsE); (focus rfl))
    | ((with_reducible apply Sw.ws_gsNilE); (focus rfl))
    | with_reducible refine Sw.ws_par2 ?_
    | with_reducible refine Sw.ws_par3 ?_
    | ((with_reducible refine Sw.ws_gTup ?_ ?_); (focus rfl))
    | ((with_reducible apply Sw.ws_gSeqN); (focus first | rfl | exact getS_at (by assumption) | exact getS_at sto_at | exact getS_at (sto_app (by assumption)) | exact getS_at (sto_app sto_at)); (focus first | rfl | decide | (simp; done) | (simp; omega)))
    | ((with_reducible apply Sw.ws_gStarN); (focus first | rfl | exact getS_at (by assumption) | exact getS_at sto_at | exact getS_at (sto_app (by assumption)) | exact getS_at (sto_app sto_at)); (focus first | decide | (simp; done) | (simp; omega)))
    )
  | ((with_reducible refine Sw.gI ?_); first
    | with_reducible refine Sw.wp_ift ?_
    | with_reducible refine Sw.wp_iff ?_
    | with_reducible refine Sw.wp_ifn ?_
    | ((with_reducible refine Sw.wp_ifd1 ?_ ?_); (focus first | assumption | omega | (simp; done)))
    | ((with_reducible refine Sw.wp_ifd0 ?_ ?_); (focus first | assumption | omega | (simp; done)))
    | ((with_reducible refine Sw.wp_ifb1 ?_ ?_); (focus rfl))
    | ((with_reducible refine Sw.wp_ifb0 ?_ ?_); (focus rfl))
    )
  | ((with_reducible refine Sw.gF ?_); first
    | ((with_reducible apply Sw.v_var); rfl)
    | with_reducible refine Sw.v_c ?_
    | with_reducible refine Sw.v_cons ?_
    | with_reducible refine Sw.v_nil ?_
    | ((with_reducible refine Sw.v_fn ?_))
    | with_reducible refine Sw.v_call ?_
    | ((with_reducible apply Sw.v_ask); (focus rfl); (focus rfl))
    | with_reducible refine Sw.v_bin ?_
    | with_reducible refine Sw.v_cmp ?_
    | with_reducible refine Sw.v_cmpE ?_
    | with_reducible refine Sw.v_tru ?_
    | with_reducible refine Sw.v_notT ?_
    | with_reducible refine Sw.v_andT ?_
    | with_reducible refine Sw.v_orT ?_
    | with_reducible refine Sw.v_and ?_
    | with_reducible refine Sw.v_or ?_
    | with_reducible refine Sw.v_not ?_
    | with_reducible refine Sw.v_if ?_
    | with_reducible refine Sw.v_chn ?_
    | with_reducible refine Sw.v_chnE ?_
    | with_reducible refine Sw.v_tup ?_
    | with_reducible refine Sw.v_lst ?_
    | with_reducible refine Sw.v_sl ?_
    | with_reducible refine Sw.v_no ?_
    | with_reducible refine Sw.v_so ?_
    | with_reducible refine Sw.v_neg ?_
    | with_reducible refine Sw.v_lc ?_
    | with_reducible refine Sw.v_it ?_
    | with_reducible refine Sw.v_seqI ?_
    | with_reducible refine Sw.v_mt ?_
    | with_reducible refine Sw.v_m1 ?_
    | with_reducible refine Sw.v_dict0 ?_
    | with_reducible refine Sw.v_it1 ?_
    )
  | ((with_reducible refine Sw.gO ?_); first
    | with_reducible refine Sw.v_ltI ?_
    | with_reducible refine Sw.v_leI ?_
    | with_reducible refine Sw.v_gtI ?_
    | with_reducible refine Sw.v_geI ?_
    | with_reducible refine Sw.v_eqI ?_
    | with_reducible refine Sw.v_neI ?_
    | with_reducible refine Sw.v_eqS ?_
    | with_reducible refine Sw.v_neS ?_
    | with_reducible refine Sw.v_truB ?_
    | with_reducible refine Sw.v_truI ?_
    | with_reducible refine Sw.v_truN ?_
    | with_reducible refine Sw.v_truT ?_
    | with_reducible refine Sw.v_seqT ?_
    | with_reducible refine Sw.v_seqR ?_
    | with_reducible refine Sw.v_seqS ?_
    | ((with_reducible apply Sw.v_seqL); (focus first | assumption | exact sto_at | exact sto_app (by assumption) | exact sto_app (sto_app (by assumption)) | exact sto_app sto_at | exact sto_app (sto_app sto_at)))
    | with_reducible refine Sw.v_inK ?_
    | with_reducible refine Sw.v_notInK ?_
    | ((with_reducible apply Sw.wp_opt); (focus rfl))
    )
  | ((with_reducible refine Sw.gE ?_); first
    | with_reducible refine Sw.wp_bind ?_
    | with_reducible refine Sw.wp_ok ?_
    | with_reducible refine Sw.v_addI ?_
    | with_reducible refine Sw.v_subI ?_
    | ((with_reducible refine Sw.v_mulI (.inl ?_) ?_); (focus first | decide | omega))
    | ((with_reducible refine Sw.v_mulT ?_ ?_); exact ⟨by simp, by decide, by decide, by simp⟩)
    | ((with_reducible apply Sw.v_mulL); (focus first | assumption | exact sto_at | exact sto_app (by assumption) | exact sto_app (sto_app (by assumption)) | exact sto_app sto_at | exact sto_app (sto_app sto_at)); (focus exact ⟨by decide, by decide, by simp⟩))
    | ((with_reducible refine Sw.v_modI ?_ ?_); (focus first | decide | omega))
    | ((with_reducible refine Sw.v_addT ?_ ?_); refine line1000 ?_; (focus first | decide | (simp; done) | (simp; omega)))
    | ((with_reducible apply Sw.v_powE); (focus decide +kernel); (focus (simp only [Int.reduceToNat, Int.reducePow]; rfl)))
    | ((with_reducible apply Sw.v_ixL); (first | assumption | exact sto_at | exact sto_app (by assumption) | exact sto_app (sto_app (by assumption)) | exact sto_app sto_at | exact sto_app (sto_app sto_at)); (focus first | rfl | assumption | exact atI_nat (by assumption) | exact Sw.atc0 | exact Sw.atc1 | exact Sw.atc2))
    | ((with_reducible apply Sw.v_ixT); (focus first | rfl | assumption | exact atI_nat (by assumption) | exact Sw.atc0 | exact Sw.atc1 | exact Sw.atc2))
    | ((with_reducible apply Sw.v_ixR); (focus first | rfl | assumption | exact atI_nat (by assumption) | exact Sw.atc0 | exact Sw.atc1 | exact Sw.atc2))
    | with_reducible refine Sw.v_slc1 ?_
    | with_reducible refine Sw.v_slc2 ?_
    | ((with_reducible apply Sw.v_slLt1); (focus first | assumption | exact sto_at | exact sto_app (by assumption) | exact sto_app (sto_app (by assumption)) | exact sto_app sto_at | exact sto_app (sto_app sto_at)))
    | ((with_reducible apply Sw.v_slLt2); (focus first | assumption | exact sto_at | exact sto_app (by assumption) | exact sto_app (sto_app (by assumption)) | exact sto_app sto_at | exact sto_app (sto_app sto_at)))
    | ((with_reducible apply Sw.v_slLd1); (focus first | assumption | exact sto_at | exact sto_app (by assumption) | exact sto_app (sto_app (by assumption)) | exact sto_app sto_at | exact sto_app (sto_app sto_at)))
    | ((with_reducible apply Sw.v_addL); (focus first | assumption | exact sto_at | exact sto_app (by assumption) | exact sto_app (sto_app (by assumption)) | exact sto_app sto_at | exact sto_app (sto_app sto_at)); (focus first | assumption | exact sto_at | exact sto_app (by assumption) | exact sto_app (sto_app (by assumption)) | exact sto_app sto_at | exact sto_app (sto_app sto_at)); (focus first | decide | (simp; done) | (simp; omega)))
    | with_reducible refine Sw.v_sortSet ?_
    | ((with_reducible refine Sw.v_sl0 ?_ ?_); (focus omega))
    | ((with_reducible refine Sw.v_sl1 ?_ ?_); (focus omega))
    | with_reducible refine Sw.v_lenT ?_
    | with_reducible refine Sw.v_lenR ?_
    | ((with_reducible apply Sw.v_lenL); (focus first | assumption | exact sto_at | exact sto_app (by assumption) | exact sto_app (sto_app (by assumption)) | exact sto_app sto_at | exact sto_app (sto_app sto_at)))
    | ((with_reducible apply Sw.v_appT); (focus first | decide | (simp; done) | (simp; omega)))
    | with_reducible refine Sw.v_intI ?_
    | with_reducible refine Sw.v_intB ?_
    | with_reducible refine Sw.v_absI ?_
    | with_reducible refine Sw.v_max2 ?_
    | with_reducible refine Sw.v_min2 ?_
    | with_reducible refine Sw.v_listT ?_
    | ((with_reducible apply Sw.v_listL); (focus first | assumption | exact sto_at | exact sto_app (by assumption) | exact sto_app (sto_app (by assumption)) | exact sto_app sto_at | exact sto_app (sto_app sto_at)))
    | with_reducible refine Sw.v_tupleT ?_
    | ((with_reducible apply Sw.v_tupleL); (focus first | assumption | exact sto_at | exact sto_app (by assumption) | exact sto_app (sto_app (by assumption)) | exact sto_app sto_at | exact sto_app (sto_app sto_at)))
    | ((with_reducible refine Sw.v_rng1 ?_ ?_); (focus first | exact ⟨by omega, by omega, by omega, by omega⟩ | decide))
    | ((with_reducible refine Sw.v_rng2 ?_ ?_); (focus first | exact ⟨by omega, by omega, by omega, by omega⟩ | decide))
    | with_reducible refine Sw.v_zipT ?_
    | with_reducible refine Sw.v_enumT ?_
    | ((with_reducible apply Sw.v_enumL); (focus first | assumption | exact sto_at | exact sto_app (by assumption) | exact sto_app (sto_app (by assumption)) | exact sto_app sto_at | exact sto_app (sto_app sto_at)))
    | with_reducible refine Sw.v_andI ?_
    | with_reducible refine Sw.v_orI ?_
    | ((with_reducible refine Sw.v_shrI ?_ ?_); decide)
    | ((with_reducible apply Sw.v_allL); (focus first | assumption | exact sto_at | exact sto_app (by assumption) | exact sto_app (sto_app (by assumption)) | exact sto_app sto_at | exact sto_app (sto_app sto_at)))
    | ((with_reducible apply Sw.v_anyL); (focus first | assumption | exact sto_at | exact sto_app (by assumption) | exact sto_app (sto_app (by assumption)) | exact sto_app sto_at | exact sto_app (sto_app sto_at)))
    | with_reducible refine Sw.v_addGI ?_
    | ((with_reducible refine Sw.v_addGT ?_ ?_); refine line1000 ?_; (focus first | decide | (simp; done) | (simp; omega)))
    | ((with_reducible apply Sw.v_ixK); (focus rfl))
    )
  | with_reducible refine ⟨_, rfl, ?_⟩
  | with_reducible refine ⟨_, _, rfl, ?_⟩
  | with_reducible refine ⟨_, _, _, rfl, ?_⟩
  | ((with_reducible refine And.intro ?_ ?_); (focus first | rfl | decide | exact isLst_at sto_at | exact isLst_at (by assumption) | exact isLst_at (sto_app sto_at) | exact isLst_at (sto_app (by assumption)) | (simp; done) | (simp; omega)))
  | exact ⟨[], (List.append_nil _).symm⟩
  | with_reducible rfl
  | with_reducible refine Sw.ex_app ?_
  | exact ⟨_, rfl⟩
  )
/-! ### no plan leaves fewer -/
section
variable {many width : Nat} {puts plan : List (List Nat)}
theorem keyRow_sub {since : List Nat} {t : Nat} : ∀ {row acc : List Nat} {q : Nat}, q ∈ keyRow since t acc row → q ∈ acc ∨ (q ∈ row ∧ since.getD q 0 ≤ t)
  | [], acc, q, h => .inl h
  | p :: row, acc, q, h => by
    rw [keyRow_cons] at h
    rcases keyRow_sub h with h | h
    · by_cases hp : since.getD p 0 ≤ t
      · rw [if_pos hp] at h
        unfold addKey at h
        split at h
        · exact .inl h
        · rcases List.mem_append.mp h with h | h
          · exact .inl h
          · rw [List.mem_singleton.mp h]
            exact .inr ⟨List.mem_cons_self, hp⟩
      · rw [if_neg hp] at h
        exact .inl h
    · exact .inr ⟨List.mem_cons_of_mem _ h.1, h.2⟩
theorem keyFrom_sub {since : List Nat} : ∀ {plan : List (List Nat)} {k : Nat} {acc : List Nat} {q : Nat}, q ∈ keyFrom since k plan acc → q ∈ acc ∨ ∃ i row, plan[i]? = some row ∧ q ∈ row ∧ since.getD q 0 ≤ k + i
  | [], k, acc, q, h => .inl h
  | row :: plan, k, acc, q, h => by
    rw [keyFrom_cons] at h
    rcases keyFrom_sub h with h | ⟨i, r, h1, h2, h3⟩
    · rcases keyRow_sub h with h | ⟨h1, h2⟩
      · exact .inl h
      · exact .inr ⟨0, row, rfl, h1, by omega⟩
    · exact .inr ⟨i + 1, r, by simpa using h1, h2, by omega⟩
theorem keyRow_keys {since : List Nat} {t n : Nat} : ∀ {row acc : List Nat}, Keys n acc → (∀ p ∈ row, p < n) → Keys n (keyRow since t acc row)
  | [], acc, h, _ => h
  | p :: row, acc, h, hr => by
    rw [keyRow_cons]
    refine keyRow_keys ?_ fun q hq => hr q (List.mem_cons_of_mem _ hq)
    split
    · exact h.add (hr p List.mem_cons_self)
    · exact h
theorem keyFrom_keys {since : List Nat} {n : Nat} : ∀ {plan : List (List Nat)} {k : Nat} {acc : List Nat}, Keys n acc → (∀ row ∈ plan, ∀ p ∈ row, p < n) → Keys n (keyFrom since k plan acc)
  | [], k, acc, h, _ => h
  | row :: plan, k, acc, h, hr => by
    rw [keyFrom_cons]
    exact keyFrom_keys (keyRow_keys h (hr row List.mem_cons_self)) fun r hr2 => hr r (List.mem_cons_of_mem _ hr2)
/-- different numbers below n within a list -/
theorem nodup_sub_len : ∀ {a b : List Nat}, a.Nodup → (∀ x ∈ a, x ∈ b) → a.length ≤ b.length
  | [], _, _, _ => by simp
  | x :: a, b, h, k => by
    obtain ⟨h1, h2⟩ := List.nodup_cons.mp h
    have hx := k x List.mem_cons_self
    have := nodup_sub_len (b := b.erase x) h2 fun y hy => (List.mem_erase_of_ne (fun e => h1 (by rw [← e]; exact hy))).mpr (k y (List.mem_cons_of_mem _ hy))
    rw [List.length_erase_of_mem hx] at this
    have := List.length_pos_of_mem hx
    simp only [List.length_cons]
    omega
theorem flat_len {w : Nat} : ∀ {rows : List (List Nat)}, (∀ r ∈ rows, r.length ≤ w) → rows.flatten.length ≤ w * rows.length
  | [], _ => by simp
  | r :: rows, h => by
    have h1 := h r List.mem_cons_self
    have h2 := flat_len fun x hx => h x (List.mem_cons_of_mem _ hx)
    rw [List.flatten_cons, List.length_append, List.length_cons, Nat.mul_succ]
    omega
theorem no_fewer (g : Good many puts width) (hl : plan.length = puts.length) (hr : ∀ row ∈ plan, row.length ≤ width ∧ ∀ p ∈ row, p < many) : leftL many puts width ≤ leftP (sinceL many puts) plan := by
  obtain ⟨u, hu, e⟩ := owed_at g
  have hK : Keys many (keyFrom (sinceL many puts) 0 plan []) := keyFrom_keys ⟨List.nodup_nil, by simp⟩ fun row h => (hr row h).2
  have hKl := hK.len
  -- the keys put late are sent late
  have h1 : ((keyFrom (sinceL many puts) 0 plan []).filter fun p => decide (u ≤ (sinceL many puts).getD p 0)).length ≤ width * (puts.length - u) := by
    refine Nat.le_trans (nodup_sub_len (b := (plan.drop u).flatten) (hK.nd.sublist List.filter_sublist) fun q hq => ?_) ?_
    · obtain ⟨h1, h2⟩ := List.mem_filter.mp hq
      have h2 : u ≤ (sinceL many puts).getD q 0 := by simpa using h2
      rcases keyFrom_sub h1 with h | ⟨i, row, h3, h4, h5⟩
      · cases h
      · refine List.mem_flatten.mpr ⟨row, List.mem_of_getElem? (i := i - u) ?_, h4⟩
        rw [List.getElem?_drop, show u + (i - u) = i by omega]
        exact h3
    · have := flat_len (w := width) (rows := plan.drop u) fun r h => (hr r (List.mem_of_mem_drop h)).1
      rwa [List.length_drop, hl] at this
  -- the pages put late: keys or none
  have h2 : (sinceL many puts).countP (fun s => decide (u ≤ s)) ≤ ((keyFrom (sinceL many puts) 0 plan []).filter fun p => decide (u ≤ (sinceL many puts).getD p 0)).length + (many - (keyFrom (sinceL many puts) 0 plan []).length) := by
    have hc : (sinceL many puts).countP (fun s => decide (u ≤ s)) = ((List.range many).filter fun p => decide (u ≤ (sinceL many puts).getD p 0)).length := by
      rw [since_map, List.countP_map, ← List.countP_eq_length_filter]
      refine List.countP_congr fun p hp => ?_
      rw [← since_map, since_at (List.mem_range.mp hp)]
      rfl
    have hs : ((List.range many).filter fun p => decide (u ≤ (sinceL many puts).getD p 0)).length ≤ ((keyFrom (sinceL many puts) 0 plan []).filter fun p => decide (u ≤ (sinceL many puts).getD p 0)).length + ((List.range many).filter fun p => decide (p ∉ keyFrom (sinceL many puts) 0 plan [])).length := by
      rw [← List.length_append]
      refine nodup_sub_len (List.nodup_range.sublist List.filter_sublist) fun q hq => ?_
      obtain ⟨h3, h4⟩ := List.mem_filter.mp hq
      rw [List.mem_append]
      by_cases h5 : q ∈ keyFrom (sinceL many puts) 0 plan []
      · exact .inl (List.mem_filter.mpr ⟨h5, h4⟩)
      · exact .inr (List.mem_filter.mpr ⟨h3, decide_eq_true h5⟩)
    have hn : ((List.range many).filter fun p => decide (p ∉ keyFrom (sinceL many puts) 0 plan [])).length + (keyFrom (sinceL many puts) 0 plan []).length ≤ many := by
      have : (((List.range many).filter fun p => decide (p ∉ keyFrom (sinceL many puts) 0 plan [])) ++ keyFrom (sinceL many puts) 0 plan []).length ≤ (List.range many).length := by
        refine nodup_sub_len ?_ fun q hq => ?_
        · rw [List.nodup_append]
          refine ⟨List.nodup_range.sublist List.filter_sublist, hK.nd, fun a ha b hb => ?_⟩
          rintro rfl
          simpa [hb] using (List.mem_filter.mp ha).2
        · rcases List.mem_append.mp hq with h | h
          · exact (List.mem_filter.mp h).1
          · exact List.mem_range.mpr (hK.lt q h)
      rwa [List.length_append, List.length_range] at this
    omega
  unfold leftP
  rw [since_len]
  unfold owedL at e
  have hm : ((width * (puts.length - u) : Nat) : Int) = (width : Int) * ((puts.length : Int) - u) := mulcast hu
  omega
/-! ### plans by their numbers -/
def digitL (b : Nat) (n p : Nat) : Nat := n / b ^ p % b
def sendL (many ticks n : Nat) : List (List Nat) := (List.range ticks).map fun t => (List.range many).filter fun p => decide (digitL (ticks + 1) n p = t)
def numL (b : Nat) (f : Nat → Nat) : Nat → Nat
  | 0 => 0
  | k + 1 => numL b f k + f k * b ^ k
theorem num_lt {b : Nat} {f : Nat → Nat} (hf : ∀ p, f p < b) : ∀ k, numL b f k < b ^ k
  | 0 => by simp [numL]
  | k + 1 => by
    have h1 := num_lt hf k
    have h2 := hf k
    unfold numL
    rw [Nat.pow_succ, Nat.mul_comm (b ^ k) b]
    have : (f k + 1) * b ^ k ≤ b * b ^ k := Nat.mul_le_mul_right _ h2
    rw [Nat.add_mul, Nat.one_mul] at this
    omega
theorem num_digit {b : Nat} {f : Nat → Nat} (hb : 0 < b) (hf : ∀ p, f p < b) : ∀ {k p : Nat}, p < k → digitL b (numL b f k) p = f p
  | k + 1, p, h => by
    unfold digitL numL
    by_cases hp : p = k
    · subst hp
      rw [Nat.add_mul_div_right _ _ (Nat.pow_pos hb), Nat.div_eq_of_lt (num_lt hf p), Nat.zero_add, Nat.mod_eq_of_lt (hf p)]
    · have hk : p < k := by omega
      have ih := num_digit hb hf hk
      unfold digitL at ih
      have e : f k * b ^ k = (f k * b ^ (k - p - 1) * b) * b ^ p := by
        rw [Nat.mul_assoc, Nat.mul_assoc, ← Nat.pow_succ', ← Nat.pow_add, show k - p - 1 + p.succ = k by omega]
      rw [e, Nat.add_mul_div_right _ _ (Nat.pow_pos hb), Nat.add_mul_mod_self_right]
      exact ih
theorem send_len {ticks n : Nat} : (sendL many ticks n).length = ticks := by simp [sendL]
theorem send_row {ticks n : Nat} {row : List Nat} (h : row ∈ sendL many ticks n) : row.Pairwise (· < ·) ∧ ∀ p ∈ row, p < many := by
  obtain ⟨t, _, rfl⟩ := List.mem_map.mp h
  exact ⟨List.pairwise_lt_range.sublist List.filter_sublist, fun p hp => List.mem_range.mp (List.mem_filter.mp hp).1⟩
theorem rise_ext : ∀ {a b : List Nat}, a.Pairwise (· < ·) → b.Pairwise (· < ·) → (∀ x, x ∈ a ↔ x ∈ b) → a = b := fun {a b} ha hb h => by
  have hp : a.Perm b := (List.perm_ext_iff_of_nodup (rise_nd ha) (rise_nd hb)).mpr h
  exact List.Perm.eq_of_pairwise (fun x y _ _ h1 h2 => by omega) (ha.imp Nat.le_of_lt) (hb.imp Nat.le_of_lt) hp
/-- the tick in which a plan sends a page -/
def tickOf (plan : List (List Nat)) (p : Nat) : Nat := plan.findIdx fun row => decide (p ∈ row)
theorem tickOf_at (hn : plan.flatten.Nodup) {i : Nat} {row : List Nat} {p : Nat} (hi : plan[i]? = some row) (hp : p ∈ row) : tickOf plan p = i := by
  induction plan generalizing i with
  | nil => simp at hi
  | cons r plan ih =>
    unfold tickOf
    rw [List.findIdx_cons]
    rw [List.flatten_cons, List.nodup_append] at hn
    cases i with
    | zero =>
      simp only [List.getElem?_cons_zero, Option.some.injEq] at hi
      subst hi
      simp [hp]
    | succ i =>
      have hi : plan[i]? = some row := by simpa using hi
      have hpr : p ∉ r := fun z => hn.2.2 p z p (List.mem_flatten.mpr ⟨row, List.mem_of_getElem? hi, hp⟩) rfl
      have := ih hn.2.1 hi
      unfold tickOf at this
      simp [hpr, this]
theorem tickOf_le {p : Nat} : tickOf plan p ≤ plan.length := List.findIdx_le_length
theorem tickOf_in {p t : Nat} (h : tickOf plan p = t) (ht : t < plan.length) : ∃ row, plan[t]? = some row ∧ p ∈ row := by
  unfold tickOf at h
  refine ⟨plan[t], List.getElem?_eq_getElem ht, ?_⟩
  have := List.findIdx_getElem (p := fun row => decide (p ∈ row)) (xs := plan) (w := by omega)
  simp only [h, decide_eq_true_eq] at this
  exact this
theorem send_told (g : Good many puts width) : ∃ n, n < (puts.length + 1) ^ many ∧ sendL many puts.length n = planL many puts width := by
  obtain ⟨_, _, hl, hr, _⟩ := lets_iff.mp (told_lets g)
  have hn := plan_nodup (many := many) (puts := puts) (width := width)
  have hf : ∀ p, tickOf (planL many puts width) p < puts.length + 1 := fun p => by
    have := tickOf_le (plan := planL many puts width) (p := p)
    omega
  refine ⟨numL (puts.length + 1) (tickOf (planL many puts width)) many, num_lt hf many, ?_⟩
  apply List.ext_getElem?
  intro t
  by_cases ht : t < puts.length
  · unfold sendL
    rw [List.getElem?_map, List.getElem?_range ht, List.getElem?_eq_getElem (by omega)]
    refine congrArg some (rise_ext (List.pairwise_lt_range.sublist List.filter_sublist) (hr _ (List.getElem_mem (by omega))).1 fun p => ?_)
    rw [List.mem_filter, List.mem_range, decide_eq_true_eq]
    constructor
    · rintro ⟨hp, e⟩
      rw [num_digit (by omega) hf hp] at e
      obtain ⟨row, h1, h2⟩ := tickOf_in e (by omega)
      rw [List.getElem?_eq_getElem (by omega)] at h1
      rw [Option.some.inj h1]
      exact h2
    · intro hp
      have hlt := (hr _ (List.getElem_mem (by omega))).2.1 p hp
      exact ⟨hlt, by rw [num_digit (by omega) hf hlt]; exact tickOf_at hn (List.getElem?_eq_getElem (by omega)) hp⟩
  · rw [List.getElem?_eq_none (by rw [send_len]; omega), List.getElem?_eq_none (by omega)]
/-- what is let by with the told tick -/
theorem send_lets (g : Good many puts width) {left : Nat} (hl : plan.length = puts.length) (hr : ∀ row ∈ plan, row.Pairwise (· < ·) ∧ (∀ p ∈ row, p < many) ∧ row.length ≤ width) (e : leftP (sinceL many puts) plan = left) :
    letsB many puts width (.tup [.int left, .tup (putsW plan), .int (tickL many puts width)]) = decide (left = leftL many puts width) := by
  obtain ⟨h1, h2, _, _, _, h6, h7⟩ := lets_iff.mp (told_lets g)
  by_cases h : left = leftL many puts width
  · rw [decide_eq_true h, letsB_yes]
    subst h
    exact lets_iff.mpr ⟨h1, h2, hl, hr, e, h6, h7⟩
  · rw [decide_eq_false h, letsB_no]
    intro z
    obtain ⟨_, _, _, _, _, z6, _⟩ := lets_iff.mp z
    rw [h6] at z6
    exact h (by omega)
end
/-! ### plans by numbers: the walks -/
theorem product_ok {b k : Nat} {st : Sto} (hb : b ≤ 5) (hk : k ≤ 4) : f_law_product [.int b, .int k] st = .ok (.int (b ^ k : Nat)) st := by
  refine clean_wp (wp_runN ?_) rfl
  unfold b_law_product
  repeat decreasing_trivial_pre_omega
  refine ws_forS (fun r e s => ∃ (j : Nat) (x : Option W), j + r.length = k ∧ e = [some (.int b), some (.int k), some (.int (b ^ j : Nat)), x] ∧ s = st) ⟨0, _, by simp [rngW], rfl, rfl⟩ ?_ ?_
  · rintro w r e s ⟨j, x, hj, rfl, rfl⟩
    simp only [List.length_cons] at hj
    have hp : b ^ j ≤ 5 ^ 4 := Nat.le_trans (Nat.pow_le_pow_left hb j) (Nat.pow_le_pow_right (by decide) (by omega))
    refine ⟨trivial, ?_⟩
    repeat decreasing_trivial_pre_omega
    refine ⟨j + 1, some w, by omega, ?_, rfl⟩
    rw [Nat.pow_succ]
    simp
  · rintro e s ⟨j, x, hj, rfl, rfl⟩
    simp only [List.length_nil, Nat.add_zero] at hj
    subst hj
    refine ⟨trivial, ?_⟩
    repeat decreasing_trivial_pre_omega
def refsL (b k : Nat) : List W := (List.range k).map fun i => .ref (b + i)
theorem refs_len {b k : Nat} : (refsL b k).length = k := by simp [refsL]
theorem refs_snoc {b k : Nat} : refsL b k ++ [.ref (b + k)] = refsL b (k + 1) := by
  unfold refsL
  rw [List.range_succ, List.map_append]
  rfl
theorem refs_at {b k i : Nat} (h : i < k) : (refsL b k)[i]? = some (.ref (b + i)) := by
  unfold refsL
  rw [List.getElem?_map, List.getElem?_range h]
  rfl
def rowsAt (b n ticks p : Nat) : List (List Nat) := (List.range ticks).map fun t => (List.range p).filter fun q => decide (digitL b n q = t)
def obsR (rows : List (List Nat)) : List Ob := rows.map fun r => .lst (wI8 r)
theorem rowsAt_len {b n ticks p : Nat} : (rowsAt b n ticks p).length = ticks := by simp [rowsAt]
theorem rowsAt_at {b n ticks p t : Nat} (h : t < ticks) : (rowsAt b n ticks p)[t]? = some ((List.range p).filter fun q => decide (digitL b n q = t)) := by
  unfold rowsAt
  rw [List.getElem?_map, List.getElem?_range h]
  rfl
theorem rowsAt_same {b n ticks p : Nat} (h : ticks ≤ digitL b n p) : rowsAt b n ticks (p + 1) = rowsAt b n ticks p := by
  unfold rowsAt
  refine List.map_congr_left fun t ht => ?_
  have := List.mem_range.mp ht
  rw [List.range_succ, List.filter_append]
  have e : ([p].filter fun q => decide (digitL b n q = t)) = [] := by
    rw [List.filter_cons, if_neg (by simp; omega)]
    rfl
  rw [e, List.append_nil]
theorem rowsAt_set {b n ticks p : Nat} (h : digitL b n p < ticks) : rowsAt b n ticks (p + 1) = (rowsAt b n ticks p).set (digitL b n p) (((List.range p).filter fun q => decide (digitL b n q = digitL b n p)) ++ [p]) := by
  apply List.ext_getElem?
  intro t
  by_cases ht : t < ticks
  · rw [rowsAt_at ht, List.range_succ, List.filter_append]
    by_cases e : digitL b n p = t
    · subst e
      rw [List.getElem?_set_self (by rw [rowsAt_len]; exact h)]
      simp
    · rw [List.getElem?_set_ne e, rowsAt_at ht]
      have e2 : ([p].filter fun q => decide (digitL b n q = t)) = [] := by
        rw [List.filter_cons, if_neg (by simpa using e)]
        rfl
      rw [e2, List.append_nil]
  · rw [List.getElem?_eq_none (by rw [rowsAt_len]; omega), List.getElem?_eq_none (by rw [List.length_set, rowsAt_len]; omega)]
theorem sto_in {st : Sto} {o : Ob} {l : List Ob} {t : Nat} : (st ++ o :: l)[st.length + 1 + t]? = l[t]? := by
  rw [List.getElem?_append_right (by omega), show st.length + 1 + t - st.length = t + 1 by omega, List.getElem?_cons_succ]
theorem sto_put {st : Sto} {o x : Ob} {l : List Ob} {t : Nat} : (st ++ o :: l).set (st.length + 1 + t) x = st ++ o :: l.set t x := by
  rw [List.set_append_right _ _ (by omega), show st.length + 1 + t - st.length = t + 1 by omega, List.set_cons_succ]
theorem sto_set0' {st : Sto} {o x : Ob} {l : List Ob} : (st ++ o :: l).set st.length x = st ++ x :: l := by
  rw [List.set_append_right _ _ (by omega), Nat.sub_self, List.set_cons_zero]
def rowAt (s : Sto) (w : W) : List W := (getL s w).getD []
theorem refs_rows {st : Sto} {o : Ob} {rows : List (List Nat)} {g : Sto} : ∀ w ∈ refsL (st.length + 1) rows.length, ∃ (i : Nat) (r : List Nat), w = .ref (st.length + 1 + i) ∧ rows[i]? = some r ∧ (st ++ o :: (obsR rows ++ g))[st.length + 1 + i]? = some (.lst (wI8 r)) := fun w hw => by
  obtain ⟨i, hi, rfl⟩ := List.mem_map.mp hw
  have hi := List.mem_range.mp hi
  refine ⟨i, rows[i], rfl, List.getElem?_eq_getElem hi, ?_⟩
  rw [sto_in, List.getElem?_append_left (by simpa [obsR] using hi)]
  unfold obsR
  rw [List.getElem?_map, List.getElem?_eq_getElem hi]
  rfl
theorem mapM_all {α β : Type} {f : α → Option β} {g : α → β} : ∀ {l : List α}, (∀ x ∈ l, f x = some (g x)) → l.mapM f = some (l.map g)
  | [], _ => rfl
  | x :: l, h => by
    rw [List.mapM_cons, h x List.mem_cons_self, mapM_all fun y hy => h y (List.mem_cons_of_mem _ hy)]
    rfl
theorem toD_ints {st : Sto} {r : List Nat} {k : Nat} : (wI8 r).mapM (toD st (k + 1)) = some (r.map fun n : Nat => PyData.int n) := by
  rw [mapM_all (g := fun w => PyData.int (unI w : Nat)) fun w hw => ?_]
  · unfold wI8
    rw [List.map_map]
    rfl
  · obtain ⟨n, _, rfl⟩ := List.mem_map.mp hw
    rfl
theorem eqv_nil {ds : List PyData} : PyData.eqv (.list ds) (.list []) = ds.isEmpty := by
  cases ds with
  | nil => simp [PyData.eqv, PyData.eqvAll]
  | cons d ds => simp [PyData.eqv, PyData.eqvAll]
/-- a list of lists of whole numbers is compared with the empty one -/
theorem neNil {st : Sto} {n m : Nat} {l : List W} (h1 : st[n]? = some (.lst l)) (h2 : st[m]? = some (.lst [])) (hl : ∀ w ∈ l, ∃ (i : Nat) (r : List Nat), w = .ref i ∧ st[i]? = some (.lst (wI8 r))) : eqW st (.ref n) (.ref m) = some l.isEmpty := by
  have e1 : toD st 64 (.ref m) = some (.list []) := by
    show (match st[m]? with
      | some (.lst l) => (l.mapM (toD st 63)).map PyData.list
      | _ => none) = _
    rw [h2]
    rfl
  have e2 : toD st 64 (.ref n) = some (.list (l.map fun w => PyData.list ((rowAt st w).map fun w => PyData.int (unI w : Nat)))) := by
    show (match st[n]? with
      | some (.lst l) => (l.mapM (toD st 63)).map PyData.list
      | _ => none) = _
    rw [h1]
    show (l.mapM (toD st 63)).map PyData.list = _
    rw [mapM_all (g := fun w => PyData.list ((rowAt st w).map fun w => PyData.int (unI w : Nat))) fun w hw => ?_]
    · rfl
    · obtain ⟨i, r, rfl, h⟩ := hl w hw
      show (match st[i]? with
        | some (.lst l) => (l.mapM (toD st 62)).map PyData.list
        | _ => none) = _
      rw [h]
      show ((wI8 r).mapM (toD st 62)).map PyData.list = _
      rw [toD_ints]
      unfold rowAt
      simp only [getL, h, Option.map_some, Option.getD_some]
      unfold wI8
      rw [List.map_map]
      rfl
  unfold eqW
  show ((toD st 64 (.ref n)).bind fun d => (toD st 64 (.ref m)).map fun e => PyData.eqv d e) = _
  rw [e1, e2, Option.bind_some, Option.map_some, eqv_nil]
  cases l <;> rfl

end Lw

namespace Lw
open PySem PySem.Spec PyProof.Rows L2 Sw
/-- one step; the goal's head says which -/
local macro_rules | `(tactic| decreasing_trivial_pre_omega) => `(tactic| first
  | ((with_reducible refine Sw.gWi ?_); first
    | with_reducible refine Sw.ws_ift ?_
    | with_reducible refine Sw.ws_iff ?_
    | with_reducible refine Sw.ws_ifn ?_
    | ((with_reducible refine Sw.ws_ifd1 ?_ ?_); (focus first | assumption | omega | (simp; done)))
    | ((with_reducible refine Sw.ws_ifd0 ?_ ?_); (focus first | assumption | omega | (simp; done)))
    | ((with_reducible refine Sw.ws_ifb1 ?_ ?_); (focus rfl))
    | ((with_reducible refine Sw.ws_ifb0 ?_ ?_); (focus rfl))
    )
  | ((with_reducible refine Sw.gW ?_); first
    | with_reducible refine Sw.ws_seqS ?_
    | with_reducible refine Sw.ws_ifS ?_
    | with_reducible refine Sw.ws_forN ?_
    | with_reducible refine Sw.ws_seq ?_
    | with_reducible refine Sw.ws_set ?_
    | with_reducible refine Sw.ws_if ?_
    | with_reducible refine Sw.ws_ret ?_
    | with_reducible refine Sw.ws_next ?_
    | with_reducible refine Sw.ws_drop ?_
    | with_reducible refine Sw.ws_for ?_
    | with_reducible refine Sw.ws_asg ?_
    | with_reducible refine Sw.ws_retN ?_
    | with_reducible refine Sw.ws_raise ?_
    | with_reducible refine Sw.ws_raiseD ?_
    | with_reducible refine Sw.ws_gN ?_
    | with_reducible refine Sw.ws_brk ?_
    | with_reducible refine Sw.ws_cnt ?_
    | ((with_reducible apply Sw.ws_aug); rfl)
    | with_reducible refine Sw.ws_gSub ?_
    | with_reducible refine Sw.ws_gsCons ?_
    | with_reducible refine Sw.ws_gsNil ?_
    | ((with_reducible apply Sw.ws_gsConsE); (focus rfl))
    | ((with_reducible apply Sw.ws_gsNilE); (focus rfl))
    | with_reducible refine Sw.ws_par2 ?_
    | with_reducible refine Sw.ws_par3 ?_
    | ((with_reducible refine Sw.ws_gTup ?_ ?_); (focus rfl))
    | ((with_reducible apply Sw.ws_gSeqN); (focus first | rfl | exact getS_at (by assumption) | exact getS_at sto_at | exact getS_at (sto_app (by assumption)) | exact getS_at (sto_app sto_at)); (focus first | rfl | decide | (simp; done) | (simp; omega)))
    | ((with_reducible apply Sw.ws_gStarN); (focus first | rfl | exact getS_at (by assumption) | exact getS_at sto_at | exact getS_at (sto_app (by assumption)) | exact getS_at (sto_app sto_at)); (focus first | decide | (simp; done) | (simp; omega)))
    )
  | ((with_reducible refine Sw.gI ?_); first
    | with_reducible refine Sw.wp_ift ?_
    | with_reducible refine Sw.wp_iff ?_
    | with_reducible refine Sw.wp_ifn ?_
    | ((with_reducible refine Sw.wp_ifd1 ?_ ?_); (focus first | assumption | omega | (simp; done)))
    | ((with_reducible refine Sw.wp_ifd0 ?_ ?_); (focus first | assumption | omega | (simp; done)))
    | ((with_reducible refine Sw.wp_ifb1 ?_ ?_); (focus rfl))
    | ((with_reducible refine Sw.wp_ifb0 ?_ ?_); (focus rfl))
    )
  | ((with_reducible refine Sw.gF ?_); first
    | ((with_reducible apply Sw.v_var); rfl)
    | with_reducible refine Sw.v_c ?_
    | with_reducible refine Sw.v_cons ?_
    | with_reducible refine Sw.v_nil ?_
    | ((with_reducible refine Sw.v_fn ?_))
    | with_reducible refine Sw.v_call ?_
    | ((with_reducible apply Sw.v_ask); (focus rfl); (focus rfl))
    | with_reducible refine Sw.v_bin ?_
    | with_reducible refine Sw.v_cmp ?_
    | with_reducible refine Sw.v_cmpE ?_
    | with_reducible refine Sw.v_tru ?_
    | with_reducible refine Sw.v_notT ?_
    | with_reducible refine Sw.v_andT ?_
    | with_reducible refine Sw.v_orT ?_
    | with_reducible refine Sw.v_and ?_
    | with_reducible refine Sw.v_or ?_
    | with_reducible refine Sw.v_not ?_
    | with_reducible refine Sw.v_if ?_
    | with_reducible refine Sw.v_chn ?_
    | with_reducible refine Sw.v_chnE ?_
    | with_reducible refine Sw.v_tup ?_
    | with_reducible refine Sw.v_lst ?_
    | with_reducible refine Sw.v_sl ?_
    | with_reducible refine Sw.v_no ?_
    | with_reducible refine Sw.v_so ?_
    | with_reducible refine Sw.v_neg ?_
    | with_reducible refine Sw.v_lc ?_
    | with_reducible refine Sw.v_it ?_
    | with_reducible refine Sw.v_seqI ?_
    | with_reducible refine Sw.v_mt ?_
    | with_reducible refine Sw.v_m1 ?_
    | with_reducible refine Sw.v_dict0 ?_
    | with_reducible refine Sw.v_it1 ?_
    )
  | ((with_reducible refine Sw.gO ?_); first
    | with_reducible refine Sw.v_ltI ?_
    | with_reducible refine Sw.v_leI ?_
    | with_reducible refine Sw.v_gtI ?_
    | with_reducible refine Sw.v_geI ?_
    | with_reducible refine Sw.v_eqI ?_
    | with_reducible refine Sw.v_neI ?_
    | with_reducible refine Sw.v_eqS ?_
    | with_reducible refine Sw.v_neS ?_
    | with_reducible refine Sw.v_truB ?_
    | with_reducible refine Sw.v_truI ?_
    | with_reducible refine Sw.v_truN ?_
    | with_reducible refine Sw.v_truT ?_
    | with_reducible refine Sw.v_seqT ?_
    | with_reducible refine Sw.v_seqR ?_
    | with_reducible refine Sw.v_seqS ?_
    | ((with_reducible apply Sw.v_seqL); (focus first | assumption | exact sto_at | exact sto_app (by assumption) | exact sto_app (sto_app (by assumption)) | exact sto_app sto_at | exact sto_app (sto_app sto_at)))
    | with_reducible refine Sw.v_inK ?_
    | with_reducible refine Sw.v_notInK ?_
    | ((with_reducible apply Sw.wp_opt); (focus rfl))
    )
  | ((with_reducible refine Sw.gE ?_); first
    | with_reducible refine Sw.wp_bind ?_
    | with_reducible refine Sw.wp_ok ?_
    | with_reducible refine Sw.v_addI ?_
    | with_reducible refine Sw.v_subI ?_
    | ((with_reducible refine Sw.v_mulI (.inl ?_) ?_); (focus first | decide | omega))
    | ((with_reducible refine Sw.v_mulT ?_ ?_); exact ⟨by simp, by decide, by decide, by simp⟩)
    | ((with_reducible apply Sw.v_mulL); (focus first | assumption | exact sto_at | exact sto_app (by assumption) | exact sto_app (sto_app (by assumption)) | exact sto_app sto_at | exact sto_app (sto_app sto_at)); (focus exact ⟨by decide, by decide, by simp⟩))
    | ((with_reducible refine Sw.v_modI ?_ ?_); (focus first | decide | omega))
    | ((with_reducible refine Sw.v_addT ?_ ?_); refine line1000 ?_; (focus first | decide | (simp; done) | (simp; omega)))
    | ((with_reducible apply Sw.v_powE); (focus decide +kernel); (focus (simp only [Int.reduceToNat, Int.reducePow]; rfl)))
    | ((with_reducible apply Sw.v_ixL); (first | assumption | exact sto_at | exact sto_app (by assumption) | exact sto_app (sto_app (by assumption)) | exact sto_app sto_at | exact sto_app (sto_app sto_at)); (focus first | rfl | assumption | exact atI_nat (by assumption) | exact Sw.atc0 | exact Sw.atc1 | exact Sw.atc2))
    | ((with_reducible apply Sw.v_ixT); (focus first | rfl | assumption | exact atI_nat (by assumption) | exact Sw.atc0 | exact Sw.atc1 | exact Sw.atc2))
    | ((with_reducible apply Sw.v_ixR); (focus first | rfl | assumption | exact atI_nat (by assumption) | exact Sw.atc0 | exact Sw.atc1 | exact Sw.atc2))
    | with_reducible refine Sw.v_slc1 ?_
    | with_reducible refine Sw.v_slc2 ?_
    | ((with_reducible apply Sw.v_slLt1); (focus first | assumption | exact sto_at | exact sto_app (by assumption) | exact sto_app (sto_app (by assumption)) | exact sto_app sto_at | exact sto_app (sto_app sto_at)))
    | ((with_reducible apply Sw.v_slLt2); (focus first | assumption | exact sto_at | exact sto_app (by assumption) | exact sto_app (sto_app (by assumption)) | exact sto_app sto_at | exact sto_app (sto_app sto_at)))
    | ((with_reducible apply Sw.v_slLd1); (focus first | assumption | exact sto_at | exact sto_app (by assumption) | exact sto_app (sto_app (by assumption)) | exact sto_app sto_at | exact sto_app (sto_app sto_at)))
    | ((with_reducible apply Sw.v_addL); (focus first | assumption | exact sto_at | exact sto_app (by assumption) | exact sto_app (sto_app (by assumption)) | exact sto_app sto_at | exact sto_app (sto_app sto_at)); (focus first | assumption | exact sto_at | exact sto_app (by assumption) | exact sto_app (sto_app (by assumption)) | exact sto_app sto_at | exact sto_app (sto_app sto_at)); (focus first | decide | (simp; done) | (simp; omega)))
    | with_reducible refine Sw.v_sortSet ?_
    | ((with_reducible refine Sw.v_sl0 ?_ ?_); (focus omega))
    | ((with_reducible refine Sw.v_sl1 ?_ ?_); (focus omega))
    | with_reducible refine Sw.v_lenT ?_
    | with_reducible refine Sw.v_lenR ?_
    | ((with_reducible apply Sw.v_lenL); (focus first | assumption | exact sto_at | exact sto_app (by assumption) | exact sto_app (sto_app (by assumption)) | exact sto_app sto_at | exact sto_app (sto_app sto_at)))
    | ((with_reducible apply Sw.v_appT); (focus first | decide | (simp; done) | (simp; omega)))
    | with_reducible refine Sw.v_intI ?_
    | with_reducible refine Sw.v_intB ?_
    | with_reducible refine Sw.v_absI ?_
    | with_reducible refine Sw.v_max2 ?_
    | with_reducible refine Sw.v_min2 ?_
    | with_reducible refine Sw.v_listT ?_
    | ((with_reducible apply Sw.v_listL); (focus first | assumption | exact sto_at | exact sto_app (by assumption) | exact sto_app (sto_app (by assumption)) | exact sto_app sto_at | exact sto_app (sto_app sto_at)))
    | with_reducible refine Sw.v_tupleT ?_
    | ((with_reducible apply Sw.v_tupleL); (focus first | assumption | exact sto_at | exact sto_app (by assumption) | exact sto_app (sto_app (by assumption)) | exact sto_app sto_at | exact sto_app (sto_app sto_at)))
    | ((with_reducible refine Sw.v_rng1 ?_ ?_); (focus first | exact ⟨by omega, by omega, by omega, by omega⟩ | decide))
    | ((with_reducible refine Sw.v_rng2 ?_ ?_); (focus first | exact ⟨by omega, by omega, by omega, by omega⟩ | decide))
    | with_reducible refine Sw.v_zipT ?_
    | with_reducible refine Sw.v_enumT ?_
    | ((with_reducible apply Sw.v_enumL); (focus first | assumption | exact sto_at | exact sto_app (by assumption) | exact sto_app (sto_app (by assumption)) | exact sto_app sto_at | exact sto_app (sto_app sto_at)))
    | with_reducible refine Sw.v_andI ?_
    | with_reducible refine Sw.v_orI ?_
    | ((with_reducible refine Sw.v_shrI ?_ ?_); decide)
    | ((with_reducible apply Sw.v_allL); (focus first | assumption | exact sto_at | exact sto_app (by assumption) | exact sto_app (sto_app (by assumption)) | exact sto_app sto_at | exact sto_app (sto_app sto_at)))
    | ((with_reducible apply Sw.v_anyL); (focus first | assumption | exact sto_at | exact sto_app (by assumption) | exact sto_app (sto_app (by assumption)) | exact sto_app sto_at | exact sto_app (sto_app sto_at)))
    | with_reducible refine Sw.v_addGI ?_
    | ((with_reducible refine Sw.v_addGT ?_ ?_); refine line1000 ?_; (focus first | decide | (simp; done) | (simp; omega)))
    | ((with_reducible apply Sw.v_ixK); (focus rfl))
    )
  | with_reducible refine ⟨_, rfl, ?_⟩
  | with_reducible refine ⟨_, _, rfl, ?_⟩
  | with_reducible refine ⟨_, _, _, rfl, ?_⟩
  | ((with_reducible refine And.intro ?_ ?_); (focus first | rfl | decide | exact isLst_at sto_at | exact isLst_at (by assumption) | exact isLst_at (sto_app sto_at) | exact isLst_at (sto_app (by assumption)) | (simp; done) | (simp; omega)))
  | exact ⟨[], (List.append_nil _).symm⟩
  | with_reducible rfl
  | with_reducible refine Sw.ex_app ?_
  | exact ⟨_, rfl⟩
  )
def wideB (width : Nat) (rows : List (List Nat)) : Bool := rows.any fun r => decide (width < r.length)
def sentW (width : Nat) (rows : List (List Nat)) : W := if wideB width rows = true then .non else .tup (putsW rows)
theorem dig_next {b n p : Nat} : n / b ^ p / b = n / b ^ (p + 1) := by rw [Nat.div_div_eq_div_mul, Nat.pow_succ]
theorem filt_rows {width : Nat} {s : Sto} : ∀ {l : List W} {rows : List (List Nat)}, l.length = rows.length → (∀ (i : Nat) (w : W), l[i]? = some w → ∃ r, rows[i]? = some r ∧ rowAt s w = wI8 r) → (l.filter fun w => decide (width < (rowAt s w).length)).isEmpty = !wideB width rows
  | [], [], _, _ => rfl
  | w :: l, r :: rows, hl, h => by
    obtain ⟨r', e1, e2⟩ := h 0 w rfl
    simp only [List.getElem?_cons_zero, Option.some.injEq] at e1
    subst e1
    have ih := filt_rows (width := width) (l := l) (rows := rows) (by simpa using hl) fun i w hw => by
      have := h (i + 1) w (by simpa using hw)
      simpa using this
    unfold wideB at ih ⊢
    rw [List.filter_cons, List.any_cons, e2, wI8_len]
    by_cases hw : width < r.length
    · simp [hw]
    · simp only [decide_eq_false hw, Bool.false_eq_true, if_false, Bool.false_or]
      exact ih
theorem rows_tup {s : Sto} : ∀ {l : List W} {rows : List (List Nat)}, l.length = rows.length → (∀ (i : Nat) (w : W), l[i]? = some w → ∃ r, rows[i]? = some r ∧ rowAt s w = wI8 r) → l.map (fun w => W.tup (rowAt s w)) = putsW rows
  | [], [], _, _ => rfl
  | w :: l, r :: rows, hl, h => by
    obtain ⟨r', e1, e2⟩ := h 0 w rfl
    simp only [List.getElem?_cons_zero, Option.some.injEq] at e1
    subst e1
    have ih := rows_tup (l := l) (rows := rows) (by simpa using hl) fun i w hw => by
      have := h (i + 1) w (by simpa using hw)
      simpa using this
    rw [List.map_cons, ih, e2]
    rfl
theorem sending_ok {many ticks width n : Nat} {st : Sto} (hm : many ≤ 4) (ht : ticks ≤ 4) (hw : width ≤ 2) (hn : n ≤ 1000) : f_law_sending [.int many, .int ticks, .int width, .int n] st = .ok (sentW width (sendL many ticks n)) st := by
  refine clean_wp (wp_runN ?_) ?_
  · unfold b_law_sending
    repeat decreasing_trivial_pre_omega
    refine Sw.v_lcS (fun r acc s => ∃ k, k + r.length = ticks ∧ acc = refsL (st.length + 1) k ∧ s = st ++ (Ob.lst acc :: List.replicate k (.lst []))) ⟨0, by simp [rngW], rfl, rfl⟩ ?_ ?_
    · rintro w r acc s ⟨k, hk, rfl, rfl⟩
      simp only [List.length_cons] at hk
      refine ⟨trivial, [some (.int many), some (.int ticks), some (.int width), some (.int n), none, none, some w, none], rfl, ?_⟩
      show wp (An.ok true _) _ _
      refine Sw.wp_ok ?_
      rw [if_pos rfl]
      repeat decreasing_trivial_pre_omega
      have hlen : (st ++ Ob.lst (refsL (st.length + 1) k) :: List.replicate k (.lst [])).length = st.length + 1 + k := by
        simp only [List.length_append, List.length_cons, List.length_replicate]
        omega
      refine ⟨by rw [refs_len]; omega, k + 1, by omega, ?_, ?_⟩
      · rw [hlen, refs_snoc]
      · rw [List.append_assoc, List.cons_append, sto_set0', List.replicate_succ']
    · rintro acc s ⟨k, hk, rfl, rfl⟩
      simp only [List.length_nil, Nat.add_zero] at hk
      subst hk
      refine ⟨trivial, ?_⟩
      repeat decreasing_trivial_pre_omega
      rw [rngW_nat]
      refine ws_forS (fun r e s => ∃ (p : Nat) (x5 x6 x7 : Option W), r = (List.range' p r.length).map (fun i : Nat => W.int i) ∧ p + r.length = many ∧ e = [some (.int many), some (.int k), some (.int width), some (.int (n / (k + 1) ^ p : Nat)), some (.ref st.length), x5, x6, x7] ∧
        s = st ++ (Ob.lst (refsL (st.length + 1) k) :: obsR (rowsAt (k + 1) n k p))) ⟨0, none, none, none, by simp [List.range_eq_range'], by simp, by simp, ?_⟩ ?_ ?_
      · congr 2
        unfold obsR rowsAt
        rw [List.map_map]
        apply List.ext_getElem?
        intro i
        by_cases hi : i < k
        · rw [List.getElem?_replicate, if_pos hi, List.getElem?_map, List.getElem?_range hi]
          rfl
        · rw [List.getElem?_eq_none (by simp; omega), List.getElem?_eq_none (by simp; omega)]
      · rintro w r e s ⟨p, x5, x6, x7, hr, hp, rfl, rfl⟩
        simp only [List.length_cons, List.range'_succ, List.map_cons, List.cons.injEq] at hr hp
        obtain ⟨rfl, hr⟩ := hr
        refine ⟨trivial, ?_⟩
        have e1 : ((n / (k + 1) ^ p : Nat) : Int) % ((k : Int) + 1) = (digitL (k + 1) n p : Nat) := by
          rw [show ((k : Int) + 1) = ((k + 1 : Nat) : Int) by omega]
          rfl
        have e2 : ((n / (k + 1) ^ p : Nat) : Int) / ((k : Int) + 1) = (n / (k + 1) ^ (p + 1) : Nat) := by
          rw [← dig_next, show ((k : Int) + 1) = ((k + 1 : Nat) : Int) by omega]
          rfl
        repeat decreasing_trivial_pre_omega
        rw [e1]
        repeat decreasing_trivial_pre_omega
        refine Sw.v_fdivI ⟨by omega, Nat.lt_of_le_of_lt (m := 5) (by omega) (by decide +kernel)⟩ ?_
        rw [e2]
        repeat decreasing_trivial_pre_omega
        by_cases hd : digitL (k + 1) n p < k
        · have hdi : ((digitL (k + 1) n p : Nat) : Int) < k := by omega
          repeat decreasing_trivial_pre_omega
          refine Sw.v_ixL sto_at (atI_nat (refs_at hd)) ?_
          have hrow : (st ++ Ob.lst (refsL (st.length + 1) k) :: obsR (rowsAt (k + 1) n k p))[st.length + 1 + digitL (k + 1) n p]? = some (.lst (wI8 ((List.range p).filter fun q => decide (digitL (k + 1) n q = digitL (k + 1) n p)))) := by
            rw [sto_in]
            unfold obsR
            rw [List.getElem?_map, rowsAt_at hd]
            rfl
          repeat decreasing_trivial_pre_omega
          refine Sw.v_app hrow (by rw [wI8_len]; have := List.length_filter_le (fun q => decide (digitL (k + 1) n q = digitL (k + 1) n p)) (List.range p); rw [List.length_range] at this; omega) ?_
          refine ⟨p + 1, _, _, _, hr, by omega, rfl, ?_⟩
          rw [wI8_snoc, sto_put, rowsAt_set hd]
          unfold obsR
          rw [List.map_set]
        · have hdi : ¬ ((digitL (k + 1) n p : Nat) : Int) < k := by omega
          repeat decreasing_trivial_pre_omega
          exact ⟨p + 1, _, _, _, hr, by omega, rfl, by rw [rowsAt_same (by omega)]⟩
      · rintro e s ⟨p, x5, x6, x7, hr, hp, rfl, rfl⟩
        simp only [List.length_nil, Nat.add_zero] at hp
        subst hp
        refine ⟨trivial, ?_⟩
        have hs1 : (st ++ Ob.lst (refsL (st.length + 1) k) :: obsR (rowsAt (k + 1) n k p))[st.length]? = some (.lst (refsL (st.length + 1) k)) := sto_at
        have hrl : (rowsAt (k + 1) n k p).length = k := rowsAt_len
        have href := refs_rows (st := st) (o := .lst (refsL (st.length + 1) k)) (rows := rowsAt (k + 1) n k p) (g := [])
        rw [List.append_nil, hrl] at href
        have hsl : sendL p k n = rowsAt (k + 1) n k p := rfl
        rw [hsl]
        obtain ⟨s0, hs0⟩ : ∃ s0, s0 = st ++ Ob.lst (refsL (st.length + 1) k) :: obsR (rowsAt (k + 1) n k p) := ⟨_, rfl⟩
        rw [← hs0] at hs1 href ⊢
        have hrow : ∀ (i : Nat) (w : W), (refsL (st.length + 1) k)[i]? = some w → ∃ r, (rowsAt (k + 1) n k p)[i]? = some r ∧ rowAt s0 w = wI8 r := fun i w hi => by
          have hik : i < k := by
            have := (List.getElem?_eq_some_iff.mp hi).1
            rwa [refs_len] at this
          rw [refs_at hik] at hi
          have hw := Option.some.inj hi
          subst hw
          obtain ⟨j, r, e1, e2, e3⟩ := href _ (List.mem_of_getElem? (refs_at hik))
          have : j = i := by
            injection e1 with e1
            omega
          subst this
          exact ⟨r, e2, by unfold rowAt; simp only [getL, e3, Option.getD_some]⟩
        repeat decreasing_trivial_pre_omega
        refine Sw.v_lcPM (fun w => decide (width < (rowAt s0 w).length)) (fun w => w) (by rw [refs_len]; omega) (fun a => sto_app hs1) (fun acc w hw => ?_) ?_
        · obtain ⟨i, r, rfl, h1, h2⟩ := href w hw
          refine ⟨[some (.int p), some (.int k), some (.int width), some (.int (n / (k + 1) ^ p : Nat)), some (.ref st.length), x5, x6, some (.ref (st.length + 1 + i))], rfl, ?_⟩
          have h3 : (s0 ++ [Ob.lst acc])[st.length + 1 + i]? = some (.lst (wI8 r)) := sto_app h2
          have h4 : rowAt s0 (.ref (st.length + 1 + i)) = wI8 r := by unfold rowAt; simp only [getL, h2, Option.getD_some]
          repeat decreasing_trivial_pre_omega
          refine ⟨?_, rfl, fun _ => ?_⟩
          · rw [h4]
            simp
          · repeat decreasing_trivial_pre_omega
        rw [List.map_id']
        repeat decreasing_trivial_pre_omega
        have hne : eqW (s0 ++ [Ob.lst ((refsL (st.length + 1) k).filter fun w => decide (width < (rowAt s0 w).length))] ++ [.lst []]) (.ref s0.length) (.ref (s0 ++ [Ob.lst ((refsL (st.length + 1) k).filter fun w => decide (width < (rowAt s0 w).length))]).length) = some (!wideB width (rowsAt (k + 1) n k p)) := by
          rw [neNil (l := (refsL (st.length + 1) k).filter fun w => decide (width < (rowAt s0 w).length)) (by rw [List.append_assoc]; exact sto_at) sto_at fun w hw => ?_, filt_rows (by rw [refs_len, hrl]) hrow]
          obtain ⟨i, r, rfl, h1, h2⟩ := href w (List.mem_filter.mp hw).1
          exact ⟨_, r, rfl, sto_app (sto_app h2)⟩
        refine Sw.v_neW hne ?_
        cases hwide : wideB width (rowsAt (k + 1) n k p)
        · repeat decreasing_trivial_pre_omega
          refine Sw.v_lcM (fun w => .tup (rowAt s0 w)) (by rw [refs_len]; omega) (fun a => sto_app (sto_app (sto_app hs1))) (fun acc w hw => ?_) ?_
          · obtain ⟨i, r, rfl, h1, h2⟩ := href w hw
            refine ⟨[some (.int p), some (.int k), some (.int width), some (.int (n / (k + 1) ^ p : Nat)), some (.ref st.length), x5, x6, some (.ref (st.length + 1 + i))], rfl, ?_⟩
            have h4 : rowAt s0 (.ref (st.length + 1 + i)) = wI8 r := by unfold rowAt; simp only [getL, h2, Option.getD_some]
            rw [h4]
            repeat decreasing_trivial_pre_omega
            refine Sw.v_tupleL (sto_app (sto_app (sto_app h2))) ?_
            exact ⟨rfl, rfl⟩
          rw [rows_tup (by rw [refs_len, hrl]) hrow]
          repeat decreasing_trivial_pre_omega
          refine ⟨by unfold sentW; rw [hwide, if_neg (by simp)], ?_⟩
          rw [hs0]
          exact ⟨_, by simp only [List.append_assoc, List.cons_append]; rfl⟩
        · repeat decreasing_trivial_pre_omega
          refine ⟨by unfold sentW; rw [hwide, if_pos rfl], ?_⟩
          rw [hs0]
          exact ⟨_, by simp only [List.append_assoc, List.cons_append]; rfl⟩
  · unfold sentW
    split
    · rfl
    · exact rows_closed

end Lw

namespace Lw
open PySem PySem.Spec PyProof.Rows L2 Sw
/-- one step; the goal's head says which -/
local macro_rules | `(tactic| decreasing_trivial_pre_omega) => `(tactic| first
  | ((with_reducible refine Sw.gWi ?_); first
    | with_reducible refine Sw.ws_ift ?_
    | with_reducible refine Sw.ws_iff ?_
    | with_reducible refine Sw.ws_ifn ?_
    | ((with_reducible refine Sw.ws_ifd1 ?_ ?_); (focus first | assumption | omega | (simp; done)))
    | ((with_reducible refine Sw.ws_ifd0 ?_ ?_); (focus first | assumption | omega | (simp; done)))
    | ((with_reducible refine Sw.ws_ifb1 ?_ ?_); (focus rfl))
    | ((with_reducible refine Sw.ws_ifb0 ?_ ?_); (focus rfl))
    )
  | ((with_reducible refine Sw.gW ?_); first
    | with_reducible refine Sw.ws_seqS ?_
    | with_reducible refine Sw.ws_ifS ?_
    | with_reducible refine Sw.ws_forN ?_
    | with_reducible refine Sw.ws_seq ?_
    | with_reducible refine Sw.ws_set ?_
    | with_reducible refine Sw.ws_if ?_
    | with_reducible refine Sw.ws_ret ?_
    | with_reducible refine Sw.ws_next ?_
    | with_reducible refine Sw.ws_drop ?_
    | with_reducible refine Sw.ws_for ?_
    | with_reducible refine Sw.ws_asg ?_
    | with_reducible refine Sw.ws_retN ?_
    | with_reducible refine Sw.ws_raise ?_
    | with_reducible refine Sw.ws_raiseD ?_
    | with_reducible refine Sw.ws_gN ?_
    | with_reducible refine Sw.ws_brk ?_
    | with_reducible refine Sw.ws_cnt ?_
    | ((with_reducible apply Sw.ws_aug); rfl)
    | with_reducible refine Sw.ws_gSub ?_
    | with_reducible refine Sw.ws_gsCons ?_
    | with_reducible refine Sw.ws_gsNil ?_
    | ((with_reducible apply Sw.ws_gsConsE); (focus rfl))
    | ((with_reducible apply Sw.ws_gsNilE); (focus rfl))
    | with_reducible refine Sw.ws_par2 ?_
    | with_reducible refine Sw.ws_par3 ?_
    | ((with_reducible refine Sw.ws_gTup ?_ ?_); (focus rfl))
    | ((with_reducible apply Sw.ws_gSeqN); (focus first | rfl | exact getS_at (by assumption) | exact getS_at sto_at | exact getS_at (sto_app (by assumption)) | exact getS_at (sto_app sto_at)); (focus first | rfl | decide | (simp; done) | (simp; omega)))
    | ((with_reducible apply Sw.ws_gStarN); (focus first | rfl | exact getS_at (by assumption) | exact getS_at sto_at | exact getS_at (sto_app (by assumption)) | exact getS_at (sto_app sto_at)); (focus first | decide | (simp; done) | (simp; omega)))
    )
  | ((with_reducible refine Sw.gI ?_); first
    | with_reducible refine Sw.wp_ift ?_
    | with_reducible refine Sw.wp_iff ?_
    | with_reducible refine Sw.wp_ifn ?_
    | ((with_reducible refine Sw.wp_ifd1 ?_ ?_); (focus first | assumption | omega | (simp; done)))
    | ((with_reducible refine Sw.wp_ifd0 ?_ ?_); (focus first | assumption | omega | (simp; done)))
    | ((with_reducible refine Sw.wp_ifb1 ?_ ?_); (focus rfl))
    | ((with_reducible refine Sw.wp_ifb0 ?_ ?_); (focus rfl))
    )
  | ((with_reducible refine Sw.gF ?_); first
    | ((with_reducible apply Sw.v_var); rfl)
    | with_reducible refine Sw.v_c ?_
    | with_reducible refine Sw.v_cons ?_
    | with_reducible refine Sw.v_nil ?_
    | ((with_reducible refine Sw.v_fn ?_))
    | with_reducible refine Sw.v_call ?_
    | ((with_reducible apply Sw.v_ask); (focus rfl); (focus rfl))
    | with_reducible refine Sw.v_bin ?_
    | with_reducible refine Sw.v_cmp ?_
    | with_reducible refine Sw.v_cmpE ?_
    | with_reducible refine Sw.v_tru ?_
    | with_reducible refine Sw.v_notT ?_
    | with_reducible refine Sw.v_andT ?_
    | with_reducible refine Sw.v_orT ?_
    | with_reducible refine Sw.v_and ?_
    | with_reducible refine Sw.v_or ?_
    | with_reducible refine Sw.v_not ?_
    | with_reducible refine Sw.v_if ?_
    | with_reducible refine Sw.v_chn ?_
    | with_reducible refine Sw.v_chnE ?_
    | with_reducible refine Sw.v_tup ?_
    | with_reducible refine Sw.v_lst ?_
    | with_reducible refine Sw.v_sl ?_
    | with_reducible refine Sw.v_no ?_
    | with_reducible refine Sw.v_so ?_
    | with_reducible refine Sw.v_neg ?_
    | with_reducible refine Sw.v_lc ?_
    | with_reducible refine Sw.v_it ?_
    | with_reducible refine Sw.v_seqI ?_
    | with_reducible refine Sw.v_mt ?_
    | with_reducible refine Sw.v_m1 ?_
    | with_reducible refine Sw.v_dict0 ?_
    | with_reducible refine Sw.v_it1 ?_
    )
  | ((with_reducible refine Sw.gO ?_); first
    | with_reducible refine Sw.v_ltI ?_
    | with_reducible refine Sw.v_leI ?_
    | with_reducible refine Sw.v_gtI ?_
    | with_reducible refine Sw.v_geI ?_
    | with_reducible refine Sw.v_eqI ?_
    | with_reducible refine Sw.v_neI ?_
    | with_reducible refine Sw.v_eqS ?_
    | with_reducible refine Sw.v_neS ?_
    | with_reducible refine Sw.v_truB ?_
    | with_reducible refine Sw.v_truI ?_
    | with_reducible refine Sw.v_truN ?_
    | with_reducible refine Sw.v_truT ?_
    | with_reducible refine Sw.v_seqT ?_
    | with_reducible refine Sw.v_seqR ?_
    | with_reducible refine Sw.v_seqS ?_
    | ((with_reducible apply Sw.v_seqL); (focus first | assumption | exact sto_at | exact sto_app (by assumption) | exact sto_app (sto_app (by assumption)) | exact sto_app sto_at | exact sto_app (sto_app sto_at)))
    | with_reducible refine Sw.v_inK ?_
    | with_reducible refine Sw.v_notInK ?_
    | ((with_reducible apply Sw.wp_opt); (focus rfl))
    )
  | ((with_reducible refine Sw.gE ?_); first
    | with_reducible refine Sw.wp_bind ?_
    | with_reducible refine Sw.wp_ok ?_
    | with_reducible refine Sw.v_addI ?_
    | with_reducible refine Sw.v_subI ?_
    | ((with_reducible refine Sw.v_mulI (.inl ?_) ?_); (focus first | decide | omega))
    | ((with_reducible refine Sw.v_mulT ?_ ?_); exact ⟨by simp, by decide, by decide, by simp⟩)
    | ((with_reducible apply Sw.v_mulL); (focus first | assumption | exact sto_at | exact sto_app (by assumption) | exact sto_app (sto_app (by assumption)) | exact sto_app sto_at | exact sto_app (sto_app sto_at)); (focus exact ⟨by decide, by decide, by simp⟩))
    | ((with_reducible refine Sw.v_modI ?_ ?_); (focus first | decide | omega))
    | ((with_reducible refine Sw.v_addT ?_ ?_); refine line1000 ?_; (focus first | decide | (simp; done) | (simp; omega)))
    | ((with_reducible apply Sw.v_powE); (focus decide +kernel); (focus (simp only [Int.reduceToNat, Int.reducePow]; rfl)))
    | ((with_reducible apply Sw.v_ixL); (first | assumption | exact sto_at | exact sto_app (by assumption) | exact sto_app (sto_app (by assumption)) | exact sto_app sto_at | exact sto_app (sto_app sto_at)); (focus first | rfl | assumption | exact atI_nat (by assumption) | exact Sw.atc0 | exact Sw.atc1 | exact Sw.atc2))
    | ((with_reducible apply Sw.v_ixT); (focus first | rfl | assumption | exact atI_nat (by assumption) | exact Sw.atc0 | exact Sw.atc1 | exact Sw.atc2))
    | ((with_reducible apply Sw.v_ixR); (focus first | rfl | assumption | exact atI_nat (by assumption) | exact Sw.atc0 | exact Sw.atc1 | exact Sw.atc2))
    | with_reducible refine Sw.v_slc1 ?_
    | with_reducible refine Sw.v_slc2 ?_
    | ((with_reducible apply Sw.v_slLt1); (focus first | assumption | exact sto_at | exact sto_app (by assumption) | exact sto_app (sto_app (by assumption)) | exact sto_app sto_at | exact sto_app (sto_app sto_at)))
    | ((with_reducible apply Sw.v_slLt2); (focus first | assumption | exact sto_at | exact sto_app (by assumption) | exact sto_app (sto_app (by assumption)) | exact sto_app sto_at | exact sto_app (sto_app sto_at)))
    | ((with_reducible apply Sw.v_slLd1); (focus first | assumption | exact sto_at | exact sto_app (by assumption) | exact sto_app (sto_app (by assumption)) | exact sto_app sto_at | exact sto_app (sto_app sto_at)))
    | ((with_reducible apply Sw.v_addL); (focus first | assumption | exact sto_at | exact sto_app (by assumption) | exact sto_app (sto_app (by assumption)) | exact sto_app sto_at | exact sto_app (sto_app sto_at)); (focus first | assumption | exact sto_at | exact sto_app (by assumption) | exact sto_app (sto_app (by assumption)) | exact sto_app sto_at | exact sto_app (sto_app sto_at)); (focus first | decide | (simp; done) | (simp; omega)))
    | with_reducible refine Sw.v_sortSet ?_
    | ((with_reducible refine Sw.v_sl0 ?_ ?_); (focus omega))
    | ((with_reducible refine Sw.v_sl1 ?_ ?_); (focus omega))
    | with_reducible refine Sw.v_lenT ?_
    | with_reducible refine Sw.v_lenR ?_
    | ((with_reducible apply Sw.v_lenL); (focus first | assumption | exact sto_at | exact sto_app (by assumption) | exact sto_app (sto_app (by assumption)) | exact sto_app sto_at | exact sto_app (sto_app sto_at)))
    | ((with_reducible apply Sw.v_appT); (focus first | decide | (simp; done) | (simp; omega)))
    | with_reducible refine Sw.v_intI ?_
    | with_reducible refine Sw.v_intB ?_
    | with_reducible refine Sw.v_absI ?_
    | with_reducible refine Sw.v_max2 ?_
    | with_reducible refine Sw.v_min2 ?_
    | with_reducible refine Sw.v_listT ?_
    | ((with_reducible apply Sw.v_listL); (focus first | assumption | exact sto_at | exact sto_app (by assumption) | exact sto_app (sto_app (by assumption)) | exact sto_app sto_at | exact sto_app (sto_app sto_at)))
    | with_reducible refine Sw.v_tupleT ?_
    | ((with_reducible apply Sw.v_tupleL); (focus first | assumption | exact sto_at | exact sto_app (by assumption) | exact sto_app (sto_app (by assumption)) | exact sto_app sto_at | exact sto_app (sto_app sto_at)))
    | ((with_reducible refine Sw.v_rng1 ?_ ?_); (focus first | exact ⟨by omega, by omega, by omega, by omega⟩ | decide))
    | ((with_reducible refine Sw.v_rng2 ?_ ?_); (focus first | exact ⟨by omega, by omega, by omega, by omega⟩ | decide))
    | with_reducible refine Sw.v_zipT ?_
    | with_reducible refine Sw.v_enumT ?_
    | ((with_reducible apply Sw.v_enumL); (focus first | assumption | exact sto_at | exact sto_app (by assumption) | exact sto_app (sto_app (by assumption)) | exact sto_app sto_at | exact sto_app (sto_app sto_at)))
    | with_reducible refine Sw.v_andI ?_
    | with_reducible refine Sw.v_orI ?_
    | ((with_reducible refine Sw.v_shrI ?_ ?_); decide)
    | ((with_reducible apply Sw.v_allL); (focus first | assumption | exact sto_at | exact sto_app (by assumption) | exact sto_app (sto_app (by assumption)) | exact sto_app sto_at | exact sto_app (sto_app sto_at)))
    | ((with_reducible apply Sw.v_anyL); (focus first | assumption | exact sto_at | exact sto_app (by assumption) | exact sto_app (sto_app (by assumption)) | exact sto_app sto_at | exact sto_app (sto_app sto_at)))
    | with_reducible refine Sw.v_addGI ?_
    | ((with_reducible refine Sw.v_addGT ?_ ?_); refine line1000 ?_; (focus first | decide | (simp; done) | (simp; omega)))
    | ((with_reducible apply Sw.v_ixK); (focus rfl))
    )
  | with_reducible refine ⟨_, rfl, ?_⟩
  | with_reducible refine ⟨_, _, rfl, ?_⟩
  | with_reducible refine ⟨_, _, _, rfl, ?_⟩
  | ((with_reducible refine And.intro ?_ ?_); (focus first | rfl | decide | exact isLst_at sto_at | exact isLst_at (by assumption) | exact isLst_at (sto_app sto_at) | exact isLst_at (sto_app (by assumption)) | (simp; done) | (simp; omega)))
  | exact ⟨[], (List.append_nil _).symm⟩
  | with_reducible rfl
  | with_reducible refine Sw.ex_app ?_
  | exact ⟨_, rfl⟩
  )
def TinyR (w : W) : Prop := ∃ (many : Nat) (puts : List (List Nat)) (width : Nat), w = .tup [.int many, .tup (putsW puts), .int width] ∧ Good many puts width ∧ many ≤ 4 ∧ puts.length ≤ 4 ∧ width ≤ 2
def bitB (mask : Int) : W → Bool
  | .int i => decide (Builtin.bitAnd (mask / 2 ^ i.toNat) 1 = 1)
  | _ => false
theorem tiny_wp {st : Sto} {n : Nat} {c : Int} (P : Pot st n c) (hc : c ≤ 10 ^ 8) : wp (f_law_tiny [.ref n] st) (Drw n st (c + 100) TinyR) noX := by
  have b8 := b800
  refine wp_cleanD P.lt (wp_runN ?_)
  unfold b_law_tiny
  rw [e_take]
  repeat decreasing_trivial_pre_omega
  refine wp_use (take_wp P (by omega) (by omega) (by omega)) ?_
  rintro _ s1 ⟨v1, rfl, h1, K1, P1⟩
  repeat decreasing_trivial_pre_omega
  refine wp_use (take_wp P1.app (by omega) (by omega) (by omega)) ?_
  rintro _ s2 ⟨ticks, rfl, h2, K2, P2⟩
  have L1 : n < s1.length := P1.lt
  obtain ⟨many, hmany⟩ : ∃ many : Nat, many = 1 + v1 := ⟨_, rfl⟩
  rw [show (1 : Int) + (v1 : Int) = (many : Int) by omega]
  repeat decreasing_trivial_pre_omega
  rw [rngW_nat]
  refine ws_forS (fun r e s => ∃ (rest : List Nat) (puts : List (List Nat)) (x3 x4 x5 : Option W) (d : Int), r = rest.map (fun i : Nat => W.int i) ∧ puts.length + rest.length = ticks ∧ (∀ row ∈ puts, row.Pairwise (· < ·) ∧ ∀ p ∈ row, p < many) ∧ Keep n (s1 ++ [.lst []]) (s.set s1.length (.lst [])) ∧ s[s1.length]? = some (.lst (putsW puts)) ∧ Pot s n d ∧ d ≤ c + 2 + puts.length ∧
    e = [some (.ref n), some (.int many), some (.ref s1.length), x3, x4, x5])
    ⟨_, [], _, _, _, c + 2, rfl, by simp, by simp, ?_, K2.at sto_at (by omega), P2.mono (by omega), by simp, rfl⟩ ?_ ?_
  · have := Keep.both (m := s1.length) (o := .lst []) K2
    rwa [sto_set0] at this
  · rintro w r e s ⟨rest, puts, x3, x4, x5, d, hr, hl, hrows, K, hs, P8, hd, rfl⟩
    cases rest with
    | nil => cases hr
    | cons p rest =>
      simp only [List.map_cons, List.cons.injEq] at hr
      obtain ⟨rfl, rfl⟩ := hr
      simp only [List.length_cons] at hl
      refine ⟨trivial, ?_⟩
      repeat decreasing_trivial_pre_omega
      refine wp_use (take_wp P8 (by omega) (by omega) (by omega)) ?_
      rintro _ s8 ⟨mask, rfl, h8, K8, P8⟩
      have hs80 : s8[s1.length]? = some (.lst (putsW puts)) := K8.at hs (by omega)
      repeat decreasing_trivial_pre_omega
      rw [rngW_nat]
      refine Sw.v_lcPM (bitB mask) (fun w => w) (by simp; omega) (fun _ => trivial) (fun acc w hw => ?_) ?_
      · obtain ⟨i, hi, rfl⟩ := List.mem_map.mp hw
        have hi := List.mem_range.mp hi
        refine ⟨[some (.ref n), some (.int many), some (.ref s1.length), some (.int p), some (.int mask), some (.int i)], rfl, ?_⟩
        repeat decreasing_trivial_pre_omega
        refine ⟨rfl, rfl, fun _ => ?_⟩
        repeat decreasing_trivial_pre_omega
      rw [List.map_id']
      have e : (((List.range many).map fun i : Nat => W.int i).filter (bitB mask)) = wI8 ((List.range many).filter fun i : Nat => bitB mask (.int i)) := by
        unfold wI8
        rw [List.filter_map]
        rfl
      rw [e]
      repeat decreasing_trivial_pre_omega
      have hs8 : (s8 ++ [Ob.lst (wI8 ((List.range many).filter fun i : Nat => bitB mask (.int i)))])[s1.length]? = some (.lst (putsW puts)) := sto_app (K8.at hs (by omega))
      have hlen := putsW_len (puts := puts)
      refine Sw.v_app hs8 (by omega) ?_
      rw [putsW_snoc]
      refine ⟨rest, puts ++ [(List.range many).filter fun i : Nat => bitB mask (.int i)], _, _, _, d + 1, rfl, by simp; omega, ?_, ?_, List.getElem?_set_self (sto_lt hs8), Sw.Pot.at' P8.app (by omega), by simp; omega, rfl⟩
      · intro x hx
        rcases List.mem_append.mp hx with hx | hx
        · exact hrows x hx
        · rw [List.mem_singleton.mp hx]
          exact ⟨List.pairwise_lt_range.sublist List.filter_sublist, fun q hq => List.mem_range.mp (List.mem_filter.mp hq).1⟩
      · rw [List.set_set]
        exact K.trans (Keep.both (K8.trans Keep.app))
  · rintro e s ⟨rest, puts, x3, x4, x5, d, hr, hl, hrows, K, hs, P8, hd, rfl⟩
    cases rest with
    | cons _ _ => cases hr
    | nil =>
      refine ⟨trivial, ?_⟩
      simp only [List.length_nil] at hl
      repeat decreasing_trivial_pre_omega
      refine wp_use (take_wp P8 (by omega) (by omega) (by omega)) ?_
      rintro _ s8 ⟨width, rfl, h8, K8, P8⟩
      repeat decreasing_trivial_pre_omega
      refine ⟨⟨many, puts, width, rfl, ⟨by omega, by omega, by omega, by omega, hrows⟩, by omega, by omega, by omega⟩, ?_, P8.mono (by omega)⟩
      have K2 : Keep n s1 (s8.set s1.length (.lst [])) := Keep.app.trans (K.trans (Keep.both K8))
      refine ⟨by have := K1.le; have := K2.le; simp at this; omega, fun j h1 h2 => ?_⟩
      have h3 := K1.eq j h1 h2
      have h4 := K2.eq j h1 (by have := K1.le; omega)
      rw [List.getElem?_set_ne (by have := K1.le; omega)] at h4
      rw [h4, h3]

end Lw

namespace Lw
open PySem PySem.Spec PyProof.Rows L2 Sw
/-- one step; the goal's head says which -/
local macro_rules | `(tactic| decreasing_trivial_pre_omega) => `(tactic| first
  | ((with_reducible refine Sw.gWi ?_); first
    | with_reducible refine Sw.ws_ift ?_
    | with_reducible refine Sw.ws_iff ?_
    | with_reducible refine Sw.ws_ifn ?_
    | ((with_reducible refine Sw.ws_ifd1 ?_ ?_); (focus first | assumption | omega | (simp; done)))
    | ((with_reducible refine Sw.ws_ifd0 ?_ ?_); (focus first | assumption | omega | (simp; done)))
    | ((with_reducible refine Sw.ws_ifb1 ?_ ?_); (focus rfl))
    | ((with_reducible refine Sw.ws_ifb0 ?_ ?_); (focus rfl))
    )
  | ((with_reducible refine Sw.gW ?_); first
    | with_reducible refine Sw.ws_seqS ?_
    | with_reducible refine Sw.ws_ifS ?_
    | with_reducible refine Sw.ws_forN ?_
    | with_reducible refine Sw.ws_seq ?_
    | with_reducible refine Sw.ws_set ?_
    | with_reducible refine Sw.ws_if ?_
    | with_reducible refine Sw.ws_ret ?_
    | with_reducible refine Sw.ws_next ?_
    | with_reducible refine Sw.ws_drop ?_
    | with_reducible refine Sw.ws_for ?_
    | with_reducible refine Sw.ws_asg ?_
    | with_reducible refine Sw.ws_retN ?_
    | with_reducible refine Sw.ws_raise ?_
    | with_reducible refine Sw.ws_raiseD ?_
    | with_reducible refine Sw.ws_gN ?_
    | with_reducible refine Sw.ws_brk ?_
    | with_reducible refine Sw.ws_cnt ?_
    | ((with_reducible apply Sw.ws_aug); rfl)
    | with_reducible refine Sw.ws_gSub ?_
    | with_reducible refine Sw.ws_gsCons ?_
    | with_reducible refine Sw.ws_gsNil ?_
    | ((with_reducible apply Sw.ws_gsConsE); (focus rfl))
    | ((with_reducible apply Sw.ws_gsNilE); (focus rfl))
    | with_reducible refine Sw.ws_par2 ?_
    | with_reducible refine Sw.ws_par3 ?_
    | ((with_reducible refine Sw.ws_gTup ?_ ?_); (focus rfl))
    | ((with_reducible apply Sw.ws_gSeqN); (focus first | rfl | exact getS_at (by assumption) | exact getS_at sto_at | exact getS_at (sto_app (by assumption)) | exact getS_at (sto_app sto_at)); (focus first | rfl | decide | (simp; done) | (simp; omega)))
    | ((with_reducible apply Sw.ws_gStarN); (focus first | rfl | exact getS_at (by assumption) | exact getS_at sto_at | exact getS_at (sto_app (by assumption)) | exact getS_at (sto_app sto_at)); (focus first | decide | (simp; done) | (simp; omega)))
    )
  | ((with_reducible refine Sw.gI ?_); first
    | with_reducible refine Sw.wp_ift ?_
    | with_reducible refine Sw.wp_iff ?_
    | with_reducible refine Sw.wp_ifn ?_
    | ((with_reducible refine Sw.wp_ifd1 ?_ ?_); (focus first | assumption | omega | (simp; done)))
    | ((with_reducible refine Sw.wp_ifd0 ?_ ?_); (focus first | assumption | omega | (simp; done)))
    | ((with_reducible refine Sw.wp_ifb1 ?_ ?_); (focus rfl))
    | ((with_reducible refine Sw.wp_ifb0 ?_ ?_); (focus rfl))
    )
  | ((with_reducible refine Sw.gF ?_); first
    | ((with_reducible apply Sw.v_var); rfl)
    | with_reducible refine Sw.v_c ?_
    | with_reducible refine Sw.v_cons ?_
    | with_reducible refine Sw.v_nil ?_
    | ((with_reducible refine Sw.v_fn ?_))
    | with_reducible refine Sw.v_call ?_
    | ((with_reducible apply Sw.v_ask); (focus rfl); (focus rfl))
    | with_reducible refine Sw.v_bin ?_
    | with_reducible refine Sw.v_cmp ?_
    | with_reducible refine Sw.v_cmpE ?_
    | with_reducible refine Sw.v_tru ?_
    | with_reducible refine Sw.v_notT ?_
    | with_reducible refine Sw.v_andT ?_
    | with_reducible refine Sw.v_orT ?_
    | with_reducible refine Sw.v_and ?_
    | with_reducible refine Sw.v_or ?_
    | with_reducible refine Sw.v_not ?_
    | with_reducible refine Sw.v_if ?_
    | with_reducible refine Sw.v_chn ?_
    | with_reducible refine Sw.v_chnE ?_
    | with_reducible refine Sw.v_tup ?_
    | with_reducible refine Sw.v_lst ?_
    | with_reducible refine Sw.v_sl ?_
    | with_reducible refine Sw.v_no ?_
    | with_reducible refine Sw.v_so ?_
    | with_reducible refine Sw.v_neg ?_
    | with_reducible refine Sw.v_lc ?_
    | with_reducible refine Sw.v_it ?_
    | with_reducible refine Sw.v_seqI ?_
    | with_reducible refine Sw.v_mt ?_
    | with_reducible refine Sw.v_m1 ?_
    | with_reducible refine Sw.v_dict0 ?_
    | with_reducible refine Sw.v_it1 ?_
    )
  | ((with_reducible refine Sw.gO ?_); first
    | with_reducible refine Sw.v_ltI ?_
    | with_reducible refine Sw.v_leI ?_
    | with_reducible refine Sw.v_gtI ?_
    | with_reducible refine Sw.v_geI ?_
    | with_reducible refine Sw.v_eqI ?_
    | with_reducible refine Sw.v_neI ?_
    | with_reducible refine Sw.v_eqS ?_
    | with_reducible refine Sw.v_neS ?_
    | with_reducible refine Sw.v_truB ?_
    | with_reducible refine Sw.v_truI ?_
    | with_reducible refine Sw.v_truN ?_
    | with_reducible refine Sw.v_truT ?_
    | with_reducible refine Sw.v_seqT ?_
    | with_reducible refine Sw.v_seqR ?_
    | with_reducible refine Sw.v_seqS ?_
    | ((with_reducible apply Sw.v_seqL); (focus first | assumption | exact sto_at | exact sto_app (by assumption) | exact sto_app (sto_app (by assumption)) | exact sto_app sto_at | exact sto_app (sto_app sto_at)))
    | with_reducible refine Sw.v_inK ?_
    | with_reducible refine Sw.v_notInK ?_
    | ((with_reducible apply Sw.wp_opt); (focus rfl))
    )
  | ((with_reducible refine Sw.gE ?_); first
    | with_reducible refine Sw.wp_bind ?_
    | with_reducible refine Sw.wp_ok ?_
    | with_reducible refine Sw.v_addI ?_
    | with_reducible refine Sw.v_subI ?_
    | ((with_reducible refine Sw.v_mulI (.inl ?_) ?_); (focus first | decide | omega))
    | ((with_reducible refine Sw.v_mulT ?_ ?_); exact ⟨by simp, by decide, by decide, by simp⟩)
    | ((with_reducible apply Sw.v_mulL); (focus first | assumption | exact sto_at | exact sto_app (by assumption) | exact sto_app (sto_app (by assumption)) | exact sto_app sto_at | exact sto_app (sto_app sto_at)); (focus exact ⟨by decide, by decide, by simp⟩))
    | ((with_reducible refine Sw.v_modI ?_ ?_); (focus first | decide | omega))
    | ((with_reducible refine Sw.v_addT ?_ ?_); refine line1000 ?_; (focus first | decide | (simp; done) | (simp; omega)))
    | ((with_reducible apply Sw.v_powE); (focus decide +kernel); (focus (simp only [Int.reduceToNat, Int.reducePow]; rfl)))
    | ((with_reducible apply Sw.v_ixL); (first | assumption | exact sto_at | exact sto_app (by assumption) | exact sto_app (sto_app (by assumption)) | exact sto_app sto_at | exact sto_app (sto_app sto_at)); (focus first | rfl | assumption | exact atI_nat (by assumption) | exact Sw.atc0 | exact Sw.atc1 | exact Sw.atc2))
    | ((with_reducible apply Sw.v_ixT); (focus first | rfl | assumption | exact atI_nat (by assumption) | exact Sw.atc0 | exact Sw.atc1 | exact Sw.atc2))
    | ((with_reducible apply Sw.v_ixR); (focus first | rfl | assumption | exact atI_nat (by assumption) | exact Sw.atc0 | exact Sw.atc1 | exact Sw.atc2))
    | with_reducible refine Sw.v_slc1 ?_
    | with_reducible refine Sw.v_slc2 ?_
    | ((with_reducible apply Sw.v_slLt1); (focus first | assumption | exact sto_at | exact sto_app (by assumption) | exact sto_app (sto_app (by assumption)) | exact sto_app sto_at | exact sto_app (sto_app sto_at)))
    | ((with_reducible apply Sw.v_slLt2); (focus first | assumption | exact sto_at | exact sto_app (by assumption) | exact sto_app (sto_app (by assumption)) | exact sto_app sto_at | exact sto_app (sto_app sto_at)))
    | ((with_reducible apply Sw.v_slLd1); (focus first | assumption | exact sto_at | exact sto_app (by assumption) | exact sto_app (sto_app (by assumption)) | exact sto_app sto_at | exact sto_app (sto_app sto_at)))
    | ((with_reducible apply Sw.v_addL); (focus first | assumption | exact sto_at | exact sto_app (by assumption) | exact sto_app (sto_app (by assumption)) | exact sto_app sto_at | exact sto_app (sto_app sto_at)); (focus first | assumption | exact sto_at | exact sto_app (by assumption) | exact sto_app (sto_app (by assumption)) | exact sto_app sto_at | exact sto_app (sto_app sto_at)); (focus first | decide | (simp; done) | (simp; omega)))
    | with_reducible refine Sw.v_sortSet ?_
    | ((with_reducible refine Sw.v_sl0 ?_ ?_); (focus omega))
    | ((with_reducible refine Sw.v_sl1 ?_ ?_); (focus omega))
    | with_reducible refine Sw.v_lenT ?_
    | with_reducible refine Sw.v_lenR ?_
    | ((with_reducible apply Sw.v_lenL); (focus first | assumption | exact sto_at | exact sto_app (by assumption) | exact sto_app (sto_app (by assumption)) | exact sto_app sto_at | exact sto_app (sto_app sto_at)))
    | ((with_reducible apply Sw.v_appT); (focus first | decide | (simp; done) | (simp; omega)))
    | with_reducible refine Sw.v_intI ?_
    | with_reducible refine Sw.v_intB ?_
    | with_reducible refine Sw.v_absI ?_
    | with_reducible refine Sw.v_max2 ?_
    | with_reducible refine Sw.v_min2 ?_
    | with_reducible refine Sw.v_listT ?_
    | ((with_reducible apply Sw.v_listL); (focus first | assumption | exact sto_at | exact sto_app (by assumption) | exact sto_app (sto_app (by assumption)) | exact sto_app sto_at | exact sto_app (sto_app sto_at)))
    | with_reducible refine Sw.v_tupleT ?_
    | ((with_reducible apply Sw.v_tupleL); (focus first | assumption | exact sto_at | exact sto_app (by assumption) | exact sto_app (sto_app (by assumption)) | exact sto_app sto_at | exact sto_app (sto_app sto_at)))
    | ((with_reducible refine Sw.v_rng1 ?_ ?_); (focus first | exact ⟨by omega, by omega, by omega, by omega⟩ | decide))
    | ((with_reducible refine Sw.v_rng2 ?_ ?_); (focus first | exact ⟨by omega, by omega, by omega, by omega⟩ | decide))
    | with_reducible refine Sw.v_zipT ?_
    | with_reducible refine Sw.v_enumT ?_
    | ((with_reducible apply Sw.v_enumL); (focus first | assumption | exact sto_at | exact sto_app (by assumption) | exact sto_app (sto_app (by assumption)) | exact sto_app sto_at | exact sto_app (sto_app sto_at)))
    | with_reducible refine Sw.v_andI ?_
    | with_reducible refine Sw.v_orI ?_
    | ((with_reducible refine Sw.v_shrI ?_ ?_); decide)
    | ((with_reducible apply Sw.v_allL); (focus first | assumption | exact sto_at | exact sto_app (by assumption) | exact sto_app (sto_app (by assumption)) | exact sto_app sto_at | exact sto_app (sto_app sto_at)))
    | ((with_reducible apply Sw.v_anyL); (focus first | assumption | exact sto_at | exact sto_app (by assumption) | exact sto_app (sto_app (by assumption)) | exact sto_app sto_at | exact sto_app (sto_app sto_at)))
    | with_reducible refine Sw.v_addGI ?_
    | ((with_reducible refine Sw.v_addGT ?_ ?_); refine line1000 ?_; (focus first | decide | (simp; done) | (simp; omega)))
    | ((with_reducible apply Sw.v_ixK); (focus rfl))
    )
  | with_reducible refine ⟨_, rfl, ?_⟩
  | with_reducible refine ⟨_, _, rfl, ?_⟩
  | with_reducible refine ⟨_, _, _, rfl, ?_⟩
  | ((with_reducible refine And.intro ?_ ?_); (focus first | rfl | decide | exact isLst_at sto_at | exact isLst_at (by assumption) | exact isLst_at (sto_app sto_at) | exact isLst_at (sto_app (by assumption)) | (simp; done) | (simp; omega)))
  | exact ⟨[], (List.append_nil _).symm⟩
  | with_reducible rfl
  | with_reducible refine Sw.ex_app ?_
  | exact ⟨_, rfl⟩
  )
theorem plain3_rows {l f : Nat} {plan : List (List Nat)} {st : Sto} (h : plan.length ≤ 1000) (h2 : ∀ r ∈ plan, r.length ≤ 1000) : Plain3 st (.tup [.int l, .tup (putsW plan), .int f]) := by
  refine ⟨TyB.tup, fun l e w hw s => ?_⟩
  cases e
  simp only [List.mem_cons, List.not_mem_nil, or_false] at hw
  rcases hw with rfl | rfl | rfl
  · exact ⟨TyB.int, fun l e => by cases e⟩
  · exact plain_puts h h2
  · exact ⟨TyB.int, fun l e => by cases e⟩
theorem narrow_of {width : Nat} {rows : List (List Nat)} (h : wideB width rows = false) : ∀ r ∈ rows, r.length ≤ width := fun r hr => by
  unfold wideB at h
  rw [← Bool.not_eq_true, List.any_eq_true] at h
  rcases Nat.lt_or_ge width r.length with k | k
  · exact absurd ⟨r, hr, decide_eq_true k⟩ h
  · exact k
theorem narrow_to {width : Nat} {rows : List (List Nat)} (h : ∀ r ∈ rows, r.length ≤ width) : wideB width rows = false := by
  unfold wideB
  rw [← Bool.not_eq_true, List.any_eq_true]
  rintro ⟨r, hr, k⟩
  have := h r hr
  simp at k
  omega
theorem law_wp (l : List Int) (hl : l.length ≤ 63) : wp (f_law [.rol (l.map W.int)] [tabO]) (fun w _ => w = .bl true) noX := by
  refine wp_runN ?_
  unfold b_law
  repeat decreasing_trivial_pre_omega
  refine wp_use (folded_wp (by decide) (by decide)) ?_
  rintro _ _ ⟨a, b, f, rfl, rfl, rfl, hf⟩
  have hcell : ([tabO] ++ [a, Ob.lst (f.map W.int)])[2]? = some (.lst (f.map W.int)) := rfl
  have hf2 : (f.map W.int).length ≤ 10 := by simpa using hf
  repeat decreasing_trivial_pre_omega
  refine ws_forS (fun r e s => (∀ w ∈ r, ∃ k : Nat, w = .int k ∧ k ≤ 100) ∧ s[0]? = some tabO ∧ s[2]? = some (.lst (f.map W.int)) ∧ ∃ x2 x3 x4 x5 x6 x7 x8 x9 y0 y1 y2 y3 y4, e = [some (.rol (l.map W.int)), some (.ref 2), x2, x3, x4, x5, x6, x7, x8, x9, y0, y1, y2, y3, y4]) ⟨fun w hw => ?_, rfl, hcell, _, _, _, _, _, _, _, _, _, _, _, _, _, rfl⟩ ?_ ?_
  · obtain ⟨k, rfl, h⟩ := rng_mem hw
    refine ⟨k, rfl, ?_⟩
    split at h <;> omega
  · rintro w r e s ⟨hr, h0, h2, x2, x3, x4, x5, x6, x7, x8, x9, y0, y1, y2, y3, y4, rfl⟩
    obtain ⟨k, rfl, hk⟩ := hr w List.mem_cons_self
    have hsl : 2 < s.length := sto_lt h2
    refine ⟨trivial, ?_⟩
    repeat decreasing_trivial_pre_omega
    refine wp_use (pot_wp2 (l := f) (by simp only [getL, h2]) (by omega)) ?_
    rintro _ _ ⟨rfl, ⟨o, rfl⟩, P1⟩
    repeat decreasing_trivial_pre_omega
    refine wp_use (tiny_wp P1 (by omega)) ?_
    rintro _ s2 ⟨⟨many, puts, width, rfl, g, g1, g2, g3⟩, K2, P2⟩
    have h20 : s2[0]? = some tabO := K2.at (sto_app h0) (by omega)
    have h22 : s2[2]? = some (.lst (f.map W.int)) := K2.at (sto_app h2) (by omega)
    have hm1 := g.m1
    have hsn := since_len (many := many) (puts := puts)
    have hpw := putsW_len (puts := puts)
    repeat decreasing_trivial_pre_omega
    refine wp_eq (lawsince_ok (by omega) g.rows) ?_
    repeat decreasing_trivial_pre_omega
    refine wp_eq (plan_ok g (sto_app h20)) ?_
    unfold toldW
    repeat decreasing_trivial_pre_omega
    rw [hpw, show ((puts.length : Int) + 1) = ((puts.length + 1 : Nat) : Int) by omega]
    refine wp_eq (product_ok (by omega) (by omega)) ?_
    have hB : (puts.length + 1) ^ many ≤ 5 ^ 4 := Nat.le_trans (Nat.pow_le_pow_left (by omega) many) (Nat.pow_le_pow_right (by decide) (by omega))
    repeat decreasing_trivial_pre_omega
    rw [rngW_nat]
    obtain ⟨n0, hn0, en0⟩ := send_told g
    obtain ⟨q1, q2, q3, q4, q5, q6, q7⟩ := lets_iff.mp (told_lets g)
    have hsin : (s2 ++ [Ob.lst [W.int 0], .lst (wI8 (sinceL many puts))])[s2.length + 1]? = some (.lst (wI8 (sinceL many puts))) := sto_at2
    refine ws_forS (fun r e s3 => ∃ (a least : Nat) (x8 y2 y3 y4 : Option W), r = (List.range' a r.length).map (fun i : Nat => W.int i) ∧ a + r.length = (puts.length + 1) ^ many ∧ leftL many puts width ≤ least ∧ least ≤ many ∧ (n0 < a → least = leftL many puts width) ∧
      e = [some (.rol (l.map W.int)), some (.ref 2), some (.int k), some (.ref s.length), some (.int puts.length), some (.ref (s2.length + 1)), some (.tup [.int (leftL many puts width), .tup (putsW (planL many puts width)), .int (tickL many puts width)]), some (.int least), x8, some (.int many), some (.tup (putsW puts)), some (.int width), y2, y3, y4] ∧
      s3 = s2 ++ [.lst [.int 0], .lst (wI8 (sinceL many puts))]) ⟨0, many, x8, y2, y3, y4, by simp [List.range_eq_range'], by simp, q1, Nat.le_refl _, by omega, rfl, rfl⟩ ?_ ?_
    · rintro w r2 e _ ⟨a, least, x8, y2, y3, y4, hr2, ha, hl1, hl2, hl3, rfl, rfl⟩
      simp only [List.length_cons, List.range'_succ, List.map_cons, List.cons.injEq] at hr2 ha
      obtain ⟨rfl, hr2⟩ := hr2
      refine ⟨trivial, ?_⟩
      repeat decreasing_trivial_pre_omega
      refine wp_eq (sending_ok g1 g2 g3 (by omega)) ?_
      have hsrow : ∀ row ∈ sendL many puts.length a, row.Pairwise (· < ·) ∧ ∀ p ∈ row, p < many := fun row h => send_row h
      cases hwide : wideB width (sendL many puts.length a)
      · have hnar := narrow_of hwide
        have e1 : sentW width (sendL many puts.length a) = .tup (putsW (sendL many puts.length a)) := by unfold sentW; rw [hwide, if_neg (by simp)]
        rw [e1]
        repeat decreasing_trivial_pre_omega
        refine wp_eq (lawleft_ok hsin (by omega) fun row hr p hp => by have := (hsrow row hr).2 p hp; omega) ?_
        repeat decreasing_trivial_pre_omega
        have hge := no_fewer g send_len (fun row hr => ⟨hnar row hr, (hsrow row hr).2⟩)
        obtain ⟨lf, hlf⟩ : ∃ lf, lf = leftP (sinceL many puts) (sendL many puts.length a) := ⟨_, rfl⟩
        rw [← hlf] at hge ⊢
        have hmin : (if (lf : Int) < (least : Int) then (lf : Int) else (least : Int)) = ((min least lf : Nat) : Int) := by split <;> omega
        rw [hmin]
        have hat : n0 = a → lf = leftL many puts width := fun e => by
          rw [hlf, ← e, en0]
          exact q5
        have fin : ∀ (u4 : Option W), ∃ (a' least' : Nat) (x8 y2 y3 y4 : Option W), r2 = (List.range' a' r2.length).map (fun i : Nat => W.int i) ∧ a' + r2.length = (puts.length + 1) ^ many ∧ leftL many puts width ≤ least' ∧ least' ≤ many ∧ (n0 < a' → least' = leftL many puts width) ∧
            [some (W.rol (l.map W.int)), some (.ref 2), some (.int k), some (.ref s.length), some (.int puts.length), some (.ref (s2.length + 1)), some (.tup [.int (leftL many puts width), .tup (putsW (planL many puts width)), .int (tickL many puts width)]), some (.int ((min least lf : Nat) : Int)), some (.int a), some (.int many), some (.tup (putsW puts)), some (.int width), some (.tup (putsW (sendL many puts.length a))), some (.int lf), u4] =
              [some (.rol (l.map W.int)), some (.ref 2), some (.int k), some (.ref s.length), some (.int puts.length), some (.ref (s2.length + 1)), some (.tup [.int (leftL many puts width), .tup (putsW (planL many puts width)), .int (tickL many puts width)]), some (.int least'), x8, some (.int many), some (.tup (putsW puts)), some (.int width), y2, y3, y4] ∧
            s2 ++ [Ob.lst [.int 0], .lst (wI8 (sinceL many puts))] = s2 ++ [.lst [.int 0], .lst (wI8 (sinceL many puts))] := fun u4 =>
          ⟨a + 1, min least lf, _, _, _, _, hr2, by omega, by omega, by omega, fun h => by
            rcases Nat.lt_or_ge n0 a with z | z
            · have := hl3 z
              omega
            · have := hat (by omega)
              omega, rfl, rfl⟩
        repeat decreasing_trivial_pre_omega
        by_cases h7 : ((a : Int) % 7 = 3)
        · repeat decreasing_trivial_pre_omega
          refine wp_eq (shows_ok g (plain3_rows (by rw [send_len]; omega) fun r h => by have := hnar r h; omega)) ?_
          rw [send_lets g send_len (fun row hr => ⟨(hsrow row hr).1, (hsrow row hr).2, hnar row hr⟩) hlf.symm]
          repeat decreasing_trivial_pre_omega
          have hbb : decide (lf = leftL many puts width) = decide ((lf : Int) = (leftL many puts width : Int)) := decide_eq_decide.mpr (by omega)
          rw [hbb]
          refine wp_eq (a := .str (if decide ((lf : Int) = (leftL many puts width : Int)) = true then "True" else "False")) rfl ?_
          repeat decreasing_trivial_pre_omega
          refine wp_eq (a := .str (if decide ((lf : Int) = (leftL many puts width : Int)) = true then "True" else "False")) rfl ?_
          repeat decreasing_trivial_pre_omega
          exact fin _
        · repeat decreasing_trivial_pre_omega
          exact fin _
      · have e1 : sentW width (sendL many puts.length a) = .non := by unfold sentW; rw [hwide, if_pos rfl]
        rw [e1]
        repeat decreasing_trivial_pre_omega
        refine ⟨a + 1, least, _, _, _, _, hr2, by omega, hl1, hl2, fun h => ?_, rfl, rfl⟩
        rcases Nat.lt_or_ge n0 a with z | z
        · exact hl3 z
        · have e2 : n0 = a := by omega
          subst e2
          rw [en0, narrow_to fun r hr => (q4 r hr).2.2] at hwide
          cases hwide
    · rintro e _ ⟨a, least, x8, y2, y3, y4, hr2, ha, hl1, hl2, hl3, rfl, rfl⟩
      simp only [List.length_nil, Nat.add_zero] at ha
      have hle : least = leftL many puts width := hl3 (by omega)
      subst hle
      refine ⟨trivial, ?_⟩
      repeat decreasing_trivial_pre_omega
      refine wp_eq (lawleft_ok hsin (by omega) fun row hr p hp => by have := (q4 row hr).2.1 p hp; omega) ?_
      rw [q5]
      repeat decreasing_trivial_pre_omega
      exact ⟨fun w h => hr w (List.mem_cons_of_mem _ h), sto_app h20, sto_app h22, _, _, _, _, _, _, _, _, _, _, _, _, _, rfl⟩
  · rintro e s ⟨hr, h0, h2, x2, x3, x4, x5, x6, x7, x8, x9, y0, y1, y2, y3, y4, rfl⟩
    refine ⟨trivial, ?_⟩
    repeat decreasing_trivial_pre_omega
theorem law_ok (l : List Int) (hl : l.length ≤ 63) : ∃ st, f_law [.rol (l.map W.int)] [tabO] = .ok (.bl true) st := by
  obtain ⟨w, st, e, rfl⟩ := wp_get (law_wp l hl)
  exact ⟨st, e⟩

end Lw

theorem PySem.Challenge.cw_lodgewalk_k74_no_plan_leaves_fewer_holds : PySem.Challenge.rw_lodgewalk_k74_no_plan_leaves_fewer.Holds := by
  exact Lw.close_law Lw.law_ok
