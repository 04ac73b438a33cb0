import PyProof.Rows.All
import Wide.All
import OpenK.AllK
import Wide.FinOn
import HandS.ForMost
import HandS.ForExc
import HandS.CallSlots
import HandS.TupAny
import HandS.TupMul
import HandS.Wide
import HandS.Flow
import HandS.IsInst
import HandS.Deep
import HandS.Style
import HandS.Defaults
import HandS.IntHex
import HandS.RaiseMore
import HandS.RevRange
import KE.GoesEnum
import HandS.Zip
import HandS.Conv
import HandS.SortInts
import HandS.ExcIs
import HandS.ExcValue
import HandS.ExcInit
import HandS.ExcField
import HandS.TryOnly
import HandS.ClsMeth
import HandS.Head0
import HandS.Head1
import HandS.Head2
import HandS.HeadEnd
import HandS.HeadHook1
import HandS.HeadHook2
import PySem.Challenge.RW_lodgewalk_k95_errors_by_themselves
set_option Elab.async false
set_option linter.all false
set_option maxRecDepth 100000
set_option maxHeartbeats 4000000
/-! Sw1: plain values, a plain store, and the readings of HandS by plain functions over them. -/
namespace Sw
open PySem PySem.Spec PyProof.Rows L2

/-! ### plain values, plain objects -/
inductive W where
  | non | bl (b : Bool) | int (i : Int) | str (x : Str) | tup (l : List W) | rol (l : List W) | ref (n : Nat) | gl (x : Str) | ty (n : String)
abbrev Flds := List (Str × W)
inductive Ob where
  | lst (l : List W) | dct (l : List (Key × W)) | ins (C : Str) (fs : Flds) | exc (C : Str) (fs : Flds)
abbrev Sto := List Ob
abbrev En := List (Option W)

/-- what the module's names hold -/
structure Gx where
  K : PySem.W.Frag
  mg : Str → Option Value

/-- a list that nobody changes -/
def Rol (K : PySem.W.Frag) (H : Hp) (a : Addr) (xs : List V) : Prop :=
  (∃ o, H a = some (.frz o (.lst xs))) ∨
    ∃ (o : Obj) (its : Array Value) (n : Nat), K.lookup a = some o ∧ o.cls = .type "list" ∧ o.dict = none ∧ o.data = .seq its n ∧ its.size ≤ sizeLine ∧ Vals xs its.toList
theorem Rol.sq {K : PySem.W.Frag} {H : Hp} {a : Addr} {xs : List V} (h : Rol K H a xs) : SqL K H a xs := by
  rcases h with h | h
  · exact .inl (.inr h)
  · exact .inr h

mutual
inductive Rep (G : Gx) (r : List Addr) (H : Hp) : W → V → Prop
  | non : Rep G r H .non .non
  | bl (b : Bool) : Rep G r H (.bl b) (.bl b)
  | int (i : Int) : Rep G r H (.int i) (.int i)
  | str (x : Str) : Rep G r H (.str x) (.str x)
  | ty (n : String) : Rep G r H (.ty n) (.ty n)
  | tup {l : List W} {a : Addr} {vs : List V} (h : SqT G.K H a vs) (k : RepL G r H l vs) : Rep G r H (.tup l) (.ref a)
  | rol {l : List W} {a : Addr} {vs : List V} (h : Rol G.K H a vs) (k : RepL G r H l vs) : Rep G r H (.rol l) (.ref a)
  | ref {n : Nat} {a : Addr} (h : r[n]? = some a) : Rep G r H (.ref n) (.ref a)
  | gl {x : Str} {a : Addr} (h : G.mg x = some (.ref a)) : Rep G r H (.gl x) (.ref a)
inductive RepL (G : Gx) (r : List Addr) (H : Hp) : List W → List V → Prop
  | nil : RepL G r H [] []
  | cons {w : W} {v : V} {ws : List W} {vs : List V} (h : Rep G r H w v) (k : RepL G r H ws vs) : RepL G r H (w :: ws) (v :: vs)
end

/-- what never changes -/
def Stay (H H' : Hp) : Prop := ∀ a, (∀ xs, H a = some (.tup xs) → H' a = some (.tup xs)) ∧ (∀ o u, H a = some (.frz o u) → H' a = some (.frz o u))
theorem Stay.refl (H : Hp) : Stay H H := fun _ => ⟨fun _ h => h, fun _ _ h => h⟩
theorem Stay.trans {H H1 H2 : Hp} (a : Stay H H1) (b : Stay H1 H2) : Stay H H2 := fun x => ⟨fun xs h => (b x).1 xs ((a x).1 xs h), fun o u h => (b x).2 o u ((a x).2 o u h)⟩
theorem Stay.new {H : Hp} {p : Addr} {o : HO} (h : H p = none) : Stay H (upd H p o) := fun a => ⟨fun xs e => by rw [upd_ne (ne_of_none e h)]; exact e, fun o' u e => by rw [upd_ne (ne_of_none e h)]; exact e⟩
theorem Stay.lst {H : Hp} {p : Addr} {xs : List V} {o : HO} (h : H p = some (.lst xs)) : Stay H (upd H p o) := fun a =>
  ⟨fun ys e => by rw [upd_ne (ne_of e h (by intro z; cases z))]; exact e, fun o' u e => by rw [upd_ne (ne_of e h (by intro z; cases z))]; exact e⟩
theorem Stay.dK {H : Hp} {p : Addr} {xs : List (Key × V)} {o : HO} (h : H p = some (.dK xs)) : Stay H (upd H p o) := fun a =>
  ⟨fun ys e => by rw [upd_ne (ne_of e h (by intro z; cases z))]; exact e, fun o' u e => by rw [upd_ne (ne_of e h (by intro z; cases z))]; exact e⟩
theorem Stay.ins {H : Hp} {p : Addr} {C dx : Addr} {fs : List (Str × V)} {o : HO} (h : H p = some (.ins C dx fs)) : Stay H (upd H p o) := fun a =>
  ⟨fun ys e => by rw [upd_ne (ne_of e h (by intro z; cases z))]; exact e, fun o' u e => by rw [upd_ne (ne_of e h (by intro z; cases z))]; exact e⟩
theorem Stay.rd {H H' : Hp} (s : Stay H H') {a : Addr} {xs : List V} (h : Rd H a (.tup xs)) : Rd H' a (.tup xs) := by
  rcases h with h | ⟨o, h⟩
  · exact .inl ((s a).1 _ h)
  · exact .inr ⟨o, (s a).2 _ _ h⟩
theorem Stay.sqt {K : PySem.W.Frag} {H H' : Hp} (s : Stay H H') {a : Addr} {xs : List V} (h : SqT K H a xs) : SqT K H' a xs := by
  rcases h with h | h
  · exact .inl (s.rd h)
  · exact .inr h
theorem Stay.rol {K : PySem.W.Frag} {H H' : Hp} (s : Stay H H') {a : Addr} {xs : List V} (h : Rol K H a xs) : Rol K H' a xs := by
  rcases h with ⟨o, h⟩ | h
  · exact .inl ⟨o, (s a).2 _ _ h⟩
  · exact .inr h

structure Grow (r : List Addr) (H : Hp) (r' : List Addr) (H' : Hp) : Prop where
  pre : ∃ t, r' = r ++ t
  stay : Stay H H'
theorem Grow.refl (r : List Addr) (H : Hp) : Grow r H r H := ⟨⟨[], by simp⟩, Stay.refl H⟩
theorem Grow.trans {r r1 r2 : List Addr} {H H1 H2 : Hp} (a : Grow r H r1 H1) (b : Grow r1 H1 r2 H2) : Grow r H r2 H2 := by
  obtain ⟨⟨t, rfl⟩, s⟩ := a
  obtain ⟨⟨u, rfl⟩, s'⟩ := b
  exact ⟨⟨t ++ u, by simp⟩, s.trans s'⟩
theorem Grow.same {r : List Addr} {H H' : Hp} (s : Stay H H') : Grow r H r H' := ⟨⟨[], by simp⟩, s⟩
theorem Grow.one {r : List Addr} {H H' : Hp} {a : Addr} (s : Stay H H') : Grow r H (r ++ [a]) H' := ⟨⟨[a], rfl⟩, s⟩
theorem Grow.at {r r' : List Addr} {H H' : Hp} (g : Grow r H r' H') {n : Nat} {a : Addr} (h : r[n]? = some a) : r'[n]? = some a := by
  obtain ⟨t, rfl⟩ := g.pre
  rw [List.getElem?_append_left (List.getElem?_eq_some_iff.mp h).1]
  exact h
mutual
theorem Rep.grow {G : Gx} {r r' : List Addr} {H H' : Hp} (g : Grow r H r' H') : ∀ {w : W} {v : V}, Rep G r H w v → Rep G r' H' w v
  | _, _, .non => .non
  | _, _, .bl b => .bl b
  | _, _, .int b => .int b
  | _, _, .str b => .str b
  | _, _, .ty b => .ty b
  | _, _, .tup h k => .tup (g.stay.sqt h) (RepL.grow g k)
  | _, _, .rol h k => .rol (g.stay.rol h) (RepL.grow g k)
  | _, _, .ref h => .ref (g.at h)
  | _, _, .gl h => .gl h
theorem RepL.grow {G : Gx} {r r' : List Addr} {H H' : Hp} (g : Grow r H r' H') : ∀ {ws : List W} {vs : List V}, RepL G r H ws vs → RepL G r' H' ws vs
  | _, _, .nil => .nil
  | _, _, .cons h k => .cons (Rep.grow g h) (RepL.grow g k)
end
section
variable {G : Gx} {r : List Addr} {H : Hp}
theorem RepL.length : ∀ {ws : List W} {vs : List V}, RepL G r H ws vs → ws.length = vs.length
  | _, _, .nil => rfl
  | _, _, .cons _ k => by simp [RepL.length k]
theorem RepL.get : ∀ {ws : List W} {vs : List V} {i : Nat} {w : W}, RepL G r H ws vs → ws[i]? = some w → ∃ v, vs[i]? = some v ∧ Rep G r H w v
  | _, _, _, _, .nil, e => by simp at e
  | _, _, 0, _, .cons h _, e => by simp at e; subst e; exact ⟨_, rfl, h⟩
  | _, _, i + 1, _, .cons _ k, e => by
    obtain ⟨v, h1, h2⟩ := RepL.get (i := i) k (by simpa using e)
    exact ⟨v, by simpa using h1, h2⟩
theorem RepL.getV : ∀ {ws : List W} {vs : List V} {i : Nat} {v : V}, RepL G r H ws vs → vs[i]? = some v → ∃ w, ws[i]? = some w ∧ Rep G r H w v
  | _, _, _, _, .nil, e => by simp at e
  | _, _, 0, _, .cons h _, e => by simp at e; subst e; exact ⟨_, rfl, h⟩
  | _, _, i + 1, _, .cons _ k, e => by
    obtain ⟨w, h1, h2⟩ := RepL.getV (i := i) k (by simpa using e)
    exact ⟨w, by simpa using h1, h2⟩
theorem RepL.append : ∀ {ws : List W} {vs : List V} {ws' : List W} {vs' : List V}, RepL G r H ws vs → RepL G r H ws' vs' → RepL G r H (ws ++ ws') (vs ++ vs')
  | _, _, _, _, .nil, k => k
  | _, _, _, _, .cons h k, k' => .cons h (RepL.append k k')
theorem RepL.take : ∀ {ws : List W} {vs : List V} (n : Nat), RepL G r H ws vs → RepL G r H (ws.take n) (vs.take n)
  | _, _, 0, _ => .nil
  | _, _, _ + 1, .nil => .nil
  | _, _, n + 1, .cons h k => .cons h (RepL.take n k)
theorem RepL.drop : ∀ {ws : List W} {vs : List V} (n : Nat), RepL G r H ws vs → RepL G r H (ws.drop n) (vs.drop n)
  | _, _, 0, k => k
  | _, _, _ + 1, .nil => .nil
  | _, _, n + 1, .cons _ k => RepL.drop n k
theorem RepL.set {w : W} {v : V} (h : Rep G r H w v) : ∀ {ws : List W} {vs : List V} (n : Nat), RepL G r H ws vs → RepL G r H (ws.set n w) (vs.set n v)
  | _, _, _, .nil => .nil
  | _, _, 0, .cons _ k => .cons h k
  | _, _, n + 1, .cons h' k => .cons h' (RepL.set h n k)
theorem RepL.reverse : ∀ {ws : List W} {vs : List V}, RepL G r H ws vs → RepL G r H ws.reverse vs.reverse
  | _, _, .nil => .nil
  | _, _, .cons h k => by
    simp only [List.reverse_cons]
    exact RepL.append (RepL.reverse k) (.cons h .nil)
theorem RepL.rep {w : W} {v : V} (h : Rep G r H w v) : ∀ n : Nat, RepL G r H (List.replicate n w) (List.replicate n v)
  | 0 => .nil
  | n + 1 => .cons h (RepL.rep h n)
theorem RepL.flat {ws : List W} {vs : List V} (k : RepL G r H ws vs) : ∀ n : Nat, RepL G r H (List.replicate n ws).flatten (List.replicate n vs).flatten
  | 0 => .nil
  | n + 1 => by
    simp only [List.replicate_succ, List.flatten_cons]
    exact k.append (RepL.flat k n)
theorem repL_ints : ∀ ns : List Int, RepL G r H (ns.map W.int) (ns.map V.int)
  | [] => .nil
  | n :: ns => .cons (.int n) (repL_ints ns)
end

/-- fields, by name -/
inductive RepF (G : Gx) (r : List Addr) (H : Hp) : Flds → List (Str × V) → Prop
  | nil : RepF G r H [] []
  | cons {f : Str} {w : W} {v : V} {fs : Flds} {vs : List (Str × V)} (h : Rep G r H w v) (k : RepF G r H fs vs) : RepF G r H ((f, w) :: fs) ((f, v) :: vs)
/-- a dict's pairs -/
inductive RepD (G : Gx) (r : List Addr) (H : Hp) : List (Key × W) → List (Key × V) → Prop
  | nil : RepD G r H [] []
  | cons {f : Key} {w : W} {v : V} {fs : List (Key × W)} {vs : List (Key × V)} (h : Rep G r H w v) (k : RepD G r H fs vs) : RepD G r H ((f, w) :: fs) ((f, v) :: vs)
theorem RepF.grow {G : Gx} {r r' : List Addr} {H H' : Hp} (g : Grow r H r' H') {fs : Flds} {vs : List (Str × V)} (h : RepF G r H fs vs) : RepF G r' H' fs vs := by
  induction h with
  | nil => exact .nil
  | cons h _ ih => exact .cons (h.grow g) ih
theorem RepD.grow {G : Gx} {r r' : List Addr} {H H' : Hp} (g : Grow r H r' H') {fs : List (Key × W)} {vs : List (Key × V)} (h : RepD G r H fs vs) : RepD G r' H' fs vs := by
  induction h with
  | nil => exact .nil
  | cons h _ ih => exact .cons (h.grow g) ih

/-- an exception object that lies still: its class, and its fields -/
def excAt (cls : Value) (d : Option Addr) (a : Addr) (h : Heap) : Prop := ∃ (o : Obj) (vs : Array Value), h.get? a = some o ∧ o.cls = cls ∧ o.dict = d ∧ o.data = .fields vs
def ObR (G : Gx) (r : List Addr) (H : Hp) (a : Addr) : Ob → Prop
  | .lst ws => ∃ vs, H a = some (.lst vs) ∧ RepL G r H ws vs
  | .dct ws => ∃ vs, H a = some (.dK vs) ∧ RepD G r H ws vs
  | .ins C fs => ∃ Ca dx vs, G.mg C = some (.ref Ca) ∧ H a = some (.ins Ca dx vs) ∧ RepF G r H fs vs
  | .exc C fs => ∃ Ca d, G.mg C = some (.ref Ca) ∧ H a = some (.ext (excAt (.ref Ca) d a)) ∧ ((fs = [] ∧ d = none) ∨ ∃ da vs, d = some da ∧ H da = some (.xd vs) ∧ RepF G r H fs vs)
structure Sim (G : Gx) (r : List Addr) (H : Hp) (st : Sto) : Prop where
  len : r.length = st.length
  nd : r.Nodup
  ob : ∀ (n : Nat) (o : Ob) (a : Addr), st[n]? = some o → r[n]? = some a → ObR G r H a o
def EnR (G : Gx) (r : List Addr) (H : Hp) (env : En) (s : L2.St) : Prop := s.length = env.length ∧ ∀ (i : Nat) (w : W), env[i]? = some (some w) → ∃ v, s[i]? = some (some v) ∧ Rep G r H w v
theorem EnR.grow {G : Gx} {r r' : List Addr} {H H' : Hp} (g : Grow r H r' H') {env : En} {s : L2.St} (h : EnR G r H env s) : EnR G r' H' env s :=
  ⟨h.1, fun i w e => let ⟨v, a, b⟩ := h.2 i w e; ⟨v, a, b.grow g⟩⟩
theorem EnR.set {G : Gx} {r : List Addr} {H : Hp} {env : En} {s : L2.St} (h : EnR G r H env s) {i : Nat} {w : W} {v : V} (q : Rep G r H w v) : EnR G r H (env.set i (some w)) (s.set i (some v)) := by
  refine ⟨by simp [h.1], fun j x e => ?_⟩
  by_cases hj : i = j
  · subst hj
    by_cases hi : i < env.length
    · rw [List.getElem?_set_self hi] at e
      cases e
      exact ⟨v, by rw [List.getElem?_set_self (by rw [h.1]; exact hi)], q⟩
    · rw [List.getElem?_eq_none (by simpa using hi)] at e
      cases e
  · rw [List.getElem?_set_ne hj] at e
    obtain ⟨u, a, b⟩ := h.2 j x e
    exact ⟨u, by rw [List.getElem?_set_ne hj]; exact a, b⟩
theorem EnR.forget {G : Gx} {r : List Addr} {H : Hp} {env : En} {s : L2.St} (h : EnR G r H env s) {i : Nat} : EnR G r H (env.set i none) (s.set i none) := by
  refine ⟨by simp [h.1], fun j x e => ?_⟩
  by_cases hj : i = j
  · subst hj
    by_cases hi : i < env.length
    · rw [List.getElem?_set_self hi] at e
      cases e
    · rw [List.getElem?_eq_none (by simpa using hi)] at e
      cases e
  · rw [List.getElem?_set_ne hj] at e
    obtain ⟨u, a, b⟩ := h.2 j x e
    exact ⟨u, by rw [List.getElem?_set_ne hj]; exact a, b⟩

theorem nd_ix {N : List Addr} (hN : N.Nodup) {i j : Nat} {x : Addr} (a : N[i]? = some x) (b : N[j]? = some x) : i = j := by
  obtain ⟨h1, e1⟩ := List.getElem?_eq_some_iff.mp a
  obtain ⟨h2, e2⟩ := List.getElem?_eq_some_iff.mp b
  exact (List.getElem_inj hN).mp (e1.trans e2.symm)
theorem ObR.there {G : Gx} {r : List Addr} {H : Hp} {a : Addr} {o : Ob} (h : ObR G r H a o) : ∃ u, H a = some u := by
  cases o with
  | lst l => obtain ⟨_, e, _⟩ := h; exact ⟨_, e⟩
  | dct l => obtain ⟨_, e, _⟩ := h; exact ⟨_, e⟩
  | ins C fs => obtain ⟨_, _, _, _, e, _⟩ := h; exact ⟨_, e⟩
  | exc C fs => obtain ⟨_, _, _, e, _⟩ := h; exact ⟨_, e⟩
theorem Sim.has {G : Gx} {r : List Addr} {H : Hp} {st : Sto} (s : Sim G r H st) {n : Nat} {o : Ob} (h : st[n]? = some o) : ∃ a, r[n]? = some a ∧ ObR G r H a o := by
  have hn : n < r.length := by rw [s.len]; exact (List.getElem?_eq_some_iff.mp h).1
  exact ⟨r[n], List.getElem?_eq_getElem hn, s.ob n o _ h (List.getElem?_eq_getElem hn)⟩
theorem Sim.got {G : Gx} {r : List Addr} {H : Hp} {st : Sto} (s : Sim G r H st) {n : Nat} {o : Ob} {a : Addr} (h : st[n]? = some o) (q : r[n]? = some a) : ObR G r H a o := s.ob n o a h q
theorem Sim.fresh {G : Gx} {r : List Addr} {H : Hp} {st : Sto} (s : Sim G r H st) {p : Addr} (h : H p = none) : p ∉ r := fun hm => by
  obtain ⟨n, hn, e⟩ := List.mem_iff_getElem.mp hm
  have hs : n < st.length := by rw [← s.len]; exact hn
  obtain ⟨u, e2⟩ := (s.ob n st[n] p (List.getElem?_eq_getElem hs) (by rw [List.getElem?_eq_getElem hn, e])).there
  rw [h] at e2
  cases e2
/-- objects stay as they are, but for the one at a -/
theorem ObR.keep {G : Gx} {r r' : List Addr} {H H' : Hp} (g : Grow r H r' H') {b : Addr} {o : Ob} (k : ∀ c u, (c = b ∨ ∃ fs, u = HO.xd fs) → H c = some u → H' c = some u) (h : ObR G r H b o) : ObR G r' H' b o := by
  cases o with
  | lst l => obtain ⟨vs, e, q⟩ := h; exact ⟨vs, k b _ (.inl rfl) e, q.grow g⟩
  | dct l => obtain ⟨vs, e, q⟩ := h; exact ⟨vs, k b _ (.inl rfl) e, q.grow g⟩
  | ins C fs => obtain ⟨Ca, dx, vs, m, e, q⟩ := h; exact ⟨Ca, dx, vs, m, k b _ (.inl rfl) e, q.grow g⟩
  | exc C fs =>
    obtain ⟨Ca, d, m, e, q⟩ := h
    refine ⟨Ca, d, m, k b _ (.inl rfl) e, ?_⟩
    rcases q with q | ⟨da, vs, ed, e2, q⟩
    · exact .inl q
    · exact .inr ⟨da, vs, ed, k da _ (.inr ⟨vs, rfl⟩) e2, q.grow g⟩
/-- a new object -/
theorem Sim.new {G : Gx} {r : List Addr} {H H' : Hp} {st : Sto} (s : Sim G r H st) {p : Addr} {o : Ob} (hp : H p = none) (k : ∀ c u, H c = some u → H' c = some u) (h : ObR G (r ++ [p]) H' p o) (sy : Stay H H') : Sim G (r ++ [p]) H' (st ++ [o]) := by
  have g : Grow r H (r ++ [p]) H' := Grow.one sy
  refine ⟨by simp [s.len], ?_, fun n ob a e1 e2 => ?_⟩
  · rw [List.nodup_append]
    refine ⟨s.nd, by simp, fun a ha b hb => ?_⟩
    have e : b = p := by simpa using hb
    subst e
    exact fun z => s.fresh hp (z ▸ ha)
  · by_cases hn : n < st.length
    · rw [List.getElem?_append_left hn] at e1
      rw [List.getElem?_append_left (by rw [s.len]; exact hn)] at e2
      exact (s.ob n ob a e1 e2).keep g fun c u _ e => k c u e
    · have hl : n < (st ++ [o]).length := (List.getElem?_eq_some_iff.mp e1).1
      have en : n = st.length := by simp at hl; omega
      subst en
      rw [List.getElem?_append_right (Nat.le_refl _)] at e1
      rw [List.getElem?_append_right (by rw [s.len]; exact Nat.le_refl _), s.len] at e2
      simp at e1 e2
      subst e1 e2
      exact h
theorem Sim.newU {G : Gx} {r : List Addr} {H : Hp} {st : Sto} (s : Sim G r H st) {p : Addr} {u : HO} {o : Ob} (hp : H p = none) (h : ObR G (r ++ [p]) (upd H p u) p o) : Sim G (r ++ [p]) (upd H p u) (st ++ [o]) :=
  s.new hp (fun c v e => by rw [upd_ne (ne_of_none e hp)]; exact e) h (Stay.new hp)
/-- an object that is changed -/
theorem Sim.put {G : Gx} {r : List Addr} {H : Hp} {st : Sto} (s : Sim G r H st) {n : Nat} {a : Addr} {u u0 : HO} {o : Ob} (hn : r[n]? = some a) (hu : H a = some u0) (hx : ∀ fs, u0 ≠ .xd fs) (sy : Stay H (upd H a u)) (h : ObR G r (upd H a u) a o) : Sim G r (upd H a u) (st.set n o) := by
  have g : Grow r H r (upd H a u) := Grow.same sy
  refine ⟨by simp [s.len], s.nd, fun m ob b e1 e2 => ?_⟩
  by_cases hm : n = m
  · subst hm
    rw [hn] at e2
    cases e2
    have hl : n < st.length := by rw [← s.len]; exact (List.getElem?_eq_some_iff.mp hn).1
    rw [List.getElem?_set_self hl] at e1
    cases e1
    exact h
  · rw [List.getElem?_set_ne hm] at e1
    have hb : b ≠ a := fun z => by
      subst z
      exact hm (nd_ix s.nd hn e2)
    refine (s.ob m ob b e1 e2).keep g fun c v hc e => ?_
    have hca : c ≠ a := by
      rcases hc with rfl | ⟨fs, rfl⟩
      · exact hb
      · intro z
        subst z
        rw [hu] at e
        exact hx fs (Option.some.inj e)
    rw [upd_ne hca]
    exact e
end Sw
/-! Sw2: answers, readings, the frame of the rules. -/
namespace Sw
open PySem PySem.Spec PyProof.Rows L2

inductive An (α : Type) where
  | ok (a : α) (st : Sto) | ex (C : Str) (fs : Flds) (st : Sto) | bad
def An.bind {α β : Type} (m : An α) (k : α → Sto → An β) : An β := match m with
  | .ok a st => k a st
  | .ex C fs st => .ex C fs st
  | .bad => .bad
@[simp] theorem An.bind_ok {α β : Type} (a : α) (st : Sto) (k : α → Sto → An β) : (An.ok a st).bind k = k a st := rfl
@[simp] theorem An.bind_ex {α β : Type} (C : Str) (fs : Flds) (st : Sto) (k : α → Sto → An β) : (An.ex C fs st : An α).bind k = .ex C fs st := rfl
@[simp] theorem An.bind_bad {α β : Type} (k : α → Sto → An β) : (An.bad : An α).bind k = .bad := rfl
/-- what a block ends with -/
inductive SA where
  | nx (env : En) (st : Sto) | rt (w : W) (st : Sto) | bk (env : En) (st : Sto) | ct (env : En) (st : Sto) | ex (C : Str) (fs : Flds) (env : En) (st : Sto) | bad

abbrev gx (X : Cx) : Gx := ⟨X.K, X.mg⟩
def ExR (G : Gx) (r : List Addr) (H : Hp) (C : Str) (fs : Flds) (ca : Value) (d : Option Addr) : Prop :=
  ∃ Ca, ca = Value.ref Ca ∧ G.mg C = some (.ref Ca) ∧ ((fs = [] ∧ d = none) ∨ ∃ da vs, d = some da ∧ H da = some (.xd vs) ∧ RepF G r H fs vs)
def Po (G : Gx) (Wx : WX) (s : L2.St) {α : Type} (P : α → List Addr → Hp → Prop) (r : List Addr) (H : Hp) : An α → Prop
  | .ok a st => ∀ r' H', Grow r H r' H' → Sim G r' H' st → P a r' H'
  | .ex C fs st => ∀ r' H' ca d, Grow r H r' H' → Sim G r' H' st → ExR G r' H' C fs ca d → Wx ca d s H'
  | .bad => False
section
variable {G : Gx} {Wx : WX} {s : L2.St} {α β : Type} {P P' : α → List Addr → Hp → Prop} {r r1 : List Addr} {H H1 : Hp} {m : An α}
theorem Po.imp (h : Po G Wx s P r H m) (k : ∀ a r' H', Grow r H r' H' → P a r' H' → P' a r' H') : Po G Wx s P' r H m := by
  cases m with
  | ok a st => exact fun r' H' g q => k a r' H' g (h r' H' g q)
  | ex C fs st => exact h
  | bad => exact h
theorem Po.grow (g : Grow r H r1 H1) (h : Po G Wx s P r H m) : Po G Wx s P r1 H1 m := by
  cases m with
  | ok a st => exact fun r' H' g' q => h r' H' (g.trans g') q
  | ex C fs st => exact fun r' H' ca d g' q => h r' H' ca d (g.trans g') q
  | bad => exact h
theorem Po.bind {k : α → Sto → An β} {P : β → List Addr → Hp → Prop} (h : Po G Wx s P r H (m.bind k)) : Po G Wx s (fun a r1 H1 => ∃ st1, Sim G r1 H1 st1 ∧ Grow r H r1 H1 ∧ Po G Wx s P r1 H1 (k a st1)) r H m := by
  cases m with
  | ok a st => exact fun r' H' g q => ⟨st, q, g, Po.grow g h⟩
  | ex C fs st => exact h
  | bad => exact h
theorem Po.ok {a : α} {st : Sto} (h : Po G Wx s P r H (.ok a st)) (q : Sim G r H st) : P a r H := h r H (Grow.refl r H) q
end
def SPo (G : Gx) (Wx : WX) (D : Ends) (r : List Addr) (H : Hp) : SA → Prop
  | .nx env st => ∀ r' H' s', Grow r H r' H' → Sim G r' H' st → EnR G r' H' env s' → D.nx s' H'
  | .bk env st => ∀ r' H' s', Grow r H r' H' → Sim G r' H' st → EnR G r' H' env s' → D.bk s' H'
  | .ct env st => ∀ r' H' s', Grow r H r' H' → Sim G r' H' st → EnR G r' H' env s' → D.ct s' H'
  | .rt w st => ∀ r' H' v, Grow r H r' H' → Sim G r' H' st → Rep G r' H' w v → D.rt v H'
  | .ex C fs env st => ∀ r' H' s' ca d, Grow r H r' H' → Sim G r' H' st → EnR G r' H' env s' → ExR G r' H' C fs ca d → Wx ca d s' H'
  | .bad => False
theorem SPo.grow {G : Gx} {Wx : WX} {D : Ends} {r r1 : List Addr} {H H1 : Hp} {a : SA} (g : Grow r H r1 H1) (h : SPo G Wx D r H a) : SPo G Wx D r1 H1 a := by
  cases a with
  | nx env st => exact fun r' H' s' g' => h r' H' s' (g.trans g')
  | bk env st => exact fun r' H' s' g' => h r' H' s' (g.trans g')
  | ct env st => exact fun r' H' s' g' => h r' H' s' (g.trans g')
  | rt w st => exact fun r' H' s' g' => h r' H' s' (g.trans g')
  | ex C fs env st => exact fun r' H' s' ca d g' => h r' H' s' ca d (g.trans g')
  | bad => exact h

/-! ### readings by plain functions -/
abbrev FE := En → Sto → An W
abbrev FT := En → Sto → An Bool
abbrev FA := En → Sto → An (List W)
abbrev FS := En → Sto → SA
def tE (G : Gx) (Wx : WX) (f : FE) : TE := fun s H Q => ∃ env r st, EnR G r H env s ∧ Sim G r H st ∧ Po G Wx s (fun w r' H' => ∀ v, Rep G r' H' w v → Q v H') r H (f env st)
def tT (G : Gx) (Wx : WX) (f : FT) : TT := fun s H Q => ∃ env r st, EnR G r H env s ∧ Sim G r H st ∧ Po G Wx s (fun b _ H' => Q b H') r H (f env st)
def tL (G : Gx) (Wx : WX) (f : FA) : TA := fun s H Q => ∃ env r st, EnR G r H env s ∧ Sim G r H st ∧ Po G Wx s (fun ws r' H' => ∀ vs, RepL G r' H' ws vs → Q vs H') r H (f env st)
def tS (G : Gx) (Wx : WX) (f : FS) : TS := fun D s H => ∃ env r st, EnR G r H env s ∧ Sim G r H st ∧ SPo G Wx D r H (f env st)
theorem _root_.L2.PE.imp {X : Cx} {e : Expr} {t t' : TE} (h : PE X e t) (k : ∀ s H Q, t' s H Q → t s H Q) : PE X e t' := ⟨fun pins s σ H Q I q => h.run pins s σ H Q I (k _ _ _ q)⟩
theorem _root_.L2.PT.imp {X : Cx} {e : Expr} {t t' : TT} (h : PT X e t) (k : ∀ s H Q, t' s H Q → t s H Q) : PT X e t' := ⟨fun pins s σ H Q I q => h.run pins s σ H Q I (k _ _ _ q)⟩
theorem _root_.L2.PW.imp {X : Cx} {e : Expr} {t t' : TT} (h : PW X e t) (k : ∀ s H Q, t' s H Q → t s H Q) : PW X e t' := ⟨fun w pins s σ H Q I q => h.run w pins s σ H Q I (k _ _ _ q)⟩
theorem _root_.L2.PA.imp {X : Cx} {e : List Expr} {t t' : TA} (h : PA X e t) (k : ∀ s H Q, t' s H Q → t s H Q) : PA X e t' := ⟨fun pos pins s σ H Q I q => h.run pos pins s σ H Q I (k _ _ _ q)⟩
theorem _root_.L2.PS.imp {X : Cx} {e : Stmt} {t t' : TS} (h : PS X e t) (k : ∀ D s H, t' D s H → t D s H) : PS X e t' := ⟨fun pins s σ H D I q => h.run pins s σ H D I (k _ _ _ q)⟩
theorem _root_.L2.PSs.imp {X : Cx} {e : List Stmt} {t t' : TS} (h : PSs X e t) (k : ∀ D s H, t' D s H → t D s H) : PSs X e t' := ⟨fun pins s σ H D I q => h.run pins s σ H D I (k _ _ _ q)⟩

section
variable {X : Cx} {Wx : WX} {pos : Pos}

/-! ### names and constants -/
def fVar (i : Nat) : FE := fun env st => match env[i]? with
  | some (some w) => .ok w st
  | _ => .bad
def fC (w : W) : FE := fun _ st => .ok w st
theorem e_var (i : Nat) {x : Str} (hN : X.N[i]? = some x := by rfl) (hv : Vis X.env.scope x := by first | exact Or.inl rfl | exact Or.inr (Or.inl rfl) | exact Or.inr (Or.inr rfl)) (hd : (x == ("__debug__" : Str)) = false := by decide)
    (hcd : (x == ("__classdict__" : Str)) = false := by decide) : PE X (.Name x pos) (tE (gx X) Wx (fVar i)) := (pe_var hN hv hd hcd).imp fun s H Q h => by
  obtain ⟨env, r, st, en, sm, p⟩ := h
  unfold fVar at p
  cases e : env[i]? with
  | none => rw [e] at p; exact p.elim
  | some o =>
    cases o with
    | none => rw [e] at p; exact p.elim
    | some w =>
      rw [e] at p
      obtain ⟨v, h1, h2⟩ := en.2 i w e
      exact ⟨v, h1, Po.ok p sm v h2⟩
theorem e_c {e : Expr} {v : V} {w : W} (h : PE X e (tC v)) (hr : ∀ r H, Rep (gx X) r H w v) : PE X e (tE (gx X) Wx (fC w)) := h.imp fun s H Q q => by
  obtain ⟨env, r, st, en, sm, p⟩ := q
  exact Po.ok p sm v (hr r H)
theorem e_int {i : Int} {j : Nat} : PE X (.Constant (.int i) j pos) (tE (gx X) Wx (fC (.int i))) := e_c pe_int fun _ _ => .int i
theorem e_bl {i : Bool} {j : Nat} : PE X (.Constant (.bool i) j pos) (tE (gx X) Wx (fC (.bl i))) := e_c pe_bl fun _ _ => .bl i
theorem e_non {j : Nat} : PE X (.Constant .none j pos) (tE (gx X) Wx (fC .non)) := e_c pe_non fun _ _ => .non
theorem e_str {i : Str} {j : Nat} : PE X (.Constant (.str i) j pos) (tE (gx X) Wx (fC (.str i))) := e_c pe_str fun _ _ => .str i
/-- a constant of the module; a class, a def as a value -/
theorem e_glob {x : Str} {v : V} {u : Value} {w : W} (hg : Gl X x) (hm : X.mg x = some u) (q : RelV v u) (hr : ∀ r H, Rep (gx X) r H w v) (hd : (x == ("__debug__" : Str)) = false := by decide) : PE X (.Name x pos) (tE (gx X) Wx (fC w)) := e_c (pe_glob hg hm q hd) hr
theorem e_gl {x : Str} {a : Addr} (hg : Gl X x) (hm : X.mg x = some (.ref a)) (hd : (x == ("__debug__" : Str)) = false := by decide) : PE X (.Name x pos) (tE (gx X) Wx (fC (.gl x))) := e_glob (v := .ref a) hg hm rfl (fun _ _ => .gl hm) hd
theorem e_ty {x : Str} {n : String} (hg : Gl X x) (hm : X.mg x = none) (hv : bootBuiltins x = some (.type n)) (hn : x ≠ "__name__" := by decide) (hd : (x == ("__debug__" : Str)) = false := by decide) : PE X (.Name x pos) (tE (gx X) Wx (fC (.ty n))) :=
  e_c (v := .ty n) (pe_bltn hg hm hv rfl hn hd) fun _ _ => .ty n

/-! ### operators -/
/-- r asks no more than g says -/
def OpRf (G : Gx) (r : R2) (g : W → W → Sto → An W) : Prop := ∀ (x y : W) (st : Sto) (l : List Addr) (H : Hp) (vx vy : V) (Q : VK) (Wx : WX) (s : L2.St), Sim G l H st → Rep G l H x vx → Rep G l H y vy →
  Po G Wx s (fun w r' H' => ∀ v, Rep G r' H' w v → Q v H') l H (g x y st) → r vx vy H Q
def fBin (g : W → W → Sto → An W) (fa fb : FE) : FE := fun env st => (fa env st).bind fun x st1 => (fb env st1).bind fun y st2 => g x y st2
theorem bin_imp {G : Gx} {r : R2} {g : W → W → Sto → An W} {fa fb : FE} (hg : OpRf G r g) {s : L2.St} {H : Hp} {Q : VK} (h : tE G Wx (fBin g fa fb) s H Q) : tOp r (tE G Wx fa) (tE G Wx fb) s H Q := by
  obtain ⟨env, l, st, en, sm, p⟩ := h
  refine ⟨env, l, st, en, sm, (Po.bind p).imp fun x l1 H1 g1 ⟨st1, sm1, _, p1⟩ vx rx => ?_⟩
  refine ⟨env, l1, st1, en.grow g1, sm1, (Po.bind p1).imp fun y l2 H2 g2 ⟨st2, sm2, _, p2⟩ vy ry => ?_⟩
  exact hg x y st2 l2 H2 vx vy Q Wx s sm2 (rx.grow g2) ry p2
theorem e_op {op : Operator} {a b : Expr} {r : R2} {g : W → W → Sto → An W} {fa fb : FE} (ho : OpR X (binaryOp op) r) (hg : OpRf (gx X) r g) (ha : PE X a (tE (gx X) Wx fa)) (hb : PE X b (tE (gx X) Wx fb)) : PE X (.BinOp a op b pos) (tE (gx X) Wx (fBin g fa fb)) :=
  (pe_op ho ha hb).imp fun s H Q h => bin_imp hg h
end
end Sw
/-! Sw3: operators. -/
namespace Sw
open PySem PySem.Spec PyProof.Rows L2

/-- the items of a list -/
def getL (st : Sto) : W → Option (List W)
  | .rol l => some l
  | .ref n => match st[n]? with
    | some (.lst l) => some l
    | _ => none
  | _ => none
theorem getL_rep {G : Gx} {r : List Addr} {H : Hp} {st : Sto} {x : W} {v : V} {l : List W} (sm : Sim G r H st) (h : Rep G r H x v) (e : getL st x = some l) : ∃ a vs, v = .ref a ∧ SqL G.K H a vs ∧ RepL G r H l vs := by
  cases h with
  | rol h k =>
    simp only [getL, Option.some.injEq] at e
    subst e
    exact ⟨_, _, rfl, h.sq, k⟩
  | @ref n a h =>
    simp only [getL] at e
    split at e
    · rename_i l' hl
      cases e
      obtain ⟨vs, e2, k⟩ := sm.got hl h
      exact ⟨a, vs, rfl, .inl (.inl e2), k⟩
    · cases e
  | _ => simp [getL] at e
/-- a new list comes to be -/
theorem Po.newL {G : Gx} {Wx : WX} {s : L2.St} {r : List Addr} {H : Hp} {st : Sto} {l : List W} {vs : List V} {Q : VK} (sm : Sim G r H st) (k : RepL G r H l vs)
    (h : Po G Wx s (fun w r' H' => ∀ v, Rep G r' H' w v → Q v H') r H (.ok (.ref st.length) (st ++ [.lst l]))) : ∀ p, H p = none → Q (.ref p) (upd H p (.lst vs)) := fun p hp => by
  have g : Grow r H (r ++ [p]) (upd H p (.lst vs)) := Grow.one (Stay.new hp)
  have s2 : Sim G (r ++ [p]) (upd H p (.lst vs)) (st ++ [.lst l]) := sm.newU hp ⟨vs, upd_same, k.grow g⟩
  exact h _ _ g s2 _ (.ref (by rw [← sm.len, List.getElem?_append_right (Nat.le_refl _)]; simp))
theorem Po.newT {G : Gx} {Wx : WX} {s : L2.St} {r : List Addr} {H : Hp} {st : Sto} {l : List W} {vs : List V} {Q : VK} (sm : Sim G r H st) (k : RepL G r H l vs)
    (h : Po G Wx s (fun w r' H' => ∀ v, Rep G r' H' w v → Q v H') r H (.ok (.tup l) st)) : ∀ p, H p = none → Q (.ref p) (upd H p (.tup vs)) := fun p hp => by
  have g : Grow r H r (upd H p (.tup vs)) := Grow.same (Stay.new hp)
  have s2 : Sim G r (upd H p (.tup vs)) st := by
    refine ⟨sm.len, sm.nd, fun n o a e1 e2 => (sm.ob n o a e1 e2).keep g fun c u _ e => ?_⟩
    rw [upd_ne (ne_of_none e hp)]
    exact e
  exact h _ _ g s2 _ (.tup (.inl (.inl upd_same)) (k.grow g))
theorem Sim.tup {G : Gx} {r : List Addr} {H : Hp} {st : Sto} (sm : Sim G r H st) {p : Addr} {vs : List V} (hp : H p = none) : Sim G r (upd H p (.tup vs)) st :=
  ⟨sm.len, sm.nd, fun n o a e1 e2 => (sm.ob n o a e1 e2).keep (Grow.same (Stay.new hp)) fun c u _ e => by rw [upd_ne (ne_of_none e hp)]; exact e⟩

/-! ### whole numbers -/
def BigN : Nat := 2 ^ 9000
theorem small_big {n : Nat} (h : n ≤ 10 ^ 400) : n < BigN := Nat.lt_of_le_of_lt h (by decide +kernel)
theorem two_big {n k : Nat} (h : n < 2 ^ k) (hk : k ≤ 9000) : n < BigN := Nat.lt_of_lt_of_le h (Nat.pow_le_pow_right (by decide) hk)
theorem big_log {n : Nat} (h : n < BigN) : n.log2 < 9000 := PySem.Flt.log2_lt_of (by decide) h
def wI (f : Int → Int → W) : W → W → Sto → An W
  | .int i, .int j, st => .ok (f i j) st
  | _, _, _ => .bad
def wIc (c : Int → Int → Bool) (f : Int → Int → W) : W → W → Sto → An W
  | .int i, .int j, st => if c i j then .ok (f i j) st else .bad
  | _, _, _ => .bad
theorem rf_I {G : Gx} {g : Int → Int → V} {f : Int → Int → W} (h : ∀ i j r H, Rep G r H (f i j) (g i j)) : OpRf G (rI0 g) (wI f) := by
  intro x y st l H vx vy Q Wx s sm rx ry p
  cases rx <;> cases ry <;> first | exact p.elim | exact ⟨_, _, rfl, rfl, Po.ok p sm _ (h _ _ _ _)⟩
theorem rf_Ic {G : Gx} {C : Int → Int → Prop} {g : Int → Int → V} {c : Int → Int → Bool} {f : Int → Int → W} (hc : ∀ i j, c i j = true → C i j) (h : ∀ i j, c i j = true → ∀ r H, Rep G r H (f i j) (g i j)) : OpRf G (rI C g) (wIc c f) := by
  intro x y st l H vx vy Q Wx s sm rx ry p
  cases rx <;> cases ry <;> first | exact p.elim | skip
  rename_i i j
  simp only [wIc] at p
  by_cases hk : c i j = true
  · rw [if_pos hk] at p
    exact ⟨_, _, rfl, rfl, hc i j hk, Po.ok p sm _ (h i j hk _ _)⟩
  · rw [if_neg hk] at p
    exact p.elim
def wSub : W → W → Sto → An W := wI fun i j => .int (i - j)
theorem rf_sub {G : Gx} : OpRf G (rI0 fun i j => .int (i - j)) wSub := rf_I fun _ _ _ _ => .int _
def cDiv (_ j : Int) : Bool := decide (0 < j ∧ j.natAbs < BigN)
def wFdiv : W → W → Sto → An W := wIc cDiv fun i j => .int (i / j)
theorem rf_fdiv {G : Gx} : OpRf G (rI CDivW fun i j => .int (i / j)) wFdiv := rf_Ic (fun i j h => by
  have h' := of_decide_eq_true h
  exact ⟨h'.1, big_log h'.2⟩) fun _ _ _ _ _ => .int _
def cMod (_ j : Int) : Bool := decide (0 < j)
def wMod : W → W → Sto → An W := wIc cMod fun i j => .int (i % j)
theorem rf_mod {G : Gx} : OpRf G (rI (fun _ j => 0 < j) fun i j => .int (i % j)) wMod := rf_Ic (fun i j h => of_decide_eq_true h) fun _ _ _ _ _ => .int _
def cPow (i j : Int) : Bool := decide (0 ≤ j ∧ j ≤ 100 ∧ i.natAbs < 2 ^ 300)
def wPow : W → W → Sto → An W := wIc cPow fun i j => .int (i ^ j.toNat)
def CPowW (i j : Int) : Prop := 0 ≤ j ∧ (Builtin.Int.intBits i : Int) * j ≤ 2 ^ 27
theorem op_powW {X : Cx} : OpR X (binaryOp .Pow) (rI CPowW fun i j => .int (i ^ j.toNat)) := opI fun _ _ _ _ _ _ _ hc q => PyProof.Rows.pow_int hc.1 hc.2 q
def cMul (i j : Int) : Bool := decide (i.natAbs < BigN ∧ j.natAbs < BigN)
def wAnd : W → W → Sto → An W := wI fun i j => .int (Builtin.bitAnd i j)
theorem rf_and {G : Gx} : OpRf G (rI0 fun i j => .int (Builtin.bitAnd i j)) wAnd := rf_I fun _ _ _ _ => .int _
def wOr : W → W → Sto → An W := wI fun i j => .int (Builtin.bitOr i j)
theorem rf_or {G : Gx} : OpRf G (rI0 fun i j => .int (Builtin.bitOr i j)) wOr := rf_I fun _ _ _ _ => .int _
theorem rf_pow {G : Gx} : OpRf G (rI CPowW fun i j => .int (i ^ j.toNat)) wPow := rf_Ic (fun i j h => by
  have h' := of_decide_eq_true h
  refine ⟨h'.1, ?_⟩
  have hb : Builtin.Int.intBits i ≤ 300 := PyProof.Rows.intBits_le h'.2.2
  have h1 : (Builtin.Int.intBits i : Int) * j ≤ 300 * j := Int.mul_le_mul_of_nonneg_right (by omega) h'.1
  omega) fun _ _ _ _ _ => .int _

/-! ### x + y -/
def rCatL (K : PySem.W.Frag) : R2 := fun x y H Q => ∃ l b xs zs, x = .ref l ∧ y = .ref b ∧ SqL K H l xs ∧ SqL K H b zs ∧ xs.length + zs.length ≤ sizeLine ∧ ∀ p, H p = none → Q (.ref p) (upd H p (.lst (xs ++ zs)))
theorem op_catL {X : Cx} : OpR X (binaryOp .Add) (rCatL X.K) := by
  intro pins s σ H x y v u Q I rx ry h
  obtain ⟨l, b, xs, zs, rfl, rfl, hH, hB, hz, q⟩ := h
  cases rx
  cases ry
  obtain ⟨its, r, ⟨⟨cls, dd, data, sl⟩, n, ho, hc, hn, hd⟩, z⟩ := I.list hH
  obtain ⟨its2, r2, ⟨⟨cls2, dd2, data2, sl2⟩, n2, ho2, hc2, hn2, hd2⟩, z2⟩ := I.list hB
  simp only at hc hd hc2 hd2
  subst hc hd hc2 hd2
  have e : its.toArray ++ its2.toArray = (its ++ its2).toArray := by simp
  have hl := r.length
  have hl2 := r2.length
  refine concat_meets ⟨_, ho, rfl⟩ ⟨_, ho2, rfl⟩ noFill_list_add seq_list_add PySem.F.slot_list_add PySem.F.entry_list_add (PySem.F.args_list_add_2 _ _) (list_addW l b its.toArray its2.toArray n n2 dd dd2 sl sl2 (by simp; omega)) ⟨ho, ho2, ?_⟩
  rw [e]
  exact ⟨.ref _, _, I.lnew (t' := s.toks) (r.append r2) (by rw [List.length_append]; omega), rfl, q _ I.fresh⟩
def wAdd : W → W → Sto → An W
  | .int i, .int j, st => .ok (.int (i + j)) st
  | .str i, .str j, st => if i.length + j.length ≤ sizeLine then .ok (.str (i ++ j)) st else .bad
  | .tup a, .tup b, st => if a.length + b.length ≤ sizeLine then .ok (.tup (a ++ b)) st else .bad
  | x, y, st => match getL st x, getL st y with
    | some a, some b => if a.length + b.length ≤ sizeLine then .ok (.ref st.length) (st ++ [.lst (a ++ b)]) else .bad
    | _, _ => .bad
def rAddW (K : PySem.W.Frag) : R2 := fun x y H Q => rI0 (fun i j => .int (i + j)) x y H Q ∨ (∃ i j, x = .str i ∧ y = .str j ∧ i.length + j.length ≤ sizeLine ∧ Q (.str (i ++ j)) H) ∨ rCatA K x y H Q ∨ rCatL K x y H Q
theorem op_addW {X : Cx} : OpR X (binaryOp .Add) (rAddW X.K) := op_add.or (op_add_str.or (op_catA.or op_catL))
theorem ite_bad {α : Type} {c : Prop} {inst : Decidable c} {G : Gx} {Wx : WX} {s : L2.St} {P : α → List Addr → Hp → Prop} {r : List Addr} {H : Hp} {m : An α} (p : Po G Wx s P r H (if c then m else .bad)) : c ∧ Po G Wx s P r H m := by
  by_cases h : c
  · rw [if_pos h] at p
    exact ⟨h, p⟩
  · rw [if_neg h] at p
    exact p.elim
theorem rf_catL {G : Gx} {x y : W} {st : Sto} {l : List Addr} {H : Hp} {vx vy : V} {Q : VK} {Wx : WX} {s : L2.St} (sm : Sim G l H st) (rx : Rep G l H x vx) (ry : Rep G l H y vy)
    (p : Po G Wx s (fun w r' H' => ∀ v, Rep G r' H' w v → Q v H') l H (match getL st x, getL st y with
      | some a, some b => if a.length + b.length ≤ sizeLine then .ok (.ref st.length) (st ++ [.lst (a ++ b)]) else .bad
      | _, _ => .bad)) : rCatL G.K vx vy H Q := by
  cases ex : getL st x with
  | none => simp only [ex] at p; exact p.elim
  | some a =>
    cases ey : getL st y with
    | none => simp only [ex, ey] at p; exact p.elim
    | some b =>
      simp only [ex, ey] at p
      obtain ⟨hz, p⟩ := ite_bad p
      obtain ⟨ax, xs, rfl, hx, kx⟩ := getL_rep sm rx ex
      obtain ⟨ay, ys, rfl, hy, ky⟩ := getL_rep sm ry ey
      exact ⟨ax, ay, xs, ys, rfl, rfl, hx, hy, by rw [← kx.length, ← ky.length]; exact hz, Po.newL sm (kx.append ky) p⟩
theorem rf_add {G : Gx} : OpRf G (rAddW G.K) wAdd := by
  intro x y st l H vx vy Q Wx s sm rx ry p
  cases rx with
  | int i =>
    cases ry with
    | int j => exact .inl ⟨i, j, rfl, rfl, Po.ok p sm _ (.int _)⟩
    | _ => exact p.elim
  | str i =>
    cases ry with
    | str j =>
      obtain ⟨hz, p⟩ := ite_bad p
      exact .inr (.inl ⟨i, j, rfl, rfl, hz, Po.ok p sm _ (.str _)⟩)
    | _ => exact p.elim
  | @tup la a xs ha ka =>
    cases ry with
    | @tup lb b ys hb kb =>
      obtain ⟨hz, p⟩ := ite_bad p
      refine .inr (.inr (.inl ⟨a, b, xs, ys, rfl, rfl, ha, hb, by rw [← ka.length, ← kb.length]; exact hz, fun e => ?_, fun e1 e2 => ?_, fun _ _ => Po.newT sm (ka.append kb) p⟩))
      · subst e
        cases ka
        exact Po.ok p sm _ (.tup hb kb)
      · subst e2
        cases kb
        exact Po.ok p sm _ (.tup ha (by rw [List.append_nil]; exact ka))
    | _ => exact p.elim
  | rol h k => exact .inr (.inr (.inr (rf_catL sm (.rol h k) ry (by cases ry <;> exact p))))
  | ref h => exact .inr (.inr (.inr (rf_catL sm (.ref h) ry (by cases ry <;> exact p))))
  | _ => cases ry <;> exact p.elim

/-! ### x * y -/
def wMul : W → W → Sto → An W
  | .int i, .int j, st => if i.natAbs < BigN ∧ j.natAbs < BigN then .ok (.int (i * j)) st else .bad
  | .tup a, .int k, st => if a ≠ [] ∧ 2 ≤ k ∧ k ≤ 1000 ∧ a.length ≤ 1000 then .ok (.tup (List.replicate k.toNat a).flatten) st else .bad
  | .ref n, .int k, st => match st[n]? with
    | some (.lst a) => if 0 ≤ k ∧ k ≤ 1000 ∧ a.length ≤ 1000 then .ok (.ref st.length) (st ++ [.lst (List.replicate k.toNat a).flatten]) else .bad
    | _ => .bad
  | _, _, _ => .bad
def rMulW (K : PySem.W.Frag) : R2 := fun x y H Q => rI CMulW (fun i j => .int (i * j)) x y H Q ∨ rRepT K x y H Q ∨ rRep x y H Q
theorem op_mulA {X : Cx} : OpR X (binaryOp .Mult) (rMulW X.K) := op_mulW.or (op_repT.or op_rep)
theorem rf_mul {G : Gx} : OpRf G (rMulW G.K) wMul := by
  intro x y st l H vx vy Q Wx s sm rx ry p
  cases rx with
  | int i =>
    cases ry with
    | int j =>
      obtain ⟨hz, p⟩ := ite_bad p
      refine .inl ⟨i, j, rfl, rfl, ?_, Po.ok p sm _ (.int _)⟩
      have h1 := big_log hz.1
      have h2 := big_log hz.2
      show i.natAbs.log2 + j.natAbs.log2 < 1000000
      omega
    | _ => exact p.elim
  | @tup la a xs ha ka =>
    cases ry with
    | int k =>
      obtain ⟨hz, p⟩ := ite_bad p
      refine .inr (.inl ⟨a, k, xs, rfl, rfl, ha, fun e => ?_, hz.2.1, hz.2.2.1, by rw [← ka.length]; exact hz.2.2.2, Po.newT sm (ka.flat _) p⟩)
      subst e
      cases ka
      exact hz.1 rfl
    | _ => exact p.elim
  | @ref n a h =>
    cases ry with
    | int k =>
      simp only [wMul] at p
      split at p
      · rename_i la e
        obtain ⟨hz, p⟩ := ite_bad p
        obtain ⟨vs, e2, kk⟩ := sm.got e h
        refine .inr (.inr ⟨a, k, vs, rfl, rfl, e2, by omega, by omega, ?_, Po.newL sm (kk.flat _) p⟩)
        rw [← kk.length]
        have h1 : la.length * k.toNat ≤ 1000 * 1000 := Nat.mul_le_mul hz.2.2 (by omega)
        exact Nat.le_trans h1 (by decide)
      · exact p.elim
    | _ => exact p.elim
  | _ => cases ry <;> exact p.elim

end Sw
/-! Sw4: truth, tests, comparisons. -/
namespace Sw
open PySem PySem.Spec PyProof.Rows L2

/-! ### truth -/
def truW (st : Sto) : W → Option Bool
  | .non => some false
  | .bl b => some b
  | .int i => some (i != 0)
  | .str y => if y.length ≤ sizeLine then some ((y.length : Int) != 0) else none
  | .tup l => some (!l.isEmpty)
  | .rol l => some (!l.isEmpty)
  | .ref n => match st[n]? with
    | some (.lst l) => some (!l.isEmpty)
    | some (.dct l) => some (!l.isEmpty)
    | _ => none
  | _ => none
theorem RepL.empty {G : Gx} {r : List Addr} {H : Hp} {ws : List W} {vs : List V} (k : RepL G r H ws vs) : (!ws.isEmpty) = !vs.isEmpty := by cases k <;> rfl
theorem RepD.empty {G : Gx} {r : List Addr} {H : Hp} {ws : List (Key × W)} {vs : List (Key × V)} (k : RepD G r H ws vs) : (!ws.isEmpty) = !vs.isEmpty := by cases k <;> rfl
theorem truW_rep {G : Gx} {r : List Addr} {H : Hp} {st : Sto} {x : W} {v : V} {b : Bool} (sm : Sim G r H st) (h : Rep G r H x v) (e : truW st x = some b) : TruV G.K v H b := by
  cases h with
  | non => cases e; rfl
  | bl c => cases e; rfl
  | int c => cases e; rfl
  | str c =>
    simp only [truW] at e
    split at e
    · rename_i hz
      cases e
      exact ⟨hz, rfl⟩
    · cases e
  | ty n => cases e
  | tup h k =>
    cases e
    exact .inr (.inl ⟨_, h, k.empty⟩)
  | rol h k =>
    cases e
    exact .inl ⟨_, h.sq, k.empty⟩
  | gl h => cases e
  | ref h =>
    simp only [truW] at e
    split at e
    · rename_i l hl
      cases e
      obtain ⟨vs, e2, k⟩ := sm.got hl h
      exact .inl ⟨vs, .inl (.inl e2), k.empty⟩
    · rename_i l hl
      cases e
      obtain ⟨vs, e2, k⟩ := sm.got hl h
      exact .inr (.inr ⟨vs, e2, k.empty⟩)
    · cases e
def optB {α : Type} (o : Option α) (st : Sto) : An α := match o with
  | some b => .ok b st
  | none => .bad
@[simp] theorem optB_some {α : Type} (b : α) (st : Sto) : optB (some b) st = .ok b st := rfl
@[simp] theorem optB_none {α : Type} (st : Sto) : optB (none : Option α) st = .bad := rfl
theorem Po.optB {α : Type} {G : Gx} {Wx : WX} {s : L2.St} {P : α → List Addr → Hp → Prop} {r : List Addr} {H : Hp} {o : Option α} {st : Sto} (p : Po G Wx s P r H (optB o st)) (sm : Sim G r H st) : ∃ b, o = some b ∧ P b r H := by
  cases o with
  | none => exact p.elim
  | some b => exact ⟨b, rfl, Po.ok p sm⟩
/-- a value's truth as a test -/
def fTru (f : FE) : FT := fun env st => (f env st).bind fun x st1 => optB (truW st1 x) st1
section
variable {X : Cx} {Wx : WX} {pos : Pos} {a b c : Expr} {fa fb fc : FE} {ta tb : FT} {rest : List Expr}
theorem t_tru (h : PE X a (tE (gx X) Wx fa)) (he : ∀ whole, isTrue a X.env whole = (do let v ← whole; standAt a.pos; holding [v] (truthy v)) := by intro _; rfl) : PT X a (tT (gx X) Wx (fTru fa)) :=
  (pt_truth h he).imp fun s H Q h => by
    obtain ⟨env, l, st, en, sm, p⟩ := h
    refine ⟨env, l, st, en, sm, (Po.bind p).imp fun x l1 H1 g1 ⟨st1, sm1, _, p1⟩ vx rx => ?_⟩
    obtain ⟨k, e, q⟩ := Po.optB p1 sm1
    exact ⟨k, truW_rep sm1 rx e, q⟩
def fNotT (f : FT) : FT := fun env st => (f env st).bind fun x st1 => .ok (!x) st1
theorem t_not (h : PT X a (tT (gx X) Wx ta)) : PT X (.UnaryOp .Not a pos) (tT (gx X) Wx (fNotT ta)) := (pt_not h).imp fun s H Q h => by
  obtain ⟨env, l, st, en, sm, p⟩ := h
  exact ⟨env, l, st, en, sm, (Po.bind p).imp fun x l1 H1 g1 ⟨st1, sm1, _, p1⟩ => Po.ok p1 sm1⟩
def fAndT (f g : FT) : FT := fun env st => (f env st).bind fun x st1 => if x = true then g env st1 else .ok false st1
def fOrT (f g : FT) : FT := fun env st => (f env st).bind fun x st1 => if x = true then .ok true st1 else g env st1
theorem t_and1 (h : PT X a (tT (gx X) Wx ta)) : PW X (.BoolOp .And [a] pos) (tT (gx X) Wx ta) := pw_and1 h
theorem t_or1 (h : PT X a (tT (gx X) Wx ta)) : PW X (.BoolOp .Or [a] pos) (tT (gx X) Wx ta) := pw_or1 h
theorem t_and (h : PT X a (tT (gx X) Wx ta)) (h2 : PW X (.BoolOp .And (b :: rest) pos) (tT (gx X) Wx tb)) : PW X (.BoolOp .And (a :: b :: rest) pos) (tT (gx X) Wx (fAndT ta tb)) := (pw_and h h2).imp fun s H Q h => by
  obtain ⟨env, l, st, en, sm, p⟩ := h
  refine ⟨env, l, st, en, sm, (Po.bind p).imp fun x l1 H1 g1 ⟨st1, sm1, _, p1⟩ => ?_⟩
  cases x with
  | true => exact iteT ⟨env, l1, st1, en.grow g1, sm1, by simpa using p1⟩
  | false => exact iteF (Po.ok p1 sm1)
theorem t_or (h : PT X a (tT (gx X) Wx ta)) (h2 : PW X (.BoolOp .Or (b :: rest) pos) (tT (gx X) Wx tb)) : PW X (.BoolOp .Or (a :: b :: rest) pos) (tT (gx X) Wx (fOrT ta tb)) := (pw_or h h2).imp fun s H Q h => by
  obtain ⟨env, l, st, en, sm, p⟩ := h
  refine ⟨env, l, st, en, sm, (Po.bind p).imp fun x l1 H1 g1 ⟨st1, sm1, _, p1⟩ => ?_⟩
  cases x with
  | true => exact iteT (Po.ok p1 sm1)
  | false => exact iteF ⟨env, l1, st1, en.grow g1, sm1, by simpa using p1⟩
/-! ### and, or, not as values; a if t else b -/
def fOr (f g : FE) : FE := fun env st => (f env st).bind fun x st1 => (optB (truW st1 x) st1).bind fun k _ => if k = true then .ok x st1 else g env st1
def fAnd (f g : FE) : FE := fun env st => (f env st).bind fun x st1 => (optB (truW st1 x) st1).bind fun k _ => if k = true then g env st1 else .ok x st1
def fNot (f : FE) : FE := fun env st => (f env st).bind fun x st1 => (optB (truW st1 x) st1).bind fun k _ => .ok (.bl (!k)) st1
theorem e_one {op : BoolOp} (h : PE X a (tE (gx X) Wx fa)) : PE X (.BoolOp op [a] pos) (tE (gx X) Wx fa) := pe_one h
theorem e_or (h : PE X a (tE (gx X) Wx fa)) (h2 : PE X (.BoolOp .Or (b :: rest) pos) (tE (gx X) Wx fb)) : PE X (.BoolOp .Or (a :: b :: rest) pos) (tE (gx X) Wx (fOr fa fb)) := (pe_orT h h2).imp fun s H Q h => by
  obtain ⟨env, l, st, en, sm, p⟩ := h
  refine ⟨env, l, st, en, sm, (Po.bind p).imp fun x l1 H1 g1 ⟨st1, sm1, _, p1⟩ vx rx => ?_⟩
  cases e : truW st1 x with
  | none => rw [e] at p1; exact p1.elim
  | some k =>
    rw [e] at p1
    refine ⟨k, truW_rep sm1 rx e, ?_⟩
    cases k with
    | true => exact iteT (Po.ok p1 sm1 vx rx)
    | false => exact iteF ⟨env, l1, st1, en.grow g1, sm1, by simpa using p1⟩
theorem e_and (h : PE X a (tE (gx X) Wx fa)) (h2 : PE X (.BoolOp .And (b :: rest) pos) (tE (gx X) Wx fb)) : PE X (.BoolOp .And (a :: b :: rest) pos) (tE (gx X) Wx (fAnd fa fb)) := (pe_andT h h2).imp fun s H Q h => by
  obtain ⟨env, l, st, en, sm, p⟩ := h
  refine ⟨env, l, st, en, sm, (Po.bind p).imp fun x l1 H1 g1 ⟨st1, sm1, _, p1⟩ vx rx => ?_⟩
  cases e : truW st1 x with
  | none => rw [e] at p1; exact p1.elim
  | some k =>
    rw [e] at p1
    refine ⟨k, truW_rep sm1 rx e, ?_⟩
    cases k with
    | true => exact iteT ⟨env, l1, st1, en.grow g1, sm1, by simpa using p1⟩
    | false => exact iteF (Po.ok p1 sm1 vx rx)
theorem e_not (h : PE X a (tE (gx X) Wx fa)) : PE X (.UnaryOp .Not a pos) (tE (gx X) Wx (fNot fa)) := (pe_notT h).imp fun s H Q h => by
  obtain ⟨env, l, st, en, sm, p⟩ := h
  refine ⟨env, l, st, en, sm, (Po.bind p).imp fun x l1 H1 g1 ⟨st1, sm1, _, p1⟩ vx rx => ?_⟩
  cases e : truW st1 x with
  | none => rw [e] at p1; exact p1.elim
  | some k =>
    rw [e] at p1
    exact ⟨k, truW_rep sm1 rx e, Po.ok p1 sm1 _ (.bl _)⟩
def fIf (t : FT) (f g : FE) : FE := fun env st => (t env st).bind fun x st1 => if x = true then f env st1 else g env st1
theorem e_if (ht : PT X c (tT (gx X) Wx ta)) (h : PE X a (tE (gx X) Wx fa)) (h2 : PE X b (tE (gx X) Wx fb)) : PE X (.IfExp c a b pos) (tE (gx X) Wx (fIf ta fa fb)) := (pe_ifExp ht h h2).imp fun s H Q h => by
  obtain ⟨env, l, st, en, sm, p⟩ := h
  refine ⟨env, l, st, en, sm, (Po.bind p).imp fun x l1 H1 g1 ⟨st1, sm1, _, p1⟩ => ?_⟩
  cases x with
  | true => exact iteT ⟨env, l1, st1, en.grow g1, sm1, by simpa using p1⟩
  | false => exact iteF ⟨env, l1, st1, en.grow g1, sm1, by simpa using p1⟩
/-! ### unary minus -/
def fNeg (f : FE) : FE := fun env st => (f env st).bind fun x st1 => match x with
  | .int i => .ok (.int (-i)) st1
  | _ => .bad
theorem e_neg (h : PE X a (tE (gx X) Wx fa)) : PE X (.UnaryOp .USub a pos) (tE (gx X) Wx (fNeg fa)) := (pe_un un_neg h).imp fun s H Q h => by
  obtain ⟨env, l, st, en, sm, p⟩ := h
  refine ⟨env, l, st, en, sm, (Po.bind p).imp fun x l1 H1 g1 ⟨st1, sm1, _, p1⟩ vx rx => ?_⟩
  cases rx with
  | int i => exact ⟨i, rfl, Po.ok p1 sm1 _ (.int _)⟩
  | _ => exact p1.elim

/-! ### comparisons: g gives a truth -/
def OpRb (G : Gx) (r : R2) (g : W → W → Sto → Option Bool) : Prop := ∀ (x y : W) (st : Sto) (l : List Addr) (H : Hp) (vx vy : V) (Q : VK) (k : Bool), Sim G l H st → Rep G l H x vx → Rep G l H y vy → g x y st = some k → Q (.bl k) H → r vx vy H Q
def fCmp (g : W → W → Sto → Option Bool) (fa fb : FE) : FT := fun env st => (fa env st).bind fun x st1 => (fb env st1).bind fun y st2 => optB (g x y st2) st2
def fCmpE (g : W → W → Sto → Option Bool) (fa fb : FE) : FE := fun env st => (fa env st).bind fun x st1 => (fb env st1).bind fun y st2 => (optB (g x y st2) st2).bind fun k _ => .ok (.bl k) st2
theorem t_cmp {op : CmpOp} {r : R2} {g : W → W → Sto → Option Bool} (ho : OpR X (compareOp op) r) (hg : OpRb (gx X) r g) (ha : PE X a (tE (gx X) Wx fa)) (hb : PE X b (tE (gx X) Wx fb)) (hm : behindInMarks op b = false) : PT X (.Compare a [op] [b] pos) (tT (gx X) Wx (fCmp g fa fb)) :=
  (pt_cmpR ho ha hb hm).imp fun s H Q h => by
    obtain ⟨env, l, st, en, sm, p⟩ := h
    refine ⟨env, l, st, en, sm, (Po.bind p).imp fun x l1 H1 g1 ⟨st1, sm1, _, p1⟩ vx rx => ?_⟩
    refine ⟨env, l1, st1, en.grow g1, sm1, (Po.bind p1).imp fun y l2 H2 g2 ⟨st2, sm2, _, p2⟩ vy ry => ?_⟩
    obtain ⟨k, e, q⟩ := Po.optB p2 sm2
    exact hg x y st2 l2 H2 vx vy _ k sm2 (rx.grow g2) ry e ⟨k, rfl, q⟩
theorem e_cmp {op : CmpOp} {r : R2} {g : W → W → Sto → Option Bool} (ho : OpR X (compareOp op) r) (hg : OpRb (gx X) r g) (ha : PE X a (tE (gx X) Wx fa)) (hb : PE X b (tE (gx X) Wx fb)) (hm : behindInMarks op b = false) : PE X (.Compare a [op] [b] pos) (tE (gx X) Wx (fCmpE g fa fb)) :=
  (pe_cmpR ho ha hb hm).imp fun s H Q h => by
    obtain ⟨env, l, st, en, sm, p⟩ := h
    refine ⟨env, l, st, en, sm, (Po.bind p).imp fun x l1 H1 g1 ⟨st1, sm1, _, p1⟩ vx rx => ?_⟩
    refine ⟨env, l1, st1, en.grow g1, sm1, (Po.bind p1).imp fun y l2 H2 g2 ⟨st2, sm2, _, p2⟩ vy ry => ?_⟩
    cases e : g x y st2 with
    | none => rw [e] at p2; exact p2.elim
    | some k =>
      rw [e] at p2
      exact hg x y st2 l2 H2 vx vy _ k sm2 (rx.grow g2) ry e (Po.ok p2 sm2 _ (.bl k))
/-- a op b op' c -/
def fChn (g g' : W → W → Sto → Option Bool) (fa fb fc : FE) : FT := fun env st => (fa env st).bind fun x st1 => (fb env st1).bind fun y st2 => (optB (g x y st2) st2).bind fun k _ =>
  if k = true then (fc env st2).bind fun z st3 => optB (g' y z st3) st3 else .ok false st2
def fChnE (g g' : W → W → Sto → Option Bool) (fa fb fc : FE) : FE := fun env st => (fa env st).bind fun x st1 => (fb env st1).bind fun y st2 => (optB (g x y st2) st2).bind fun k _ =>
  if k = true then (fc env st2).bind fun z st3 => (optB (g' y z st3) st3).bind fun k _ => .ok (.bl k) st3 else .ok (.bl false) st2
theorem t_chn {op op' : CmpOp} {r r' : R2} {g g' : W → W → Sto → Option Bool} (ho : OpR X (compareOp op) r) (hg : OpRb (gx X) r g) (ho' : OpR X (compareOp op') r') (hg' : OpRb (gx X) r' g') (ha : PE X a (tE (gx X) Wx fa)) (hb : PE X b (tE (gx X) Wx fb)) (hc : PE X c (tE (gx X) Wx fc))
    (hm : lastMarks [op, op'] [b, c] = false := by with_unfolding_all rfl) : PT X (.Compare a [op, op'] [b, c] pos) (tT (gx X) Wx (fChn g g' fa fb fc)) :=
  (pt_chain ho ho' ha hb hc hm).imp fun s H Q h => by
    obtain ⟨env, l, st, en, sm, p⟩ := h
    refine ⟨env, l, st, en, sm, (Po.bind p).imp fun x l1 H1 g1 ⟨st1, sm1, _, p1⟩ vx rx => ?_⟩
    refine ⟨env, l1, st1, en.grow g1, sm1, (Po.bind p1).imp fun y l2 H2 g2 ⟨st2, sm2, _, p2⟩ vy ry => ?_⟩
    cases e : g x y st2 with
    | none => rw [e] at p2; exact p2.elim
    | some k =>
      rw [e] at p2
      refine hg x y st2 l2 H2 vx vy _ k sm2 (rx.grow g2) ry e ⟨k, rfl, ?_⟩
      cases k with
      | false => exact iteF ⟨false, rfl, Po.ok p2 sm2⟩
      | true =>
        simp only [optB_some, An.bind_ok, if_true] at p2
        refine iteT ⟨env, l2, st2, (en.grow g1).grow g2, sm2, (Po.bind p2).imp fun z l3 H3 g3 ⟨st3, sm3, _, p3⟩ vz rz => ?_⟩
        obtain ⟨k, e, q⟩ := Po.optB p3 sm3
        exact hg' y z st3 l3 H3 vy vz _ k sm3 (ry.grow g3) rz e ⟨k, rfl, q⟩
theorem e_chn {op op' : CmpOp} {r r' : R2} {g g' : W → W → Sto → Option Bool} (ho : OpR X (compareOp op) r) (hg : OpRb (gx X) r g) (ho' : OpR X (compareOp op') r') (hg' : OpRb (gx X) r' g') (ha : PE X a (tE (gx X) Wx fa)) (hb : PE X b (tE (gx X) Wx fb)) (hc : PE X c (tE (gx X) Wx fc))
    (hm : lastMarks [op, op'] [b, c] = false := by with_unfolding_all rfl) : PE X (.Compare a [op, op'] [b, c] pos) (tE (gx X) Wx (fChnE g g' fa fb fc)) :=
  (pe_chain ho ho' ha hb hc hm).imp fun s H Q h => by
    obtain ⟨env, l, st, en, sm, p⟩ := h
    refine ⟨env, l, st, en, sm, (Po.bind p).imp fun x l1 H1 g1 ⟨st1, sm1, _, p1⟩ vx rx => ?_⟩
    refine ⟨env, l1, st1, en.grow g1, sm1, (Po.bind p1).imp fun y l2 H2 g2 ⟨st2, sm2, _, p2⟩ vy ry => ?_⟩
    cases e : g x y st2 with
    | none => rw [e] at p2; exact p2.elim
    | some k =>
      rw [e] at p2
      refine hg x y st2 l2 H2 vx vy _ k sm2 (rx.grow g2) ry e ⟨k, rfl, ?_⟩
      cases k with
      | false => exact iteF (Po.ok p2 sm2 _ (.bl _))
      | true =>
        simp only [optB_some, An.bind_ok, if_true] at p2
        refine iteT ⟨env, l2, st2, (en.grow g1).grow g2, sm2, (Po.bind p2).imp fun z l3 H3 g3 ⟨st3, sm3, _, p3⟩ vz rz => ?_⟩
        cases e : g' y z st3 with
        | none => rw [e] at p3; exact p3.elim
        | some k =>
          rw [e] at p3
          exact hg' y z st3 l3 H3 vy vz _ k sm3 (ry.grow g3) rz e (Po.ok p3 sm3 _ (.bl k))
end

/-! ### <, <=, >, >= of whole numbers -/
def wIb (f : Int → Int → Bool) : W → W → Sto → Option Bool
  | .int i, .int j, _ => some (f i j)
  | _, _, _ => none
theorem rb_I {G : Gx} {f : Int → Int → Bool} : OpRb G (rI0 fun i j => .bl (f i j)) (wIb f) := by
  intro x y st l H vx vy Q k sm rx ry e q
  cases rx <;> cases ry <;> first | cases e | skip
  exact ⟨_, _, rfl, rfl, q⟩
def wLt : W → W → Sto → Option Bool := wIb fun i j => decide (i < j)
def wLe : W → W → Sto → Option Bool := wIb fun i j => decide (i ≤ j)
def wGt : W → W → Sto → Option Bool := wIb fun i j => decide (j < i)
def wGe : W → W → Sto → Option Bool := wIb fun i j => decide (j ≤ i)

/-! ### is None -/
def wIsN : W → W → Sto → Option Bool
  | .non, .non, _ => some true
  | _, .non, _ => some false
  | _, _, _ => none
def wNotN : W → W → Sto → Option Bool := fun x y st => (wIsN x y st).map (!·)
theorem wIsN_rep {G : Gx} {l : List Addr} {H : Hp} {x y : W} {vx vy : V} {k : Bool} {st : Sto} (rx : Rep G l H x vx) (ry : Rep G l H y vy) (e : wIsN x y st = some k) : vy = .non ∧ k = decide (vx = .non) := by
  cases ry <;> cases rx <;> first | (cases e; exact ⟨rfl, by simp⟩) | cases e
theorem rb_isN {G : Gx} : OpRb G (fun x y H Q => y = .non ∧ Q (.bl (decide (x = .non))) H) wIsN := by
  intro x y st l H vx vy Q k sm rx ry e q
  obtain ⟨h1, h2⟩ := wIsN_rep rx ry e
  exact ⟨h1, by rw [← h2]; exact q⟩
theorem rb_notN {G : Gx} : OpRb G (fun x y H Q => y = .non ∧ Q (.bl (!decide (x = .non))) H) wNotN := by
  intro x y st l H vx vy Q k sm rx ry e q
  unfold wNotN at e
  cases e2 : wIsN x y st with
  | none => rw [e2] at e; cases e
  | some k' =>
    rw [e2] at e
    cases e
    obtain ⟨h1, h2⟩ := wIsN_rep rx ry e2
    exact ⟨h1, by rw [← h2]; exact q⟩

/-! ### ==, != -/
def toD (st : Sto) : Nat → W → Option PyData
  | 0, _ => none
  | k + 1, x => match x with
    | .non => some .none
    | .bl b => some (.bool b)
    | .int i => some (.int i)
    | .str y => if PyData.canLay0 (.str y) = true then some (.str y) else none
    | .tup l => (l.mapM (toD st k)).map .tuple
    | .rol l => (l.mapM (toD st k)).map .list
    | .ref n => match st[n]? with
      | some (.lst l) => (l.mapM (toD st k)).map .list
      | _ => none
    | _ => none
theorem mapM_some {α β : Type} {f : α → Option β} : ∀ {l : List α} {m : List β}, l.mapM f = some m → ∀ {P : List α → List β → Prop}, P [] [] → (∀ a b l m, f a = some b → P l m → P (a :: l) (b :: m)) → P l m
  | [], m, h, P, h0, _ => by
    simp at h
    subst h
    exact h0
  | a :: l, m, h, P, h0, h1 => by
    rw [List.mapM_cons] at h
    cases e : f a with
    | none => rw [e] at h; cases h
    | some b =>
      rw [e] at h
      cases e2 : l.mapM f with
      | none => simp [e2] at h
      | some m' =>
        simp [e2] at h
        subst h
        exact h1 a b l m' e (mapM_some e2 h0 h1)
theorem toD_ok {G : Gx} {r : List Addr} {H : Hp} {st : Sto} (sm : Sim G r H st) : ∀ (k : Nat) {x : W} {v : V} {d : PyData}, toD st k x = some d → Rep G r H x v → Dp G.K H v d ∧ d.canLay0 = true ∧ d.depth ≤ k
  | 0, x, v, d, e, _ => by simp [toD] at e
  | k + 1, x, v, d, e, h => by
    have all : ∀ {l : List W} {vs : List V} {ds : List PyData}, l.mapM (toD st k) = some ds → RepL G r H l vs → DpAll G.K H vs ds ∧ PyData.canLayAll0 ds = true ∧ PyData.depthAll ds ≤ k := fun {l vs ds} e q => by
      refine mapM_some e (P := fun l ds => ∀ vs, RepL G r H l vs → DpAll G.K H vs ds ∧ PyData.canLayAll0 ds = true ∧ PyData.depthAll ds ≤ k) (fun vs q => ?_) (fun a b l m ea ih vs q => ?_) vs q
      · cases q
        exact ⟨.nil, by simp [PyData.canLayAll0], by simp [PyData.depthAll]⟩
      · cases q with
        | cons q1 q2 =>
          obtain ⟨h1, h2, h3⟩ := toD_ok sm k ea q1
          obtain ⟨i1, i2, i3⟩ := ih _ q2
          exact ⟨.cons h1 i1, by simp [PyData.canLayAll0, h2, i2], by simp only [PyData.depthAll]; omega⟩
    cases h with
    | non => cases e; exact ⟨.non, by simp [PyData.canLay0], by simp [PyData.depth]⟩
    | bl b => cases e; exact ⟨.bl b, by simp [PyData.canLay0], by simp [PyData.depth]⟩
    | int b => cases e; exact ⟨.int b, by simp [PyData.canLay0], by simp [PyData.depth]⟩
    | str b =>
      simp only [toD] at e
      split at e
      · rename_i hc
        cases e
        exact ⟨.str b, hc, by simp [PyData.depth]⟩
      · cases e
    | tup h q =>
      simp only [toD] at e
      obtain ⟨ds, e1, rfl⟩ := Option.map_eq_some_iff.mp e
      obtain ⟨h1, h2, h3⟩ := all e1 q
      exact ⟨.tup h h1, by simpa [PyData.canLay0] using h2, by simp only [PyData.depth]; omega⟩
    | rol h q =>
      simp only [toD] at e
      obtain ⟨ds, e1, rfl⟩ := Option.map_eq_some_iff.mp e
      obtain ⟨h1, h2, h3⟩ := all e1 q
      exact ⟨.lst h.sq h1, by simpa [PyData.canLay0] using h2, by simp only [PyData.depth]; omega⟩
    | ref h =>
      simp only [toD] at e
      split at e
      · rename_i l hl
        obtain ⟨ds, e1, rfl⟩ := Option.map_eq_some_iff.mp e
        obtain ⟨vs, e2, q⟩ := sm.got hl h
        obtain ⟨h1, h2, h3⟩ := all e1 q
        exact ⟨.lst (.inl (.inl e2)) h1, by simpa [PyData.canLay0] using h2, by simp only [PyData.depth]; omega⟩
      · cases e
    | ty n => simp [toD] at e
    | gl h => simp [toD] at e
theorem toD_shaped {d : PyData} (h : d.canLay0 = true) (k : d.depth ≤ 64) : SeqAt.shaped d = true := by
  unfold SeqAt.shaped
  rw [h, decide_eq_true k]
  rfl
def eqW (st : Sto) : W → W → Option Bool
  | .int i, .int j => some (decide (i = j))
  | .str i, .str j => some (decide (i = j))
  | x, y => (toD st 64 x).bind fun d => (toD st 64 y).map fun e => PyData.eqv d e
def wEq : W → W → Sto → Option Bool := fun x y st => eqW st x y
def wNe : W → W → Sto → Option Bool := fun x y st => (eqW st x y).map (!·)
def rEqW (K : PySem.W.Frag) : R2 := fun x y H Q => rEq x y H Q ∨ rEqD K x y H Q
def rNeW (K : PySem.W.Frag) : R2 := fun x y H Q => rNe x y H Q ∨ rNeD K x y H Q
theorem op_eqW {X : Cx} (hu : X.A.units + 64 < cLine) : OpR X (compareOp .Eq) (rEqW X.K) := op_eq.or (op_eqD hu)
theorem op_neW {X : Cx} (hu : X.A.units + 64 < cLine) : OpR X (compareOp .NotEq) (rNeW X.K) := op_ne.or (op_neD hu)
theorem eqW_rep {G : Gx} {r : List Addr} {H : Hp} {st : Sto} (sm : Sim G r H st) {x y : W} {vx vy : V} {k : Bool} (rx : Rep G r H x vx) (ry : Rep G r H y vy) (e : eqW st x y = some k) :
    (scal vx vy = true ∧ k = decide (vx = vy)) ∨ ∃ d d', Dp G.K H vx d ∧ Dp G.K H vy d' ∧ SeqAt.shaped d = true ∧ SeqAt.shaped d' = true ∧ k = PyData.eqv d d' := by
  have deep : ((toD st 64 x).bind fun d => (toD st 64 y).map fun e => PyData.eqv d e) = some k → (scal vx vy = true ∧ k = decide (vx = vy)) ∨ ∃ d d', Dp G.K H vx d ∧ Dp G.K H vy d' ∧ SeqAt.shaped d = true ∧ SeqAt.shaped d' = true ∧ k = PyData.eqv d d' := fun e => by
    obtain ⟨d, e1, e⟩ := Option.bind_eq_some_iff.mp e
    obtain ⟨d', e2, e⟩ := Option.map_eq_some_iff.mp e
    obtain ⟨h1, h2, h3⟩ := toD_ok sm 64 e1 rx
    obtain ⟨i1, i2, i3⟩ := toD_ok sm 64 e2 ry
    exact .inr ⟨d, d', h1, i1, toD_shaped h2 h3, toD_shaped i2 i3, e.symm⟩
  cases rx with
  | int i =>
    cases ry with
    | int j => cases e; exact .inl ⟨rfl, by simp⟩
    | _ => exact deep e
  | str i =>
    cases ry with
    | str j => cases e; exact .inl ⟨rfl, by simp⟩
    | _ => exact deep e
  | _ => exact deep e
theorem rb_eq {G : Gx} : OpRb G (rEqW G.K) wEq := by
  intro x y st l H vx vy Q k sm rx ry e q
  rcases eqW_rep sm rx ry e with ⟨h1, rfl⟩ | ⟨d, d', h1, h2, h3, h4, rfl⟩
  · exact .inl ⟨h1, q⟩
  · exact .inr ⟨d, d', h1, h2, h3, h4, q⟩
theorem rb_ne {G : Gx} : OpRb G (rNeW G.K) wNe := by
  intro x y st l H vx vy Q k sm rx ry e q
  unfold wNe at e
  obtain ⟨k', e1, rfl⟩ := Option.map_eq_some_iff.mp e
  rcases eqW_rep sm rx ry e1 with ⟨h1, rfl⟩ | ⟨d, d', h1, h2, h3, h4, rfl⟩
  · exact .inl ⟨h1, q⟩
  · exact .inr ⟨d, d', h1, h2, h3, h4, q⟩

/-! ### in, not in: a list or tuple of flat things, one sign in a text -/
def flatW : W → Bool
  | .non => true | .bl _ => true | .int _ => true | .str _ => true
  | _ => false
def eqFW : W → W → Bool
  | .non, .non => true
  | .bl a, .bl b => a == b
  | .bl a, .int b => (if a then 1 else 0) == b
  | .int a, .bl b => a == (if b then 1 else 0)
  | .int a, .int b => a == b
  | .str a, .str b => a == b
  | _, _ => false
def inFW (x : W) (xs : List W) : Bool := xs.any fun y => eqFW y x
/-- the items of a list or a tuple -/
def getS (st : Sto) : W → Option (List W)
  | .tup l => some l
  | x => getL st x
def wIn : W → W → Sto → Option Bool
  | x, .str z, _ => match x with
    | .str i => match i.cps.toList with
      | [c] => some (decide (c ∈ z.cps.toList))
      | _ => none
    | _ => none
  | x, y, st => match getS st y with
    | some l => if flatW x = true ∧ l.all flatW = true then some (inFW x l) else none
    | none => none
def wNotIn : W → W → Sto → Option Bool := fun x y st => (wIn x y st).map (!·)
theorem flat_rep {G : Gx} {r : List Addr} {H : Hp} {x : W} {v : V} (h : Rep G r H x v) : flatV v = flatW x := by cases h <;> rfl
theorem flats_rep {G : Gx} {r : List Addr} {H : Hp} : ∀ {l : List W} {vs : List V}, RepL G r H l vs → vs.all flatV = l.all flatW
  | _, _, .nil => rfl
  | _, _, .cons h k => by rw [List.all_cons, List.all_cons, flat_rep h, flats_rep k]
theorem eqF_rep {G : Gx} {r : List Addr} {H : Hp} {x y : W} {v u : V} (h : Rep G r H x v) (k : Rep G r H y u) : eqV v u = eqFW x y := by cases h <;> cases k <;> rfl
theorem inF_rep {G : Gx} {r : List Addr} {H : Hp} {x : W} {v : V} (h : Rep G r H x v) : ∀ {l : List W} {vs : List V}, RepL G r H l vs → inV v vs = inFW x l
  | _, _, .nil => rfl
  | _, _, .cons q k => by
    have ih := inF_rep h k
    unfold inV inFW at *
    rw [List.any_cons, List.any_cons, eqF_rep q h, ih]
def rInW (K : PySem.W.Frag) : R2 := fun x y H Q => rIn K false x y H Q ∨ ∃ (c : Nat) (z : Str), x = .str ⟨#[c]⟩ ∧ y = .str z ∧ Q (.bl (decide (c ∈ z.cps.toList))) H
def rNotInW (K : PySem.W.Frag) : R2 := fun x y H Q => rIn K true x y H Q ∨ ∃ (c : Nat) (z : Str), x = .str ⟨#[c]⟩ ∧ y = .str z ∧ Q (.bl (!decide (c ∈ z.cps.toList))) H
theorem op_inW {X : Cx} : OpR X (compareOp .In) (rInW X.K) := op_in_seq.or op_in_sign
theorem op_notInW {X : Cx} : OpR X (compareOp .NotIn) (rNotInW X.K) := op_notIn_seq.or op_notIn_sign
theorem wIn_rep {G : Gx} {r : List Addr} {H : Hp} {st : Sto} (sm : Sim G r H st) {x y : W} {vx vy : V} {k : Bool} (rx : Rep G r H x vx) (ry : Rep G r H y vy) (e : wIn x y st = some k) :
    (∃ p xs, vy = .ref p ∧ (SqL G.K H p xs ∨ SqT G.K H p xs) ∧ flatV vx = true ∧ xs.all flatV = true ∧ k = inV vx xs) ∨ ∃ (c : Nat) (z : Str), vx = .str ⟨#[c]⟩ ∧ vy = .str z ∧ k = decide (c ∈ z.cps.toList) := by
  have sq : ∀ {l : List W}, getS st y = some l → ∃ p xs, vy = .ref p ∧ (SqL G.K H p xs ∨ SqT G.K H p xs) ∧ RepL G r H l xs := fun {l} e => by
    cases ry with
    | tup h q => cases e; exact ⟨_, _, rfl, .inr h, q⟩
    | rol h q => obtain ⟨a, vs, e1, h, q⟩ := getL_rep sm (.rol h q) e; exact ⟨a, vs, e1, .inl h, q⟩
    | ref h => obtain ⟨a, vs, e1, h, q⟩ := getL_rep sm (.ref h) e; exact ⟨a, vs, e1, .inl h, q⟩
    | _ => simp [getS, getL] at e
  have gen : (match getS st y with | some l => if flatW x = true ∧ l.all flatW = true then some (inFW x l) else none | none => none) = some k →
      ∃ p xs, vy = .ref p ∧ (SqL G.K H p xs ∨ SqT G.K H p xs) ∧ flatV vx = true ∧ xs.all flatV = true ∧ k = inV vx xs := fun e => by
    cases e1 : getS st y with
    | none => rw [e1] at e; cases e
    | some l =>
      simp only [e1] at e
      obtain ⟨p, xs, h1, h2, q⟩ := sq e1
      split at e
      · rename_i hc
        cases e
        exact ⟨p, xs, h1, h2, by rw [flat_rep rx]; exact hc.1, by rw [flats_rep q]; exact hc.2, (inF_rep rx q).symm⟩
      · cases e
  cases ry with
  | str z =>
    cases rx with
    | str i =>
      simp only [wIn] at e
      split at e
      · rename_i c hc
        cases e
        have ei : i = ⟨#[c]⟩ := ext_toList (by rw [hc])
        subst ei
        exact .inr ⟨c, z, rfl, rfl, rfl⟩
      · cases e
    | _ => cases e
  | tup h q => exact .inl (gen e)
  | rol h q => exact .inl (gen e)
  | ref h => exact .inl (gen e)
  | _ => simp [wIn, getS, getL] at e
theorem rb_in {G : Gx} : OpRb G (rInW G.K) wIn := by
  intro x y st l H vx vy Q k sm rx ry e q
  rcases wIn_rep sm rx ry e with ⟨p, xs, h1, h2, h3, h4, rfl⟩ | ⟨c, z, h1, h2, rfl⟩
  · exact .inl ⟨p, xs, h1, h2, h3, h4, q⟩
  · exact .inr ⟨c, z, h1, h2, q⟩
theorem rb_notIn {G : Gx} : OpRb G (rNotInW G.K) wNotIn := by
  intro x y st l H vx vy Q k sm rx ry e q
  unfold wNotIn at e
  obtain ⟨k', e1, rfl⟩ := Option.map_eq_some_iff.mp e
  rcases wIn_rep sm rx ry e1 with ⟨p, xs, h1, h2, h3, h4, rfl⟩ | ⟨c, z, h1, h2, rfl⟩
  · exact .inl ⟨p, xs, h1, h2, h3, h4, q⟩
  · exact .inr ⟨c, z, h1, h2, q⟩
end Sw
/-! Sw5: displays, places, slices, calls. -/
namespace Sw
open PySem PySem.Spec PyProof.Rows L2

section
variable {X : Cx} {Wx : WX} {pos : Pos} {a b c e : Expr} {fa fb fc : FE} {ta tb : FT} {es : List Expr}
/-! ### argument lists, displays -/
def fNil : FA := fun _ st => .ok [] st
def fCons (f : FE) (g : FA) : FA := fun env st => (f env st).bind fun w st1 => (g env st1).bind fun ws st2 => .ok (w :: ws) st2
theorem a_nil : PA X [] (tL (gx X) Wx fNil) := pa_nil.imp fun s H Q h => by
  obtain ⟨env, l, st, en, sm, p⟩ := h
  exact Po.ok p sm _ .nil
theorem a_cons {g : FA} (h : PE X e (tE (gx X) Wx fa)) (h2 : PA X es (tL (gx X) Wx g)) (hs : starEach (e :: es) X.env = (false, eval e X.env) :: starEach es X.env := by rfl) : PA X (e :: es) (tL (gx X) Wx (fCons fa g)) := (pa_cons h h2 hs).imp fun s H Q h => by
  obtain ⟨env, l, st, en, sm, p⟩ := h
  refine ⟨env, l, st, en, sm, (Po.bind p).imp fun x l1 H1 g1 ⟨st1, sm1, _, p1⟩ vx rx => ?_⟩
  refine ⟨env, l1, st1, en.grow g1, sm1, (Po.bind p1).imp fun y l2 H2 g2 ⟨st2, sm2, _, p2⟩ vy ry => ?_⟩
  exact Po.ok p2 sm2 _ (.cons (rx.grow g2) ry)
def fTup (f : FA) : FE := fun env st => (f env st).bind fun ws st1 => if ws.length ≤ 1000 then .ok (.tup ws) st1 else .bad
def fLst (f : FA) : FE := fun env st => (f env st).bind fun ws st1 => if ws.length ≤ 1000 then .ok (.ref st1.length) (st1 ++ [.lst ws]) else .bad
theorem line1000 {n : Nat} (h : n ≤ 1000) : n ≤ sizeLine := Nat.le_trans h (by decide)
theorem e_tup {f : FA} {k : Nat} (h : PA X es (tL (gx X) Wx f)) : PE X (.Tuple es k pos) (tE (gx X) Wx (fTup f)) := (pe_tup h).imp fun s H Q h => by
  obtain ⟨env, l, st, en, sm, p⟩ := h
  refine ⟨env, l, st, en, sm, (Po.bind p).imp fun x l1 H1 g1 ⟨st1, sm1, _, p1⟩ vx rx => ?_⟩
  obtain ⟨hz, p1⟩ := ite_bad p1
  exact ⟨by rw [← rx.length]; exact line1000 hz, Po.newT sm1 rx p1⟩
theorem e_lst {f : FA} (h : PA X es (tL (gx X) Wx f)) : PE X (.List es pos) (tE (gx X) Wx (fLst f)) := (pe_lst h).imp fun s H Q h => by
  obtain ⟨env, l, st, en, sm, p⟩ := h
  refine ⟨env, l, st, en, sm, (Po.bind p).imp fun x l1 H1 g1 ⟨st1, sm1, _, p1⟩ vx rx => ?_⟩
  obtain ⟨hz, p1⟩ := ite_bad p1
  exact ⟨by rw [← rx.length]; exact line1000 hz, Po.newL sm1 rx p1⟩

/-! ### x[i] -/
def wIx : W → W → Sto → Option W
  | .str z, .int i, _ => if z.length ≤ sizeLine then (atI z.cps.toList i).map fun c => .str ⟨#[c]⟩ else none
  | x, .int i, st => (getS st x).bind fun l => atI l i
  | _, _, _ => none
theorem getS_rep {G : Gx} {r : List Addr} {H : Hp} {st : Sto} {x : W} {v : V} {l : List W} (sm : Sim G r H st) (h : Rep G r H x v) (e : getS st x = some l) : ∃ p xs, v = .ref p ∧ (SqL G.K H p xs ∨ SqT G.K H p xs) ∧ RepL G r H l xs := by
  cases h with
  | tup h q => cases e; exact ⟨_, _, rfl, .inr h, q⟩
  | rol h q => obtain ⟨a, vs, e1, h, q⟩ := getL_rep sm (.rol h q) e; exact ⟨a, vs, e1, .inl h, q⟩
  | ref h => obtain ⟨a, vs, e1, h, q⟩ := getL_rep sm (.ref h) e; exact ⟨a, vs, e1, .inl h, q⟩
  | _ => simp [getS, getL] at e
theorem atI_rep {G : Gx} {r : List Addr} {H : Hp} {l : List W} {vs : List V} {i : Int} {w : W} (q : RepL G r H l vs) (e : atI l i = some w) : ∃ v, atI vs i = some v ∧ Rep G r H w v := by
  unfold atI at e ⊢
  rw [← q.length]
  cases h : ixN l.length i with
  | none => rw [h] at e; cases e
  | some j =>
    rw [h] at e
    obtain ⟨v, h1, h2⟩ := q.get (show l[j]? = some w from e)
    exact ⟨v, h1, h2⟩
def wIxA : W → W → Sto → An W := fun x y st => optB (wIx x y st) st
theorem rf_ix {G : Gx} : OpRf G (rIx G.K) wIxA := by
  intro x y st l H vx vy Q Wx s sm rx ry p
  obtain ⟨w, e, q⟩ := Po.optB p sm
  cases ry with
  | int i =>
    have gen : (getS st x).bind (fun l => atI l i) = some w → rIx G.K vx (.int i) H Q := fun e => by
      obtain ⟨l', e1, e2⟩ := Option.bind_eq_some_iff.mp e
      obtain ⟨p', xs, rfl, h1, k⟩ := getS_rep sm rx e1
      obtain ⟨v, h2, h3⟩ := atI_rep k e2
      rcases h1 with h1 | h1
      · exact .inl ⟨p', xs, i, v, rfl, rfl, h1, h2, q v h3⟩
      · exact .inr (.inl ⟨p', xs, i, v, rfl, rfl, h1, h2, q v h3⟩)
    cases rx with
    | str z =>
      simp only [wIx] at e
      split at e
      · rename_i hz
        obtain ⟨c, e1, rfl⟩ := Option.map_eq_some_iff.mp e
        exact .inr (.inr ⟨z, i, c, rfl, rfl, hz, e1, q _ (.str _)⟩)
      · cases e
    | _ => exact gen e
  | _ => cases rx <;> cases e
theorem e_ix (ha : PE X a (tE (gx X) Wx fa)) (hb : PE X b (tE (gx X) Wx fb)) (hs : PlainIx b := by exact fun _ _ => rfl) : PE X (.Subscript a b pos) (tE (gx X) Wx (fBin wIxA fa fb)) := (pe_ix ix_seq ha hb hs).imp fun s H Q h => bin_imp rf_ix h

/-! ### x[i:j] -/
abbrev FO := En → Sto → An (Option Int)
def tO (G : Gx) (Wx : WX) (f : FO) : TO := fun s H Q => ∃ env r st, EnR G r H env s ∧ Sim G r H st ∧ Po G Wx s (fun o _ H' => Q o H') r H (f env st)
theorem _root_.L2.PO.imp {X : Cx} {e : Option Expr} {t t' : TO} (h : PO X e t) (k : ∀ s H Q, t' s H Q → t s H Q) : PO X e t' := ⟨fun pins s σ H Q I q => h.run pins s σ H Q I (k _ _ _ q)⟩
def fNo : FO := fun _ st => .ok none st
def fSo (f : FE) : FO := fun env st => (f env st).bind fun w st1 => match w with
  | .int i => .ok (some i) st1
  | _ => .bad
theorem o_none : PO X none (tO (gx X) Wx fNo) := po_none.imp fun s H Q h => by
  obtain ⟨env, l, st, en, sm, p⟩ := h
  exact Po.ok p sm
theorem o_some (h : PE X a (tE (gx X) Wx fa)) : PO X (some a) (tO (gx X) Wx (fSo fa)) := (po_some h).imp fun s H Q h => by
  obtain ⟨env, l, st, en, sm, p⟩ := h
  refine ⟨env, l, st, en, sm, (Po.bind p).imp fun x l1 H1 g1 ⟨st1, sm1, _, p1⟩ vx rx => ?_⟩
  cases rx with
  | int i => exact ⟨i, rfl, Po.ok p1 sm1⟩
  | _ => exact p1.elim
def cutL {α : Type} (xs : List α) (lo hi : Option Int) : List α := (xs.drop (HT.sIx xs.length 0 lo)).take (HT.sIx xs.length xs.length hi - HT.sIx xs.length 0 lo)
theorem cut_rep {G : Gx} {r : List Addr} {H : Hp} {l : List W} {vs : List V} (lo hi : Option Int) (q : RepL G r H l vs) : RepL G r H (cutL l lo hi) (cutV vs lo hi) := by
  unfold cutL cutV
  rw [q.length]
  exact (q.drop _).take _
def wSl : W → Option Int → Option Int → Sto → An W
  | .str z, lo, hi, st => if z.length ≤ sizeLine then .ok (.str (cutS z lo hi)) st else .bad
  | .tup l, lo, hi, st => .ok (.tup (cutL l lo hi)) st
  | x, lo, hi, st => match getL st x with
    | some l => .ok (.ref st.length) (st ++ [.lst (cutL l lo hi)])
    | none => .bad
def fSl (f : FE) (lo hi : FO) : FE := fun env st => (f env st).bind fun x st1 => (lo env st1).bind fun l st2 => (hi env st2).bind fun h st3 => wSl x l h st3
def rSlW (K : PySem.W.Frag) : V → Option Int → Option Int → Hp → VK → Prop := fun x lo hi H Q => rSlL K x lo hi H Q ∨ rSlA K x lo hi H Q ∨ rSlS x lo hi H Q
theorem sl_W : SlR X (rSlW X.K) := sl_list.or (sl_tupA.or sl_str)
theorem e_sl {lo hi : Option Expr} {flo fhi : FO} {p2 : Pos} (h : PE X a (tE (gx X) Wx fa)) (hl : PO X lo (tO (gx X) Wx flo)) (hh : PO X hi (tO (gx X) Wx fhi)) : PE X (.Subscript a (.Slice lo hi none p2) pos) (tE (gx X) Wx (fSl fa flo fhi)) := (pe_slice sl_W h hl hh).imp fun s H Q h => by
  obtain ⟨env, l, st, en, sm, p⟩ := h
  refine ⟨env, l, st, en, sm, (Po.bind p).imp fun x l1 H1 g1 ⟨st1, sm1, _, p1⟩ vx rx => ?_⟩
  refine ⟨env, l1, st1, en.grow g1, sm1, (Po.bind p1).imp fun lo l2 H2 g2 ⟨st2, sm2, _, p2⟩ => ?_⟩
  refine ⟨env, l2, st2, (en.grow g1).grow g2, sm2, (Po.bind p2).imp fun hi l3 H3 g3 ⟨st3, sm3, _, p3⟩ => ?_⟩
  have rx := (rx.grow g2).grow g3
  have gen : Po (gx X) Wx s (fun w r' H' => ∀ v, Rep (gx X) r' H' w v → Q v H') l3 H3 (match getL st3 x with | some l => .ok (.ref st3.length) (st3 ++ [.lst (cutL l lo hi)]) | none => .bad) → rSlW X.K vx lo hi H3 Q := fun p3 => by
    cases e : getL st3 x with
    | none => rw [e] at p3; exact p3.elim
    | some l =>
      rw [e] at p3
      obtain ⟨a, vs, rfl, h, k⟩ := getL_rep sm3 rx e
      exact .inl ⟨a, vs, rfl, h, Po.newL sm3 (cut_rep lo hi k) p3⟩
  cases rx with
  | str z =>
    obtain ⟨hz, p3⟩ := ite_bad p3
    exact .inr (.inr ⟨z, rfl, hz, Po.ok p3 sm3 _ (.str _)⟩)
  | @tup l' a vs h k =>
    refine .inr (.inl ⟨a, vs, rfl, h, fun e => ?_, fun _ => Po.newT sm3 (cut_rep lo hi k) p3⟩)
    have ec : cutL l' lo hi = l' := by
      unfold cutL
      rw [k.length, e.1, e.2, List.drop_zero, Nat.sub_zero]
      exact List.take_of_length_le (Nat.le_of_eq k.length)
    refine Po.ok p3 sm3 _ (.tup h ?_)
    rw [ec]
    exact k
  | _ => exact gen p3
/-- x[::-1] -/
def fRev (f : FE) : FE := fun env st => (f env st).bind fun x st1 => match getL st1 x with
  | some l => .ok (.ref st1.length) (st1 ++ [.lst l.reverse])
  | none => .bad
theorem e_rev {k : Nat} {p1 p2 p3 : Pos} (h : PE X a (tE (gx X) Wx fa)) : PE X (.Subscript a (.Slice none none (some (.UnaryOp .USub (.Constant (.int 1) k p1) p2)) p3) pos) (tE (gx X) Wx (fRev fa)) := (pe_revL h).imp fun s H Q h => by
  obtain ⟨env, l, st, en, sm, p⟩ := h
  refine ⟨env, l, st, en, sm, (Po.bind p).imp fun x l1 H1 g1 ⟨st1, sm1, _, p1⟩ vx rx => ?_⟩
  cases e : getL st1 x with
  | none => rw [e] at p1; exact p1.elim
  | some l =>
    rw [e] at p1
    obtain ⟨a, vs, rfl, h, k⟩ := getL_rep sm1 rx e
    exact ⟨a, vs, rfl, h, Po.newL sm1 k.reverse p1⟩

/-! ### calls of built-ins -/
def CaRf (G : Gx) (r : List V → Hp → VK → Prop) (g : List W → Sto → An W) : Prop := ∀ (ws : List W) (st : Sto) (l : List Addr) (H : Hp) (vs : List V) (Q : VK) (Wx : WX) (s : L2.St), Sim G l H st → RepL G l H ws vs →
  Po G Wx s (fun w r' H' => ∀ v, Rep G r' H' w v → Q v H') l H (g ws st) → r vs H Q
def fCall (g : List W → Sto → An W) (f : FA) : FE := fun env st => (f env st).bind g
theorem cb_imp {G : Gx} {r : List V → Hp → VK → Prop} {g : List W → Sto → An W} {f : FA} (hg : CaRf G r g) {s : L2.St} {H : Hp} {Q : VK} (h : tE G Wx (fCall g f) s H Q) : tCB r (tL G Wx f) s H Q := by
  obtain ⟨env, l, st, en, sm, p⟩ := h
  exact ⟨env, l, st, en, sm, (Po.bind p).imp fun x l1 H1 g1 ⟨st1, sm1, _, p1⟩ vx rx => hg x st1 l1 H1 vx Q Wx s sm1 rx p1⟩
theorem e_cb {x : Str} {p : Pos} {id : String} {r : List V → Hp → VK → Prop} {g : List W → Sto → An W} {f : FA} (hc : CallR X (.builtin id) r) (hr : CaRf (gx X) r g) (hg : Gl X x) (hm : X.mg x = none) (hv : bootBuiltins x = some (.builtin id)) (ha : PA X (e :: es) (tL (gx X) Wx f)) (hn : x ≠ "__name__" := by decide) (hdb : (x == ("__debug__" : Str)) = false := by decide)
    (he : starEach (e :: es) X.env = (false, eval e X.env) :: starEach es X.env := by rfl) (hpl : (backTo pos (starEach es X.env)).any (·.1) = false := by rfl) : PE X (.Call (.Name x p) (e :: es) [] pos) (tE (gx X) Wx (fCall g f)) := (pe_callB hc hg hm hv ha hn hdb he hpl).imp fun s H Q h => cb_imp hr h
theorem e_ct {x : Str} {p : Pos} {T : String} {r : List V → Hp → VK → Prop} {g : List W → Sto → An W} {f : FA} (hc : CallR X (.type T) r) (hr : CaRf (gx X) r g) (hg : Gl X x) (hm : X.mg x = none) (hv : bootBuiltins x = some (.type T)) (ha : PA X (e :: es) (tL (gx X) Wx f)) (hn : x ≠ "__name__" := by decide) (hdb : (x == ("__debug__" : Str)) = false := by decide)
    (he : starEach (e :: es) X.env = (false, eval e X.env) :: starEach es X.env := by rfl) (hpl : (backTo pos (starEach es X.env)).any (·.1) = false := by rfl) : PE X (.Call (.Name x p) (e :: es) [] pos) (tE (gx X) Wx (fCall g f)) := (pe_callTy hc hg hm hv ha hn hdb he hpl).imp fun s H Q h => cb_imp hr h
end

/-- len -/
def wLen : List W → Sto → An W
  | [.str z], st => if z.length ≤ sizeLine then .ok (.int z.length) st else .bad
  | [.ref n], st => match st[n]? with
    | some (.lst l) => .ok (.int l.length) st
    | some (.dct l) => .ok (.int l.length) st
    | _ => .bad
  | [.tup l], st => .ok (.int l.length) st
  | [.rol l], st => .ok (.int l.length) st
  | _, _ => .bad
def rLenW (K : PySem.W.Frag) : List V → Hp → VK → Prop := fun xs H Q => (∃ p ys, xs = [.ref p] ∧ (SqL K H p ys ∨ SqT K H p ys) ∧ Q (.int ys.length) H) ∨ (∃ z, xs = [.str z] ∧ z.length ≤ sizeLine ∧ Q (.int z.length) H) ∨ ∃ d kvs, xs = [.ref d] ∧ H d = some (.dK kvs) ∧ Q (.int kvs.length) H
theorem RepD.length {G : Gx} {r : List Addr} {H : Hp} {ws : List (Key × W)} {vs : List (Key × V)} (k : RepD G r H ws vs) : ws.length = vs.length := by
  induction k with
  | nil => rfl
  | cons _ _ ih => simp [ih]
theorem rf_len {G : Gx} : CaRf G (rLenW G.K) wLen := by
  intro ws st l H vs Q Wx s sm rx p
  cases rx with
  | nil => exact p.elim
  | cons h k =>
    cases k with
    | cons h2 k2 => cases h <;> exact p.elim
    | nil =>
      cases h with
      | str z =>
        obtain ⟨hz, p⟩ := ite_bad p
        exact .inr (.inl ⟨z, rfl, hz, Po.ok p sm _ (.int _)⟩)
      | tup h k => exact .inl ⟨_, _, rfl, .inr h, by rw [← k.length]; exact Po.ok p sm _ (.int _)⟩
      | rol h k => exact .inl ⟨_, _, rfl, .inl h.sq, by rw [← k.length]; exact Po.ok p sm _ (.int _)⟩
      | ref h =>
        simp only [wLen] at p
        split at p
        · rename_i l' e
          obtain ⟨vs, e2, k⟩ := sm.got e h
          exact .inl ⟨_, _, rfl, .inl (.inl (.inl e2)), by rw [← k.length]; exact Po.ok p sm _ (.int _)⟩
        · rename_i l' e
          obtain ⟨vs, e2, k⟩ := sm.got e h
          exact .inr (.inr ⟨_, _, rfl, e2, by rw [← k.length]; exact Po.ok p sm _ (.int _)⟩)
        · exact p.elim
      | _ => exact p.elim
section
variable {X : Cx}
theorem cr_lenW : CallR X (.builtin "len") (rLenW X.K) := call_len_seq.or (call_len_str.or fun pins s σ H xs us Q I r h => by
  obtain ⟨d, kvs, e, h1, q⟩ := h
  exact call_lenD pins s σ H xs us Q I r ⟨d, kvs, e, h1, q⟩)
end
/-- all, any: truths in a list -/
def getB : List W → Option (List Bool)
  | [] => some []
  | .bl b :: l => (getB l).map (b :: ·)
  | _ => none
theorem getB_rep {G : Gx} {r : List Addr} {H : Hp} : ∀ {l : List W} {vs : List V} {bs : List Bool}, RepL G r H l vs → getB l = some bs → vs = bs.map V.bl
  | _, _, _, .nil, e => by cases e; rfl
  | _, _, _, .cons h k, e => by
    cases h with
    | bl b =>
      simp only [getB] at e
      obtain ⟨bs', e1, rfl⟩ := Option.map_eq_some_iff.mp e
      rw [getB_rep k e1]
      rfl
    | _ => simp [getB] at e
def wBl (f : List Bool → Bool) : List W → Sto → An W
  | [x], st => (optB ((getL st x).bind getB) st).bind fun bs _ => .ok (.bl (f bs)) st
  | _, _ => .bad
def wAll : List W → Sto → An W := wBl fun bs => bs.all id
def wAny : List W → Sto → An W := wBl fun bs => bs.any id
theorem wBl_ok {G : Gx} {f : List Bool → Bool} {ws : List W} {st : Sto} {l : List Addr} {H : Hp} {vs : List V} {Q : VK} {Wx : WX} {s : L2.St} (sm : Sim G l H st) (rx : RepL G l H ws vs)
    (p : Po G Wx s (fun w r' H' => ∀ v, Rep G r' H' w v → Q v H') l H (wBl f ws st)) : ∃ (a : Addr) (bs : List Bool), vs = [V.ref a] ∧ SqL G.K H a (bs.map V.bl) ∧ Q (.bl (f bs)) H := by
  cases rx with
  | nil => exact p.elim
  | cons h k =>
    cases k with
    | cons h2 k2 => exact p.elim
    | nil =>
      rename_i w v
      simp only [wBl] at p
      cases e : (getL st w).bind getB with
      | none => rw [e] at p; exact p.elim
      | some bs =>
        rw [e] at p
        obtain ⟨l', e1, e2⟩ := Option.bind_eq_some_iff.mp e
        obtain ⟨a, vs, rfl, h1, k⟩ := getL_rep sm h e1
        have ev := getB_rep k e2
        subst ev
        exact ⟨a, bs, rfl, h1, Po.ok p sm _ (.bl _)⟩
theorem rf_all {G : Gx} : CaRf G (rAll G.K) wAll := fun ws st l H vs Q Wx s sm rx p => wBl_ok sm rx p
theorem rf_any {G : Gx} : CaRf G (rAny G.K) wAny := fun ws st l H vs Q Wx s sm rx p => wBl_ok sm rx p
/-- whole numbers in a list -/
def getI : List W → Option (List Int)
  | [] => some []
  | .int b :: l => (getI l).map (b :: ·)
  | _ => none
theorem getI_rep {G : Gx} {r : List Addr} {H : Hp} : ∀ {l : List W} {vs : List V} {bs : List Int}, RepL G r H l vs → getI l = some bs → vs = bs.map V.int
  | _, _, _, .nil, e => by cases e; rfl
  | _, _, _, .cons h k, e => by
    cases h with
    | int b =>
      simp only [getI] at e
      obtain ⟨bs', e1, rfl⟩ := Option.map_eq_some_iff.mp e
      rw [getI_rep k e1]
      rfl
    | _ => simp [getI] at e
theorem getI_map : ∀ ns : List Int, getI (ns.map W.int) = some ns
  | [] => rfl
  | n :: ns => by simp [getI, getI_map ns]
/-- the greatest -/
def maxI : List Int → Int
  | [] => 0
  | [x] => x
  | x :: y :: l => max x (maxI (y :: l))
theorem maxI_mem : ∀ {l : List Int}, l ≠ [] → maxI l ∈ l ∧ ∀ y ∈ l, y ≤ maxI l
  | [], h => absurd rfl h
  | [x], _ => ⟨by simp [maxI], by simp [maxI]⟩
  | x :: y :: l, _ => by
    obtain ⟨h1, h2⟩ := maxI_mem (l := y :: l) (by simp)
    simp only [maxI]
    refine ⟨?_, fun z hz => ?_⟩
    · by_cases h : x ≤ maxI (y :: l)
      · rw [Int.max_eq_right h]
        exact List.mem_cons_of_mem _ h1
      · rw [Int.max_eq_left (by omega)]
        exact List.mem_cons_self
    · rcases List.mem_cons.mp hz with e | hz
      · subst e; exact Int.le_max_left _ _
      · exact Int.le_trans (h2 z hz) (Int.le_max_right _ _)
def wMax : List W → Sto → An W
  | [x], st => (optB ((getL st x).bind getI) st).bind fun ns _ => if ns ≠ [] then .ok (.int (maxI ns)) st else .bad
  | [.int i, .int j], st => .ok (.int (if j > i then j else i)) st
  | _, _ => .bad
def rMaxW (K : PySem.W.Frag) : List V → Hp → VK → Prop := fun vs H Q => rMax K vs H Q ∨ ∃ i j, vs = [.int i, .int j] ∧ Q (.int (if j > i then j else i)) H
theorem rf_max {G : Gx} : CaRf G (rMaxW G.K) wMax := by
  intro ws st l H vs Q Wx s sm rx p
  cases rx with
  | nil => exact p.elim
  | cons h k =>
    cases k with
    | cons h2 k2 =>
      cases k2 with
      | nil => cases h <;> cases h2 <;> first | exact p.elim | exact .inr ⟨_, _, rfl, Po.ok p sm _ (.int _)⟩
      | cons _ _ => cases h <;> cases h2 <;> exact p.elim
    | nil =>
      rename_i w v
      simp only [wMax] at p
      cases e : (getL st w).bind getI with
      | none => rw [e] at p; exact p.elim
      | some ns =>
        rw [e] at p
        obtain ⟨hz, p⟩ := ite_bad p
        obtain ⟨l', e1, e2⟩ := Option.bind_eq_some_iff.mp e
        obtain ⟨a, vs, rfl, h1, k⟩ := getL_rep sm h e1
        have ev := getI_rep k e2
        subst ev
        refine .inl ⟨a, ns, rfl, h1, List.length_pos_iff.mpr hz, fun m hm hle => ?_⟩
        obtain ⟨i1, i2⟩ := maxI_mem hz
        have em : m = maxI ns := Int.le_antisymm (i2 m hm) (hle _ i1)
        rw [em]
        exact Po.ok p sm _ (.int _)
theorem cr_maxW {X : Cx} (hc : X.calm = true) : CallR X (.builtin "max") (rMaxW X.K) := (cr_max hc).or (call_max2 hc)
def wMin2 : List W → Sto → An W
  | [.int i, .int j], st => .ok (.int (if j < i then j else i)) st
  | _, _ => .bad
theorem rf_min {G : Gx} : CaRf G (fun xs H Q => ∃ i j, xs = [.int i, .int j] ∧ Q (.int (if j < i then j else i)) H) wMin2 := by
  intro ws st l H vs Q Wx s sm rx p
  cases rx with
  | nil => exact p.elim
  | cons h k =>
    cases k with
    | nil => cases h <;> exact p.elim
    | cons h2 k2 =>
      cases k2 with
      | nil => cases h <;> cases h2 <;> first | exact p.elim | exact ⟨_, _, rfl, Po.ok p sm _ (.int _)⟩
      | cons _ _ => cases h <;> cases h2 <;> exact p.elim
def wAbs : List W → Sto → An W
  | [.int i], st => .ok (.int (if i < 0 then -i else i)) st
  | _, _ => .bad
theorem rf_abs {G : Gx} : CaRf G (fun xs H Q => ∃ i, xs = [.int i] ∧ Q (.int (if i < 0 then -i else i)) H) wAbs := by
  intro ws st l H vs Q Wx s sm rx p
  cases rx with
  | nil => exact p.elim
  | cons h k =>
    cases k with
    | nil => cases h <;> first | exact p.elim | exact ⟨_, rfl, Po.ok p sm _ (.int _)⟩
    | cons _ _ => cases h <;> exact p.elim
def wInt : List W → Sto → An W
  | [.int i], st => .ok (.int i) st
  | [.bl k], st => .ok (.int (if k then 1 else 0)) st
  | _, _ => .bad
theorem rf_int {G : Gx} : CaRf G (fun xs H Q => (∃ i, xs = [.int i] ∧ Q (.int i) H) ∨ ∃ k, xs = [.bl k] ∧ Q (.int (if k then 1 else 0)) H) wInt := by
  intro ws st l H vs Q Wx s sm rx p
  cases rx with
  | nil => exact p.elim
  | cons h k =>
    cases k with
    | nil => cases h <;> first | exact p.elim | exact .inl ⟨_, rfl, Po.ok p sm _ (.int _)⟩ | exact .inr ⟨_, rfl, Po.ok p sm _ (.int _)⟩
    | cons _ _ => cases h <;> exact p.elim
def wStr : List W → Sto → An W
  | [.int i], st => if i.natAbs < 10 ^ 400 then .ok (.str (toString i)) st else .bad
  | _, _ => .bad
theorem rf_str {G : Gx} : CaRf G (fun xs H Q => ∃ i, xs = [.int i] ∧ i.natAbs.log2 < 1920 ∧ Q (.str (toString i)) H) wStr := by
  intro ws st l H vs Q Wx s sm rx p
  cases rx with
  | nil => exact p.elim
  | cons h k =>
    cases k with
    | nil =>
      cases h with
      | int i =>
        obtain ⟨hz, p⟩ := ite_bad p
        have hb : i.natAbs < 2 ^ 1920 := Nat.lt_of_lt_of_le hz (by decide +kernel)
        exact ⟨_, rfl, PySem.Flt.log2_lt_of (by decide) hb, Po.ok p sm _ (.str _)⟩
      | _ => exact p.elim
    | cons _ _ => cases h <;> exact p.elim
/-- list(x), tuple(x) -/
def wList : List W → Sto → An W
  | [x], st => match getS st x with
    | some l => .ok (.ref st.length) (st ++ [.lst l])
    | none => .bad
  | _, _ => .bad
def wTuple : List W → Sto → An W
  | [.tup l], st => .ok (.tup l) st
  | [x], st => match getL st x with
    | some l => .ok (.tup l) st
    | none => .bad
  | _, _ => .bad
theorem rf_list {G : Gx} : CaRf G (fun xs H Q => ∃ p ys, xs = [.ref p] ∧ (SqL G.K H p ys ∨ SqT G.K H p ys) ∧ ∀ l, H l = none → Q (.ref l) (upd H l (.lst ys))) wList := by
  intro ws st l H vs Q Wx s sm rx p
  cases rx with
  | nil => exact p.elim
  | cons h k =>
    cases k with
    | cons _ _ => exact p.elim
    | nil =>
      rename_i w v
      simp only [wList] at p
      split at p
      · rename_i l' e
        obtain ⟨a, xs, rfl, h1, k⟩ := getS_rep sm h e
        exact ⟨a, xs, rfl, h1, Po.newL sm k p⟩
      · exact p.elim
theorem rf_tuple {G : Gx} : CaRf G (fun xs H Q => ∃ p ys, xs = [.ref p] ∧ ((SqL G.K H p ys ∧ ∀ l, H l = none → Q (.ref l) (upd H l (.tup ys))) ∨ (SqT G.K H p ys ∧ Q (.ref p) H))) wTuple := by
  intro ws st l H vs Q Wx s sm rx p
  cases rx with
  | nil => exact p.elim
  | cons h k =>
    cases k with
    | cons _ _ => cases h <;> exact p.elim
    | nil =>
      have gen : ∀ {w : W} {v : V}, Rep G l H w v → Po G Wx s (fun w r' H' => ∀ v, Rep G r' H' w v → Q v H') l H (match getL st w with | some l => .ok (.tup l) st | none => .bad) → ∃ p ys, [v] = [.ref p] ∧ ((SqL G.K H p ys ∧ ∀ l, H l = none → Q (.ref l) (upd H l (.tup ys))) ∨ (SqT G.K H p ys ∧ Q (.ref p) H)) := fun {w v} h p => by
        split at p
        · rename_i l' e
          obtain ⟨a, xs, rfl, h1, k⟩ := getL_rep sm h e
          exact ⟨a, xs, rfl, .inl ⟨h1, Po.newT sm k p⟩⟩
        · exact p.elim
      cases h with
      | tup h k => exact ⟨_, _, rfl, .inr ⟨h, Po.ok p sm _ (.tup h k)⟩⟩
      | rol h k => exact gen (.rol h k) p
      | ref h => exact gen (.ref h) p
      | _ => exact p.elim
end Sw
/-! Sw6: statements, targets, loops, comprehensions. -/
namespace Sw
open PySem PySem.Spec PyProof.Rows L2

def An.toS {α : Type} (m : An α) (env : En) (k : α → Sto → SA) : SA := match m with
  | .ok a st => k a st
  | .ex C fs st => .ex C fs env st
  | .bad => .bad
@[simp] theorem An.toS_ok {α : Type} (a : α) (st : Sto) (env : En) (k : α → Sto → SA) : (An.ok a st).toS env k = k a st := rfl
@[simp] theorem An.toS_ex {α : Type} (C : Str) (fs : Flds) (st : Sto) (env : En) (k : α → Sto → SA) : (An.ex C fs st : An α).toS env k = .ex C fs env st := rfl
@[simp] theorem An.toS_bad {α : Type} (env : En) (k : α → Sto → SA) : (An.bad : An α).toS env k = .bad := rfl
theorem SPo.toS {G : Gx} {Wx : WX} {D : Ends} {s : L2.St} {α : Type} {m : An α} {env : En} {k : α → Sto → SA} {r : List Addr} {H : Hp} (en : EnR G r H env s) (h : SPo G Wx D r H (m.toS env k)) :
    Po G Wx s (fun a r1 H1 => ∃ st1, Sim G r1 H1 st1 ∧ Grow r H r1 H1 ∧ SPo G Wx D r1 H1 (k a st1)) r H m := by
  cases m with
  | ok a st => exact fun r' H' g q => ⟨st, q, g, SPo.grow g h⟩
  | ex C fs st => exact fun r' H' ca d g q x => h r' H' s ca d g q (en.grow g) x
  | bad => exact h

section
variable {X : Cx} {Wx : WX} {pos : Pos} {a b c e : Expr} {fa fb fc : FE} {ta tb : FT} {es : List Expr} {sa sb : FS} {st1 : Stmt} {rest body orelse : List Stmt}
/-! ### blocks -/
def fNext : FS := fun env st => .nx env st
def fSeq (f g : FS) : FS := fun env st => match f env st with
  | .nx env1 st1 => g env1 st1
  | o => o
theorem s_nil : PSs X [] (tS (gx X) Wx fNext) := pss_nil.imp fun D s H h => by
  obtain ⟨env, l, st, en, sm, p⟩ := h
  exact p l H s (Grow.refl l H) sm en
theorem s_one (h : PS X st1 (tS (gx X) Wx sa)) : PSs X [st1] (tS (gx X) Wx sa) := pss_one h
theorem s_cons (h : PS X st1 (tS (gx X) Wx sa)) (h2 : PSs X rest (tS (gx X) Wx sb)) : PSs X (st1 :: rest) (tS (gx X) Wx (fSeq sa sb)) := (pss_cons h h2).imp fun D s H h => by
  obtain ⟨env, l, st, en, sm, p⟩ := h
  refine ⟨env, l, st, en, sm, ?_⟩
  unfold fSeq at p
  cases e : sa env st with
  | nx env1 st1 =>
    rw [e] at p
    exact fun r' H' s' g sm' en' => ⟨env1, r', st1, en', sm', SPo.grow g p⟩
  | rt w st => rw [e] at p; exact p
  | bk env st => rw [e] at p; exact p
  | ct env st => rw [e] at p; exact p
  | ex C fs env st => rw [e] at p; exact p
  | bad => rw [e] at p; exact p
theorem s_pass : PS X (.Pass pos) (tS (gx X) Wx fNext) := ps_pass.imp fun D s H h => by
  obtain ⟨env, l, st, en, sm, p⟩ := h
  exact p l H s (Grow.refl l H) sm en
theorem s_doc {x : Str} {j : Nat} {p1 : Pos} : PS X (.Expr (.Constant (.str x) j p1) pos) (tS (gx X) Wx fNext) := ps_doc.imp fun D s H h => by
  obtain ⟨env, l, st, en, sm, p⟩ := h
  exact p l H s (Grow.refl l H) sm en
def fBrk : FS := fun env st => .bk env st
def fCnt : FS := fun env st => .ct env st
theorem s_break : PS X (.Break pos) (tS (gx X) Wx fBrk) := ps_break.imp fun D s H h => by
  obtain ⟨env, l, st, en, sm, p⟩ := h
  exact p l H s (Grow.refl l H) sm en
theorem s_continue : PS X (.Continue pos) (tS (gx X) Wx fCnt) := ps_continue.imp fun D s H h => by
  obtain ⟨env, l, st, en, sm, p⟩ := h
  exact p l H s (Grow.refl l H) sm en
def fDrop (f : FE) : FS := fun env st => (f env st).toS env fun _ st1 => .nx env st1
def fRet (f : FE) : FS := fun env st => (f env st).toS env fun w st1 => .rt w st1
def fRetN : FS := fun _ st => .rt .non st
theorem s_expr (h : PE X e (tE (gx X) Wx fa)) (hs : swapsWith e none pos.line X.env = pure false := by rfl) : PS X (.Expr e pos) (tS (gx X) Wx (fDrop fa)) := (ps_expr h hs).imp fun D s H h => by
  obtain ⟨env, l, st, en, sm, p⟩ := h
  exact ⟨env, l, st, en, sm, (SPo.toS en p).imp fun x l1 H1 g1 ⟨st1, sm1, _, p1⟩ vx rx => p1 l1 H1 s (Grow.refl l1 H1) sm1 (en.grow g1)⟩
theorem s_ret (h : PE X e (tE (gx X) Wx fa)) : PS X (.Return (some e) pos) (tS (gx X) Wx (fRet fa)) := (ps_ret h).imp fun D s H h => by
  obtain ⟨env, l, st, en, sm, p⟩ := h
  exact ⟨env, l, st, en, sm, (SPo.toS en p).imp fun x l1 H1 g1 ⟨st1, sm1, _, p1⟩ vx rx => p1 l1 H1 vx (Grow.refl l1 H1) sm1 rx⟩
theorem s_retN : PS X (.Return none pos) (tS (gx X) Wx fRetN) := ps_retN.imp fun D s H h => by
  obtain ⟨env, l, st, en, sm, p⟩ := h
  exact p l H .non (Grow.refl l H) sm .non
def fIfS (t : FT) (f g : FS) : FS := fun env st => (t env st).toS env fun k st1 => if k = true then f env st1 else g env st1
theorem s_if (h : PT X c (tT (gx X) Wx ta)) (h1 : PSs X body (tS (gx X) Wx sa)) (h2 : PSs X orelse (tS (gx X) Wx sb)) : PS X (.If c body orelse pos) (tS (gx X) Wx (fIfS ta sa sb)) := (ps_if h h1 h2).imp fun D s H h => by
  obtain ⟨env, l, st, en, sm, p⟩ := h
  refine ⟨env, l, st, en, sm, (SPo.toS en p).imp fun x l1 H1 g1 ⟨st1, sm1, _, p1⟩ => ?_⟩
  cases x with
  | true => exact iteT ⟨env, l1, st1, en.grow g1, sm1, by simpa using p1⟩
  | false => exact iteF ⟨env, l1, st1, en.grow g1, sm1, by simpa using p1⟩

/-! ### targets -/
abbrev FG := W → En → Sto → SA
abbrev W0 : WX := fun _ _ _ _ => False
def nxE (Q : L2.St → Hp → Prop) : Ends := { nx := Q, rt := fun _ _ => False }
def tG (G : Gx) (f : FG) : TG := fun v s H Q => ∃ w env r st, Rep G r H w v ∧ EnR G r H env s ∧ Sim G r H st ∧ SPo G W0 (nxE Q) r H (f w env st)
theorem _root_.L2.PG.imp {X : Cx} {e : Expr} {t t' : TG} (h : PG X e t) (k : ∀ v s H Q, t' v s H Q → t v s H Q) : PG X e t' := ⟨fun pins s σ H v u Q I r q => h.run pins s σ H v u Q I r (k _ _ _ _ q)⟩
theorem _root_.L2.PGs.imp {X : Cx} {e : List Expr} {t t' : TGs} (h : PGs X e t) (k : ∀ v s H Q, t' v s H Q → t v s H Q) : PGs X e t' := ⟨fun pins s σ H v u Q I r q => h.run pins s σ H v u Q I r (k _ _ _ _ q)⟩
def gN (i : Nat) : FG := fun w env st => .nx (env.set i (some w)) st
theorem g_name {i : Nat} {x : Str} (hN : X.N.Nodup) (hi : X.N[i]? = some x := by rfl) (hx : Loc X.env.scope x := by first | exact Or.inl rfl | exact Or.inr rfl) (hf : X.fn x = true ∨ X.env.scope.names.lookup x = some .local := by first | exact .inl rfl | exact .inr rfl | assumption) : PG X (.Name x pos) (tG (gx X) (gN i)) := (pg_name hN hi hx hf).imp fun v s H Q h => by
  obtain ⟨w, env, r, st, rw', en, sm, p⟩ := h
  exact p r H _ (Grow.refl r H) sm (en.set rw')
abbrev FGs := List W → En → Sto → SA
def tGs (G : Gx) (f : FGs) : TGs := fun vs s H Q => ∃ ws env r st, RepL G r H ws vs ∧ EnR G r H env s ∧ Sim G r H st ∧ SPo G W0 (nxE Q) r H (f ws env st)
def gsNil : FGs := fun ws env st => match ws with
  | [] => .nx env st
  | _ => .bad
def gsCons (g : FG) (gs : FGs) : FGs := fun ws env st => match ws with
  | w :: ws => match g w env st with
    | .nx env1 st1 => gs ws env1 st1
    | _ => .bad
  | [] => .bad
theorem gs_nil : PGs X [] (tGs (gx X) gsNil) := pgs_nil.imp fun vs s H Q h => by
  obtain ⟨ws, env, r, st, rw', en, sm, p⟩ := h
  cases rw' with
  | nil => exact ⟨rfl, p r H s (Grow.refl r H) sm en⟩
  | cons _ _ => exact p.elim
theorem gs_cons {f : FG} {g : FGs} (h1 : PG X e (tG (gx X) f)) (h2 : PGs X es (tGs (gx X) g)) (hs : (assignEach (e :: es) X.env).map (·.2) = assign e X.env :: (assignEach es X.env).map (·.2) := by rfl) : PGs X (e :: es) (tGs (gx X) (gsCons f g)) := (pgs_cons h1 h2 hs).imp fun vs s H Q h => by
  obtain ⟨ws, env, r, st, rw', en, sm, p⟩ := h
  cases rw' with
  | nil => exact p.elim
  | cons q k =>
    refine ⟨_, _, rfl, _, env, r, st, q, en, sm, ?_⟩
    simp only [gsCons] at p
    split at p
    · rename_i env1 st1 e1
      rw [e1]
      exact fun r' H' s' g sm' en' => ⟨_, env1, r', st1, k.grow g, en', sm', SPo.grow g p⟩
    · exact p.elim
def gTupW (n : Nat) (gs : FGs) : FG := fun w env st => match w with
  | .tup l => if l.length = n then gs l env st else .bad
  | _ => .bad
theorem g_tup {k : Nat} {g : FGs} {n : Nat} (h : PGs X es (tGs (gx X) g)) (hc : X.calm = true := by rfl) (hn : (assignEach es X.env).length = n := by rfl) (hst : (assignEach es X.env).findIdx? (·.1) = none := by rfl) : PG X (.Tuple es k pos) (tG (gx X) (gTupW n g)) := (pg_tup hc h hn hst).imp fun v s H Q h => by
  obtain ⟨w, env, r, st, rw', en, sm, p⟩ := h
  cases rw' with
  | @tup l a vs h k =>
    simp only [gTupW] at p
    split at p
    · rename_i hl
      exact ⟨a, vs, rfl, h, by rw [← k.length]; exact hl, l, env, r, st, k, en, sm, p⟩
    · exact p.elim
  | _ => exact p.elim
/-- x[i] = w -/
def wSet (o i w : W) (st : Sto) : Option Sto := match o, i with
  | .ref n, .int k => match st[n]? with
    | some (.lst l) => (ixN l.length k).map fun j => st.set n (.lst (l.set j w))
    | _ => none
  | _, _ => none
def gSubW (fo fi : FE) : FG := fun w env st => match (fo env st).bind fun o st1 => (fi env st1).bind fun i st2 => optB ((wSet o i w st2)) st2 with
  | .ok st' _ => .nx env st'
  | _ => .bad
theorem wSet_rep {G : Gx} {r : List Addr} {H : Hp} {st st' : Sto} (sm : Sim G r H st) {o i w : W} {vo vi v : V} (ro : Rep G r H o vo) (ri : Rep G r H i vi) (rw' : Rep G r H w v) (e : wSet o i w st = some st') {Q : Hp → Prop}
    (q : ∀ H', Stay H H' → Sim G r H' st' → Q H') : rSetL vo vi v H Q := by
  cases ro with
  | @ref n a h =>
    cases ri with
    | int k =>
      simp only [wSet] at e
      split at e
      · rename_i l hl
        obtain ⟨j, e1, rfl⟩ := Option.map_eq_some_iff.mp e
        obtain ⟨vs, e2, kk⟩ := sm.got hl h
        have sy : Stay H (upd H a (.lst (vs.set j v))) := Stay.lst e2
        refine ⟨a, vs, k, j, rfl, rfl, e2, by rw [← kk.length]; exact e1, q _ sy (sm.put h e2 (fun _ z => by cases z) sy ⟨_, upd_same, ?_⟩)⟩
        exact (RepL.set rw' j kk).grow (Grow.same sy)
      · cases e
    | _ => cases e
  | _ => cases e
theorem g_sub (ho : PE X a (tE (gx X) Wx fa)) (hi : PE X b (tE (gx X) Wx fb))
    (ha : ∀ v, assign (.Subscript a b pos) X.env v = (do
      let ov ← holding [v] (eval a X.env)
      let iv ← holding [v, ov] (eval b X.env)
      standAt pos
      holding [v, ov, iv] (setItem ov iv v)
      release [v, ov, iv] []) := by intro _; rfl) : PG X (.Subscript a b pos) (tG (gx X) (gSubW fa fb)) := (pg_sub ho hi set_list ha).imp fun v s H Q h => by
  obtain ⟨w, env, r, st, rw', en, sm, p⟩ := h
  unfold gSubW at p
  cases e1 : fa env st with
  | ex C fs st1 => rw [e1] at p; exact p.elim
  | bad => rw [e1] at p; exact p.elim
  | ok o st1 =>
    rw [e1] at p
    cases e2 : fb env st1 with
    | ex C fs st2 => simp only [An.bind_ok, e2, An.bind_ex] at p; exact p.elim
    | bad => simp only [An.bind_ok, e2, An.bind_bad] at p; exact p.elim
    | ok i st2 =>
      simp only [An.bind_ok, e2] at p
      cases e3 : wSet o i w st2 with
      | none => simp only [e3, optB_none] at p; exact p.elim
      | some st' =>
        simp only [e3, optB_some] at p
        refine ⟨env, r, st, en, sm, ?_⟩
        rw [e1]
        intro r1 H1 g1 sm1 vo ro
        refine ⟨env, r1, st1, en.grow g1, sm1, ?_⟩
        rw [e2]
        intro r2 H2 g2 sm2 vi ri
        exact wSet_rep sm2 (ro.grow g2) ri ((rw'.grow g1).grow g2) e3 fun H' sy sm' => p r2 H' s ((g1.trans g2).trans (Grow.same sy)) sm' (((en.grow g1).grow g2).grow (Grow.same sy))
def fAsg (f : FE) (g : FG) : FS := fun env st => (f env st).toS env fun w st1 => match g w env st1 with
  | .nx env2 st2 => .nx env2 st2
  | _ => .bad
theorem s_asg {g : FG} {tg : Expr} (h : PE X e (tE (gx X) Wx fa)) (hg : PG X tg (tG (gx X) g)) (hs : swapsWithSole [tg] e pos.line X.env = pure false := by rfl) (hw : swappedStores [tg] e X.env = pure none := by rfl)
    (h1 : (assignEach [tg] X.env).map (·.2) = [assign tg X.env] := by rfl) : PS X (.Assign [tg] e pos) (tS (gx X) Wx (fAsg fa g)) := (ps_asg h hg hs hw h1).imp fun D s H h => by
  obtain ⟨env, l, st, en, sm, p⟩ := h
  refine ⟨env, l, st, en, sm, (SPo.toS en p).imp fun x l1 H1 g1 ⟨st1, sm1, _, p1⟩ vx rx => ?_⟩
  refine ⟨x, env, l1, st1, rx, en.grow g1, sm1, ?_⟩
  split at p1
  · rename_i e1
    rw [e1]
    exact p1
  · exact p1.elim
def fSet (i : Nat) (f : FE) : FS := fun env st => (f env st).toS env fun w st1 => .nx (env.set i (some w)) st1
theorem s_set {i : Nat} {x : Str} {p' : Pos} (hN : X.N.Nodup) (h : PE X e (tE (gx X) Wx fa)) (hi : X.N[i]? = some x := by rfl) (hx : Loc X.env.scope x := by first | exact Or.inl rfl | exact Or.inr rfl) (hs : swapsWith e (some (.Name x p')) pos.line X.env = pure false := by rfl) (hf : X.fn x = true ∨ X.env.scope.names.lookup x = some .local := by first | exact .inl rfl | exact .inr rfl | assumption) :
    PS X (.Assign [.Name x p'] e pos) (tS (gx X) Wx (fSet i fa)) := (ps_set hN hi hx h hs hf).imp fun D s H h => by
  obtain ⟨env, l, st, en, sm, p⟩ := h
  exact ⟨env, l, st, en, sm, (SPo.toS en p).imp fun x l1 H1 g1 ⟨st1, sm1, _, p1⟩ vx rx => p1 l1 H1 _ (Grow.refl l1 H1) sm1 ((en.grow g1).set rx)⟩
/-- x op= e -/
def fAug (i : Nat) (g : W → W → Sto → An W) (f : FE) : FS := fun env st => (fVar i env st).toS env fun x st0 => ((f env st0).bind fun y st1 => g x y st1).toS env fun z st2 => .nx (env.set i (some z)) st2
theorem s_aug {i : Nat} {x : Str} {p' : Pos} {op : Operator} {r : R2} {g : W → W → Sto → An W} (hN : X.N.Nodup) (ho : OpR X (inplaceOp op) r) (hg : OpRf (gx X) r g) (h : PE X e (tE (gx X) Wx fa)) (hi : X.N[i]? = some x := by rfl) (hx : Loc X.env.scope x := by first | exact Or.inl rfl | exact Or.inr rfl)
    (hf : X.fn x = true ∨ X.env.scope.names.lookup x = some .local := by first | exact .inl rfl | exact .inr rfl | assumption) : PS X (.AugAssign (.Name x p') op e pos) (tS (gx X) Wx (fAug i g fa)) := (ps_aug (ti := r) hN hi hx h ho hf).imp fun D s H h => by
  obtain ⟨env, l, st, en, sm, p⟩ := h
  unfold fAug fVar at p
  cases e1 : env[i]? with
  | none => rw [e1] at p; exact p.elim
  | some o =>
    cases o with
    | none => rw [e1] at p; exact p.elim
    | some w =>
      rw [e1] at p
      obtain ⟨v, h1, h2⟩ := en.2 i w e1
      refine ⟨v, h1, env, l, st, en, sm, (Po.bind (SPo.toS en p)).imp fun y l1 H1 g1 ⟨st1, sm1, _, p1⟩ vy ry => ?_⟩
      refine hg w y st1 l1 H1 v vy _ Wx s sm1 (h2.grow g1) ry (p1.imp fun z l2 H2 g2 ⟨st2, sm2, _, p2⟩ vz rz => ?_)
      exact p2 l2 H2 _ (Grow.refl l2 H2) sm2 (((en.grow g1).grow g2).set rz)
end
end Sw
/-! SwE: enumerate of a tuple. -/
namespace PySem
theorem sw_enum_new1 {v : Value} {o : Obj} {H : Heap → Prop} (B : Begins v o H) :
    Meets (Builtin.«enumerate.__new__» ⟨[.type "enumerate", v], []⟩) (fun _ R s => H s.heap ∧
      R (.ok (.ret (.ref (s.heap.push o).objs.size))) { s with heap := (s.heap.push o).push { cls := .type "enumerate", data := .fields #[.none, .bool false, .ref s.heap.objs.size, rawInt 0, .none, .none] } }) :=
  .of_wp fun prog w A R s h => by
    obtain ⟨hp, g, d, tk, os⟩ := s; obtain ⟨h1, h⟩ := h
    have hsub := sub_enumerate
    have q1 : ∀ {A' : Around} {E : Value → Shared → Prop} {Q : Value → Shared → Prop}, Q (.ref hp.objs.size) ⟨hp.push o, g, d, tk, os⟩ → wpAny (model prog w) A' (pyIter v) Q E ⟨hp, g, d, tk, os⟩ :=
      fun q => B.iter prog w _ _ ⟨hp, g, d, tk, os⟩ _ h1 q
    wp_walk using q1
    refine wpAny_stack_any fun st => wpAny_pure ?_
    split
    · rename_i c _ _ _ _ _
      cases (c == Value.type "enumerate")
      · wp_walk using q1
        exact ⟨_, rfl, h⟩
      · wp_walk using q1
        exact ⟨_, rfl, h⟩
    · wp_walk using q1
      exact ⟨_, rfl, h⟩
section
variable {prog : Program} {w : World} {A : Around} {E : Value → Shared → Prop} {s : Shared}
theorem sw_enum_begins {v : Value} {o : Obj} {H : Heap → Prop} {Q : Value → Shared → Prop} (B : Begins v o H) (h1 : H s.heap)
    (h : ∀ h', IsEnum h' (s.heap.objs.size + 1) s.heap.objs.size 0 .none → h'.get? s.heap.objs.size = some o → h'.objs.size = s.heap.objs.size + 2 →
      (∀ b o, s.heap.get? b = some o → h'.get? b = some o) → Q (.ref (s.heap.objs.size + 1)) { s with heap := h' }) :
    wpAny (model prog w) A (call (.type "enumerate") [v]) Q E s := by
  refine callType_new F.called_enumerate (by decide) (F.typeCall_enumerate_1 _) (F.newCall_enumerate_1 _) (fun obj => F.args_object_init_2 obj _) F.entry_enumerate_new
    (sw_enum_new1 B) ⟨h1, ?_⟩
  have hz : (s.heap.push o).objs.size = s.heap.objs.size + 1 := Heap.size_push ..
  show _ ∧ _
  rw [hz]
  have he : IsEnum ((s.heap.push o).push { cls := .type "enumerate", data := .fields #[.none, .bool false, .ref s.heap.objs.size, rawInt 0, .none, .none] }) (s.heap.objs.size + 1) s.heap.objs.size 0 .none := by
    have := Heap.get?_push_size (s.heap.push o) (o := { cls := .type "enumerate", data := .fields #[.none, .bool false, .ref s.heap.objs.size, rawInt 0, .none, .none] }) rfl
    rw [hz] at this; exact this
  refine ⟨⟨_, he, rfl⟩, h _ he (Heap.get?_push_of_some _ (Heap.get?_push_size _ B.free)) (by rw [Heap.size_push, hz]) fun b o x => Heap.get?_push_of_some _ (Heap.get?_push_of_some _ x)⟩
end
end PySem
namespace Sw
open PySem PySem.Spec PyProof.Rows L2
/-- enumerate of the tuple at a -/
def IteT (K : PySem.W.Frag) (a : Addr) : It :=
  ⟨fun i H => ∃ (xs : List V) (x : V), SqT K H a xs ∧ xs[i]? = some x, fun i H v H' => ∃ T x, v = .ref T ∧ H T = none ∧ H' = upd H T (.tup [.int (i : Nat), x]) ∧ ∀ xs, SqT K H a xs → xs[i]? = some x, fun i H => ∃ xs : List V, SqT K H a xs ∧ xs.length = i⟩
theorem ne_tupIter {h : Heap} {a it : Addr} {items : Array Value} {i : Nat} (ht : IsTup h a items) (hit : h.IsTupleIter it a i) : a ≠ it := fun z => by
  obtain ⟨o, e1, c1, _⟩ := ht
  obtain ⟨o2, e2, c2, _⟩ := hit
  rw [z, e2] at e1
  cases e1
  rw [c1] at c2
  exact absurd (Value.type.inj c2) (by decide)
theorem ne_tupEnum {h : Heap} {a e it : Addr} {items : Array Value} {i : Int} {old : Value} (ht : IsTup h a items) (he : IsEnum h e it i old) : e ≠ a := fun z => by
  obtain ⟨o, e1, c1, _⟩ := ht
  have he' : h.get? e = some _ := he
  rw [z, e1] at he'
  cases he'
  exact absurd (Value.type.inj c1) (by decide)
theorem turn_enumT {P : Program} {w : World} {K : PySem.W.Frag} {elts : List Expr} {kk : Nat} {tpos : Pos} (a e it : Addr) :
    Turn P w K (.Tuple elts kk tpos) (IteT K a) [e, it] e (fun i h => (∃ old, IsEnum h e it ((i : Nat) : Int) old) ∧ h.IsTupleIter it a i ∧ e ≠ it) where
  mem := by simp
  obj := fun i h st b hb => by
    obtain ⟨⟨old, he⟩, ⟨o, ho, hc, hd⟩, _⟩ := st
    have e' : b = e ∨ b = it := by simpa using hb
    rcases e' with z | z
    · rw [z]; exact ⟨_, he, fun v q => nomatch q⟩
    · rw [z]; exact ⟨o, ho, fun v q => by rw [hd] at q; cases q⟩
  keep := fun i h h' st k => let ⟨⟨old, he⟩, hi, hne⟩ := st; ⟨⟨old, k e (by simp) _ he⟩, hi.at fun o q => k it (by simp) o q, hne⟩
  item := by
    intro X hP hw hK hc i pins s σ H E I hf st hg
    subst hP hw hK
    obtain ⟨⟨old, he⟩, hit, hne⟩ := st
    obtain ⟨xs, x, hq, hx⟩ := hg
    obtain ⟨its, rv, p, hz⟩ := I.tuple hq
    have hel : e < s.heap.objs.size := Heap.lt_size he
    have hil : it < s.heap.objs.size := by obtain ⟨_, q, _⟩ := hit; exact Heap.lt_size q
    have hx' : i < its.toArray.size := by
      have h1 := (List.getElem?_eq_some_iff.mp hx).1
      have h2 := rv.length
      simp; omega
    have nai := ne_tupIter p hit
    have nea := ne_tupEnum p he
    refine wpAny_pyNext_enum_itemD (Draws.tuple (show X.A.in1.handled = none from I.ok.hd hc) it a nai its.toArray) he ⟨hit, p⟩ hx' hne (by simp [hne, nea]) fun u h' tk hP ho hit' hT hsz hk => ?_
    obtain ⟨u', hu, ru⟩ := rv.get hx
    have eu : u = u' := by
      have q : its[i]? = some u := by simpa using hP
      rw [hu] at q
      exact (Option.some.inj q).symm
    subst eu
    refine ⟨_, rfl, wpAny_letOwnedTupleGo_enum (s := { s with heap := h', toks := tk + 1 }) ho fun h'' he' sb => ?_⟩
    have hT2 : h''.get? s.heap.objs.size = some { cls := .type "tuple", data := .seq #[.int i tk, u] } := (sb.2 _ (Nat.ne_of_gt hel)).trans hT
    have new : ObjOk X.prog X.w (upd H s.heap.objs.size (.tup [.int (i : Nat), x])) h'' s.heap.objs.size (.tup [.int (i : Nat), x]) :=
      ⟨by show 2 ≤ sizeLine; decide, [.int i tk, u], .cons ⟨_, rfl⟩ (.cons ru .nil), ⟨_, hT2, rfl, _, rfl⟩⟩
    have I1 : Inv X pins σ (upd H s.heap.objs.size (.tup [.int (i : Nat), x])) { s with heap := h'', toks := tk + 1 } :=
      I.turnedNew (ch := [e, it]) (fun b ob hb q => (sb.2 b (fun z => hb (by simp [z]))).trans (hk b ob (fun z => hb (by simp [z])) (fun z => hb (by simp [z])) q)) hf (Nat.le_refl _) new
    refine ⟨.ref s.heap.objs.size, _, I1, rfl, ⟨_, x, rfl, I.hok.fresh (Nat.le_refl _), rfl, fun ys hy => by rw [I.tuple_inj hy hq]; exact hx⟩, ⟨⟨u, ?_⟩, hit'.1.at fun o q => (sb.2 it (Ne.symm hne)).trans q, hne⟩, fun b hb => ?_⟩
    · have e1 : ((i + 1 : Nat) : Int) = (i : Int) + 1 := by omega
      rw [e1]; exact he'
    · have hb' : b < s.heap.objs.size := by
        have e' : b = e ∨ b = it := by simpa using hb
        rcases e' with z | z
        · rw [z]; exact hel
        · rw [z]; exact hil
      rw [upd_ne (Nat.ne_of_lt hb')]
      exact (hf b hb).1
  done := by
    intro X hP hw hK hc i pins s σ H E I hf st hg
    subst hP hw hK
    obtain ⟨⟨old, he⟩, hit, hne⟩ := st
    obtain ⟨xs, hq, hx⟩ := hg
    obtain ⟨its, rv, p, hz⟩ := I.tuple hq
    obtain ⟨f0, f1, f2, f3, f4, f5⟩ := hf it (by simp)
    have hl := rv.length
    have nai := ne_tupIter p hit
    have en : i = its.toArray.size := by simp; omega
    have hit' : s.heap.IsTupleIter it a its.toArray.size := en ▸ hit
    exact wpAny_pyNext_enum_endD (Draws.tuple (show X.A.in1.handled = none from I.ok.hd hc) it a nai its.toArray) he ⟨hit', p⟩ fun h' eb => ⟨rfl, I.turned (t' := s.toks) (fun b o hb q => eb b o hb q) f0 f1 f3 f4 f5⟩
  self := fun A i s Q E st h => let ⟨⟨_, he⟩, _⟩ := st; wpAny_pyIter_enum he h
end Sw
/-! Sw7: what is walked; for, while, comprehensions. -/
namespace Sw
open PySem PySem.Spec PyProof.Rows L2

/-- a list that must stay as it is while it is walked -/
abbrev GD := Option (Nat × List W)
def gdOk (gd : GD) (st : Sto) : Prop := match gd with
  | none => True
  | some (n, l) => st[n]? = some (.lst l)
structure ItR (G : Gx) (J : It) (items : List W) (gd : GD) (r0 : List Addr) (H0 : Hp) : Prop where
  go : ∀ i r H st, Grow r0 H0 r H → Sim G r H st → gdOk gd st → i < items.length → J.go i H
  yld : ∀ i r H st x H' w, Grow r0 H0 r H → Sim G r H st → gdOk gd st → items[i]? = some w → J.yld i H x H' → Stay H H' ∧ Sim G r H' st ∧ Rep G r H' w x
  stop : ∀ r H st, Grow r0 H0 r H → Sim G r H st → gdOk gd st → J.stop items.length H
abbrev FI := En → Sto → An (List W × GD)
def tI (G : Gx) (Wx : WX) (f : FI) : TI := fun s H R => ∃ env r st, EnR G r H env s ∧ Sim G r H st ∧ Po G Wx s (fun p r' H' => ∀ J, ItR G J p.1 p.2 r' H' → R J H') r H (f env st)
theorem _root_.L2.PI.imp {X : Cx} {tg e : Expr} {t t' : TI} (h : PI X tg e t) (k : ∀ s H R, t' s H R → t s H R) : PI X tg e t' := ⟨fun pins s σ H R I q => h.run pins s σ H R I (k _ _ _ q)⟩
/-- a list, a tuple -/
def seqI (st : Sto) : W → Option (List W × GD)
  | .tup l => some (l, none)
  | .rol l => some (l, none)
  | .ref n => match st[n]? with
    | some (.lst l) => some (l, some (n, l))
    | _ => none
  | _ => none
def fSeqI (f : FE) : FI := fun env st => (f env st).bind fun x st1 => optB (seqI st1 x) st1
theorem itl_rol {G : Gx} {l : List W} {a : Addr} {vs : List V} {r : List Addr} {H : Hp} (h : Rol G.K H a vs) (k : RepL G r H l vs) : ItR G (Itl G.K a) l none r H where
  go := fun i r1 H1 st g sm _ hi => by
    obtain ⟨v, h1, _⟩ := k.get (List.getElem?_eq_getElem hi)
    exact ⟨vs, v, (g.stay.rol h).sq, h1⟩
  yld := fun i r1 H1 st x H' w g sm _ hw y => by
    obtain ⟨e, y⟩ := y
    subst e
    obtain ⟨v, h1, h2⟩ := k.get hw
    have e := y vs (g.stay.rol h).sq
    rw [h1] at e
    cases e
    exact ⟨Stay.refl _, sm, h2.grow g⟩
  stop := fun r1 H1 st g sm _ => ⟨vs, (g.stay.rol h).sq, Nat.le_of_eq k.length.symm⟩
theorem itl_ref {G : Gx} {l : List W} {n : Nat} {a : Addr} {r : List Addr} {H : Hp} (h : r[n]? = some a) : ItR G (Itl G.K a) l (some (n, l)) r H where
  go := fun i r1 H1 st g sm hg hi => by
    obtain ⟨vs, e, k⟩ := sm.got (show st[n]? = some (.lst l) from hg) (g.at h)
    obtain ⟨v, h1, _⟩ := k.get (List.getElem?_eq_getElem hi)
    exact ⟨vs, v, .inl (.inl e), h1⟩
  yld := fun i r1 H1 st x H' w g sm hg hw y => by
    obtain ⟨e, y⟩ := y
    subst e
    obtain ⟨vs, e, k⟩ := sm.got (show st[n]? = some (.lst l) from hg) (g.at h)
    obtain ⟨v, h1, h2⟩ := k.get hw
    have e := y vs (.inl (.inl e))
    rw [h1] at e
    cases e
    exact ⟨Stay.refl _, sm, h2⟩
  stop := fun r1 H1 st g sm hg => by
    obtain ⟨vs, e, k⟩ := sm.got (show st[n]? = some (.lst l) from hg) (g.at h)
    exact ⟨vs, .inl (.inl e), Nat.le_of_eq k.length.symm⟩
theorem itt_tup {G : Gx} {l : List W} {a : Addr} {vs : List V} {r : List Addr} {H : Hp} (h : SqT G.K H a vs) (k : RepL G r H l vs) : ItR G (Itt G.K a) l none r H where
  go := fun i r1 H1 st g sm _ hi => by
    obtain ⟨v, h1, _⟩ := k.get (List.getElem?_eq_getElem hi)
    exact ⟨vs, v, g.stay.sqt h, h1⟩
  yld := fun i r1 H1 st x H' w g sm _ hw y => by
    obtain ⟨e, y⟩ := y
    subst e
    obtain ⟨v, h1, h2⟩ := k.get hw
    have e := y vs (g.stay.sqt h)
    rw [h1] at e
    cases e
    exact ⟨Stay.refl _, sm, h2.grow g⟩
  stop := fun r1 H1 st g sm _ => ⟨vs, g.stay.sqt h, Nat.le_of_eq k.length.symm⟩
section
variable {X : Cx} {Wx : WX} {pos : Pos} {a b c e tg : Expr} {fa fb fc : FE} {ta tb : FT} {es : List Expr} {sa sb : FS} {body : List Stmt}
theorem i_seq (h : PE X e (tE (gx X) Wx fa)) : PI X tg e (tI (gx X) Wx (fSeqI fa)) := by
  refine ⟨fun pins s σ H R I h1 => ?_⟩
  obtain ⟨env, l, st, en, sm, p⟩ := h1
  refine thn (h.run pins s σ H (fun x H1 => (∃ a, x = .ref a ∧ (∃ xs, SqL X.K H1 a xs) ∧ R (Itl X.K a) H1) ∨ ∃ a, x = .ref a ∧ (∃ xs, SqT X.K H1 a xs) ∧ R (Itt X.K a) H1) I
    ⟨env, l, st, en, sm, (Po.bind p).imp fun x l1 H1 g1 ⟨st1, sm1, _, p1⟩ vx rx => ?_⟩) fun v s1 ⟨x, H1, I1, r1, q1⟩ => ?_
  · obtain ⟨⟨l', gd⟩, e1, q⟩ := Po.optB p1 sm1
    cases rx with
    | @tup l2 a vs h k =>
      cases e1
      exact .inr ⟨a, rfl, ⟨vs, h⟩, q _ (itt_tup h k)⟩
    | @rol l2 a vs h k =>
      cases e1
      exact .inl ⟨a, rfl, ⟨vs, h.sq⟩, q _ (itl_rol h k)⟩
    | @ref n a h =>
      simp only [seqI] at e1
      split at e1
      · rename_i l2 e2
        cases e1
        obtain ⟨vs, e3, k⟩ := sm1.got e2 h
        exact .inl ⟨a, rfl, ⟨vs, .inl (.inl e3)⟩, q _ (itl_ref h)⟩
      · cases e1
    | _ => cases e1
  · have fresh : ∀ b ∈ [s1.heap.objs.size], FpOk X pins H1 b := fun b hb => by
      have e : b = s1.heap.objs.size := by simpa using hb
      subst e
      exact I1.fpOk (Nat.le_refl _) (I1.hok.fresh (Nat.le_refl _))
    rcases q1 with ⟨a, e, ⟨xs, hq⟩, q⟩ | ⟨a, e, ⟨xs, hq⟩, q⟩
    · subst e
      cases r1
      obtain ⟨its, rv, p, hz⟩ := I1.list hq
      refine wpAny_pyIter_list p.isList ?_
      exact ⟨s1.heap.objs.size, [s1.heap.objs.size], _, _, H1, rfl, I1.kept (t' := s1.toks) fun b o e => Heap.get?_push_of_some _ e, turn_list a _, ⟨_, Heap.get?_push_size _ rfl, rfl, rfl⟩, fresh, q⟩
    · subst e
      cases r1
      obtain ⟨its, rv, p, hz⟩ := I1.tuple hq
      refine wpAny_pyIter_tuple (show s1.heap.IsTuple a its.toArray from p) ?_
      exact ⟨s1.heap.objs.size, [s1.heap.objs.size], _, _, H1, rfl, I1.kept (t' := s1.toks) fun b o e => Heap.get?_push_of_some _ e, turn_tuple a _, ⟨_, Heap.get?_push_size _ rfl, rfl, rfl⟩, fresh, q⟩
/-- range(n), range(a, b) -/
def rngW (a b : Int) : List W := (List.range (b - a).toNat).map fun i => .int (a + (i : Nat))
theorem rngW_at {a b : Int} {i : Nat} (h : i < (b - a).toNat) : (rngW a b)[i]? = some (.int (a + (i : Nat))) := by
  unfold rngW
  rw [List.getElem?_map, List.getElem?_range h]
  rfl
theorem rngW_length {a b : Int} : (rngW a b).length = (b - a).toNat := by simp [rngW]
theorem itr_rng {G : Gx} {a b : Int} {r : List Addr} {H : Hp} : ItR G (Itr a (b - a).toNat) (rngW a b) none r H where
  go := fun i r1 H1 st g sm _ hi => by rw [rngW_length] at hi; exact hi
  yld := fun i r1 H1 st x H' w g sm _ hw y => by
    obtain ⟨e, y⟩ := y
    subst e y
    have hi : i < (b - a).toNat := by have := (List.getElem?_eq_some_iff.mp hw).1; rwa [rngW_length] at this
    rw [rngW_at hi] at hw
    cases hw
    exact ⟨Stay.refl _, sm, .int _⟩
  stop := fun r1 H1 st g sm _ => by rw [rngW_length]; exact Nat.le_refl _
def okR (a b : Int) : Prop := -(2 ^ 62) ≤ a ∧ a < 2 ^ 62 ∧ -(2 ^ 62) ≤ b ∧ b < 2 ^ 62
instance (a b : Int) : Decidable (okR a b) := inferInstanceAs (Decidable (_ ∧ _))
def wRng1 : List W → Sto → An (List W × GD)
  | [.int b], st => if okR 0 b then .ok (rngW 0 b, none) st else .bad
  | _, _ => .bad
def wRng2 : List W → Sto → An (List W × GD)
  | [.int a, .int b], st => if okR a b then .ok (rngW a b, none) st else .bad
  | _, _ => .bad
def fIt (g : List W → Sto → An (List W × GD)) (f : FA) : FI := fun env st => (f env st).bind g
theorem one_int {G : Gx} {r : List Addr} {H : Hp} {ws : List W} {vs : List V} (k : RepL G r H ws vs) : (∃ i, ws = [.int i] ∧ vs = [.int i]) ∨ ∀ i, ws ≠ [.int i] := by
  cases k with
  | nil => exact .inr (fun i z => by cases z)
  | cons h k =>
    cases k with
    | nil => cases h <;> first | exact .inl ⟨_, rfl, rfl⟩ | exact .inr (fun i z => by cases z)
    | cons _ _ => exact .inr (fun i z => by cases z)
theorem two_int {G : Gx} {r : List Addr} {H : Hp} {ws : List W} {vs : List V} (k : RepL G r H ws vs) : (∃ i j, ws = [.int i, .int j] ∧ vs = [.int i, .int j]) ∨ ∀ i j, ws ≠ [.int i, .int j] := by
  cases k with
  | nil => exact .inr (fun i j z => by cases z)
  | cons h k =>
    cases k with
    | nil => exact .inr (fun i j z => by cases z)
    | cons h2 k =>
      cases k with
      | nil => cases h <;> cases h2 <;> first | exact .inl ⟨_, _, rfl, rfl⟩ | exact .inr (fun i j z => by cases z)
      | cons _ _ => exact .inr (fun i j z => by cases z)
theorem i_rng1 {f : FA} {p : Pos} (hg : Gl X "range") (hm : X.mg "range" = none) (ha : PA X [a] (tL (gx X) Wx f)) (hs : starEach [a] X.env = [(false, eval a X.env)] := by rfl) : PI X tg (.Call (.Name "range" p) [a] [] pos) (tI (gx X) Wx (fIt wRng1 f)) := (pi_range1 hg hm ha hs).imp fun s H R h => by
  obtain ⟨env, l, st, en, sm, p⟩ := h
  refine ⟨env, l, st, en, sm, (Po.bind p).imp fun x l1 H1 g1 ⟨st1, sm1, _, p1⟩ vx rx => ?_⟩
  rcases one_int rx with ⟨j, rfl, rfl⟩ | hn
  · obtain ⟨hk, p1⟩ := ite_bad p1
    refine ⟨j, rfl, hk.2.2.1, hk.2.2.2, ?_⟩
    have := Po.ok p1 sm1 _ (itr_rng (G := gx X) (a := 0) (b := j) (r := l1) (H := H1))
    rwa [Int.sub_zero] at this
  · unfold wRng1 at p1
    split at p1
    · exact absurd rfl (hn _)
    · exact p1.elim
theorem i_rng2 {f : FA} {p : Pos} (hg : Gl X "range") (hm : X.mg "range" = none) (ha : PA X [a, b] (tL (gx X) Wx f)) (hs : starEach [a, b] X.env = [(false, eval a X.env), (false, eval b X.env)] := by rfl) (hs2 : starEach [b] X.env = [(false, eval b X.env)] := by rfl) : PI X tg (.Call (.Name "range" p) [a, b] [] pos) (tI (gx X) Wx (fIt wRng2 f)) := (pi_range2 hg hm ha hs hs2).imp fun s H R h => by
  obtain ⟨env, l, st, en, sm, p⟩ := h
  refine ⟨env, l, st, en, sm, (Po.bind p).imp fun x l1 H1 g1 ⟨st1, sm1, _, p1⟩ vx rx => ?_⟩
  rcases two_int rx with ⟨i, j, rfl, rfl⟩ | hn
  · obtain ⟨hk, p1⟩ := ite_bad p1
    exact ⟨i, j, rfl, hk, Po.ok p1 sm1 _ itr_rng⟩
  · unfold wRng2 at p1
    split at p1
    · exact absurd rfl (hn _ _)
    · exact p1.elim
/-- reversed(range(n)) -/
def wRevR : W → Sto → An (List W × GD)
  | .int b, st => if okR 0 b then .ok ((rngW 0 b).reverse, none) st else .bad
  | _, _ => .bad
def fI1 (g : W → Sto → An (List W × GD)) (f : FE) : FI := fun env st => (f env st).bind g
theorem rev_at {b : Int} {i : Nat} (h : i < (b - 0).toNat) : (rngW 0 b).reverse[i]? = some (.int (0 + (((b - 0).toNat : Nat) : Int) - 1 + (i : Nat) * (-1))) := by
  have hl : (rngW 0 b).length = (b - 0).toNat := rngW_length
  rw [List.getElem?_reverse (by rw [hl]; exact h), rngW_at (by rw [hl]; omega)]
  rw [hl]
  congr 2
  omega
theorem i_revr {p p2 q : Pos} (hg : Gl X "reversed") (hm : X.mg "reversed" = none) (hg2 : Gl X "range") (hm2 : X.mg "range" = none) (ha : PE X a (tE (gx X) Wx fa)) (na : starEach [a] X.env = (false, eval a X.env) :: starEach [] X.env := by rfl)
    (hs : starEach [.Call (.Name "range" p2) [a] [] q] X.env = (false, eval (.Call (.Name "range" p2) [a] [] q) X.env) :: starEach [] X.env := by rfl) : PI X tg (.Call (.Name "reversed" p) [.Call (.Name "range" p2) [a] [] q] [] pos) (tI (gx X) Wx (fI1 wRevR fa)) := (pi_revR hg hm (prg_1 hg2 hm2 ha na) hs).imp fun s H R h => by
  obtain ⟨env, l, st, en, sm, p⟩ := h
  refine ⟨env, l, st, en, sm, (Po.bind p).imp fun x l1 H1 g1 ⟨st1, sm1, _, p1⟩ vx rx => ?_⟩
  cases rx with
  | int b =>
    obtain ⟨hk, p1⟩ := ite_bad p1
    refine ⟨b, rfl, by decide, by decide, hk.2.2.1, hk.2.2.2, Po.ok p1 sm1 _ ?_⟩
    refine ⟨fun i r1 H1 st g sm _ hi => ?_, fun i r1 H1 st x H' w g sm _ hw y => ?_, fun r1 H1 st g sm _ => ?_⟩
    · rw [List.length_reverse, rngW_length] at hi
      exact hi
    · obtain ⟨e, y⟩ := y
      subst e y
      have hi : i < (b - 0).toNat := by have := (List.getElem?_eq_some_iff.mp hw).1; rwa [List.length_reverse, rngW_length] at this
      rw [rev_at hi] at hw
      cases hw
      exact ⟨Stay.refl _, sm, .int _⟩
    · show (b - 0).toNat ≤ _
      rw [List.length_reverse, rngW_length]
      exact Nat.le_refl _
  | _ => exact p1.elim
/-- enumerate(x), zip(x, y) -/
def enumW : Nat → List W → List W
  | _, [] => []
  | k, x :: l => .tup [.int (k : Nat), x] :: enumW (k + 1) l
theorem enumW_at : ∀ {l : List W} {k i : Nat} {x : W}, l[i]? = some x → (enumW k l)[i]? = some (.tup [.int ((k + i : Nat) : Int), x])
  | [], _, _, _, h => by simp at h
  | x :: l, k, 0, y, h => by simp at h; subst h; rfl
  | x :: l, k, i + 1, y, h => by
    have := enumW_at (l := l) (k := k + 1) (i := i) (by simpa using h)
    simp only [enumW, List.getElem?_cons_succ]
    rw [this, show k + 1 + i = k + (i + 1) by omega]
theorem enumW_length : ∀ {l : List W} {k : Nat}, (enumW k l).length = l.length
  | [], _ => rfl
  | x :: l, k => by simp [enumW, enumW_length (l := l)]
theorem new_pair {G : Gx} {r : List Addr} {H : Hp} {st : Sto} {T : Addr} {x y : V} {w u : W} (sm : Sim G r H st) (hT : H T = none) (h1 : Rep G r H w x) (h2 : Rep G r H u y) : Stay H (upd H T (.tup [x, y])) ∧ Sim G r (upd H T (.tup [x, y])) st ∧ Rep G r (upd H T (.tup [x, y])) (.tup [w, u]) (.ref T) := by
  have g : Grow r H r (upd H T (.tup [x, y])) := Grow.same (Stay.new hT)
  exact ⟨g.stay, sm.tup hT, .tup (.inl (.inl upd_same)) (.cons (h1.grow g) (.cons (h2.grow g) .nil))⟩
theorem ite_list {G : Gx} {l : List W} {gd : GD} {a : Addr} {r : List Addr} {H : Hp} (h : ∀ r1 H1 st, Grow r H r1 H1 → Sim G r1 H1 st → gdOk gd st → ∃ vs, SqL G.K H1 a vs ∧ RepL G r1 H1 l vs) : ItR G (Ite G.K a) (enumW 0 l) gd r H where
  go := fun i r1 H1 st g sm hg hi => by
    obtain ⟨vs, q, k⟩ := h r1 H1 st g sm hg
    rw [enumW_length] at hi
    obtain ⟨v, h1, _⟩ := k.get (List.getElem?_eq_getElem hi)
    exact ⟨vs, v, q, h1⟩
  yld := fun i r1 H1 st x H' w g sm hg hw y => by
    obtain ⟨T, x', e, hT, eH, y⟩ := y
    subst e eH
    obtain ⟨vs, q, k⟩ := h r1 H1 st g sm hg
    have hi : i < l.length := by have := (List.getElem?_eq_some_iff.mp hw).1; rwa [enumW_length] at this
    rw [enumW_at (List.getElem?_eq_getElem hi)] at hw
    cases hw
    obtain ⟨v, h1, h2⟩ := k.get (List.getElem?_eq_getElem hi)
    have e := y vs q
    rw [h1] at e
    cases e
    rw [Nat.zero_add]
    exact new_pair sm hT (.int _) h2
  stop := fun r1 H1 st g sm hg => by
    obtain ⟨vs, q, k⟩ := h r1 H1 st g sm hg
    exact ⟨vs, q, by rw [enumW_length, k.length]; exact Nat.le_refl _⟩
theorem ite_tup {G : Gx} {l : List W} {gd : GD} {a : Addr} {r : List Addr} {H : Hp} (h : ∀ r1 H1 st, Grow r H r1 H1 → Sim G r1 H1 st → gdOk gd st → ∃ vs, SqT G.K H1 a vs ∧ RepL G r1 H1 l vs) : ItR G (IteT G.K a) (enumW 0 l) gd r H where
  go := fun i r1 H1 st g sm hg hi => by
    obtain ⟨vs, q, k⟩ := h r1 H1 st g sm hg
    rw [enumW_length] at hi
    obtain ⟨v, h1, _⟩ := k.get (List.getElem?_eq_getElem hi)
    exact ⟨vs, v, q, h1⟩
  yld := fun i r1 H1 st x H' w g sm hg hw y => by
    obtain ⟨T, x', e, hT, eH, y⟩ := y
    subst e eH
    obtain ⟨vs, q, k⟩ := h r1 H1 st g sm hg
    have hi : i < l.length := by have := (List.getElem?_eq_some_iff.mp hw).1; rwa [enumW_length] at this
    rw [enumW_at (List.getElem?_eq_getElem hi)] at hw
    cases hw
    obtain ⟨v, h1, h2⟩ := k.get (List.getElem?_eq_getElem hi)
    have e := y vs q
    rw [h1] at e
    cases e
    rw [Nat.zero_add]
    exact new_pair sm hT (.int _) h2
  stop := fun r1 H1 st g sm hg => by
    obtain ⟨vs, q, k⟩ := h r1 H1 st g sm hg
    exact ⟨vs, q, by rw [enumW_length, k.length]⟩
/-- what seqI tells stands while the guard stands -/
theorem seqI_stands {G : Gx} {r : List Addr} {H : Hp} {st : Sto} {x : W} {v : V} {l : List W} {gd : GD} (sm : Sim G r H st) (h : Rep G r H x v) (e : seqI st x = some (l, gd)) :
    (∃ a, v = .ref a ∧ (∃ vs, SqT G.K H a vs) ∧ ∀ r1 H1 st, Grow r H r1 H1 → Sim G r1 H1 st → gdOk gd st → ∃ vs, SqT G.K H1 a vs ∧ RepL G r1 H1 l vs) ∨
    (∃ a, v = .ref a ∧ (∃ vs, SqL G.K H a vs) ∧ ∀ r1 H1 st, Grow r H r1 H1 → Sim G r1 H1 st → gdOk gd st → ∃ vs, SqL G.K H1 a vs ∧ RepL G r1 H1 l vs) := by
  cases h with
  | @tup l2 a vs h k =>
    cases e
    exact .inl ⟨a, rfl, ⟨vs, h⟩, fun r1 H1 st g _ _ => ⟨vs, g.stay.sqt h, k.grow g⟩⟩
  | @rol l2 a vs h k =>
    cases e
    exact .inr ⟨a, rfl, ⟨vs, h.sq⟩, fun r1 H1 st g _ _ => ⟨vs, (g.stay.rol h).sq, k.grow g⟩⟩
  | @ref n a h =>
    simp only [seqI] at e
    split at e
    · rename_i l2 e2
      cases e
      obtain ⟨vs, e3, k⟩ := sm.got e2 h
      refine .inr ⟨a, rfl, ⟨vs, .inl (.inl e3)⟩, fun r1 H1 st g sm hg => ?_⟩
      obtain ⟨vs, e4, k⟩ := sm.got (show st[n]? = some (.lst l) from hg) (g.at h)
      exact ⟨vs, .inl (.inl e4), k⟩
    · cases e
  | _ => cases e
def wEnum : W → Sto → An (List W × GD) := fun x st => (optB (seqI st x) st).bind fun p _ => .ok (enumW 0 p.1, p.2) st
theorem i_enum {elts : List Expr} {kk : Nat} {tpos p : Pos} (hg : Gl X "enumerate") (hm : X.mg "enumerate" = none) (ha : PE X a (tE (gx X) Wx fa)) (hs : starEach [a] X.env = [(false, eval a X.env)] := by rfl) (hs' : starEach [a] X.env = (false, eval a X.env) :: starEach [] X.env := by rfl) : PI X (.Tuple elts kk tpos) (.Call (.Name "enumerate" p) [a] [] pos) (tI (gx X) Wx (fI1 wEnum fa)) := by
  refine ⟨fun pins s σ H R I h1 => ?_⟩
  obtain ⟨env, l, st, en, sm, p⟩ := h1
  refine Call_ (ld_blt I hg hm boot_enumerate (PyProof.Rows.callWith_type1 (thn ((pa_cons ha pa_nil hs').run pos pins s σ H (fun vs H1 => (∃ a, vs = [.ref a] ∧ (∃ xs, SqL X.K H1 a xs) ∧ R (Ite X.K a) H1) ∨ ∃ a, vs = [.ref a] ∧ (∃ xs, SqT X.K H1 a xs) ∧ R (IteT X.K a) H1) I
    ⟨env, l, st, en, sm, (Po.bind p).imp fun x l1 H1 g1 ⟨st1, sm1, _, p1⟩ vx rx => ?_⟩) fun us s1 ⟨vs, H1, I1, r1, q1⟩ => ?_) hs rfl))
  · unfold wEnum at p1
    cases e1 : seqI st1 x with
    | none => rw [e1] at p1; exact p1.elim
    | some pr =>
      obtain ⟨l', gd⟩ := pr
      rw [e1] at p1
      have q := Po.ok p1 sm1
      rcases seqI_stands sm1 rx e1 with ⟨a, rfl, h1, h2⟩ | ⟨a, rfl, h1, h2⟩
      · exact .inr ⟨a, rfl, h1, q _ (ite_tup h2)⟩
      · exact .inl ⟨a, rfl, h1, q _ (ite_list h2)⟩
  · have fresh : ∀ b ∈ [s1.heap.objs.size + 1, s1.heap.objs.size], FpOk X pins H1 b := fun b hb => by
      have e' : b = s1.heap.objs.size + 1 ∨ b = s1.heap.objs.size := by simpa using hb
      have hle : s1.heap.objs.size ≤ b := by
        rcases e' with z | z
        · rw [z]; exact Nat.le_add_right _ _
        · rw [z]; exact Nat.le_refl _
      exact I1.fpOk hle (I1.hok.fresh hle)
    rcases q1 with ⟨a, e, ⟨xs, hq⟩, q⟩ | ⟨a, e, ⟨xs, hq⟩, q⟩
    · subst e
      cases r1 with
      | cons r rr =>
        cases rr
        cases r
        obtain ⟨its, rv, p', hz⟩ := I1.list hq
        refine call_enumerate_list p'.isList fun h' he hit hsz hk => wpAny_pyIter_enum he ?_
        exact ⟨s1.heap.objs.size + 1, [s1.heap.objs.size + 1, s1.heap.objs.size], _, _, H1, rfl, I1.kept (t' := s1.toks) hk, turn_enum a (s1.heap.objs.size + 1) s1.heap.objs.size, ⟨⟨.none, he⟩, hit, Nat.succ_ne_self _⟩, fresh, q⟩
    · subst e
      cases r1 with
      | cons r rr =>
        cases rr
        cases r
        obtain ⟨its, rv, p', hz⟩ := I1.tuple hq
        refine sw_enum_begins (begins_tuple a its.toArray) p' fun h' he hit hsz hk => wpAny_pyIter_enum he ?_
        exact ⟨s1.heap.objs.size + 1, [s1.heap.objs.size + 1, s1.heap.objs.size], _, _, H1, rfl, I1.kept (t' := s1.toks) hk, turn_enumT a (s1.heap.objs.size + 1) s1.heap.objs.size, ⟨⟨.none, he⟩, ⟨_, hit, rfl, rfl⟩, Nat.succ_ne_self _⟩, fresh, q⟩
end
end Sw
/-! Sw8: for, while, comprehensions. -/
namespace Sw
open PySem PySem.Spec PyProof.Rows L2 RZ
open Classical in
/-- the turns of a for -/
noncomputable def forS (gd : GD) (g : FG) (body : FS) : List W → FS
  | [], env, st => if gdOk gd st then .nx env st else .bad
  | w :: ws, env, st => if gdOk gd st then (match g w env st with
    | .nx env1 st1 => (match body env1 st1 with
      | .nx env2 st2 => forS gd g body ws env2 st2
      | .ct env2 st2 => forS gd g body ws env2 st2
      | .bk env2 st2 => .nx env2 st2
      | o => o)
    | _ => .bad) else .bad
noncomputable def fFor (it : FI) (g : FG) (body : FS) : FS := fun env st => (it env st).toS env fun p st1 => forS p.2 g body p.1 env st1
theorem spo_ite {G : Gx} {Wx : WX} {D : Ends} {r : List Addr} {H : Hp} {c : Prop} {inst : Decidable c} {a : SA} (p : SPo G Wx D r H (if c then a else .bad)) : c ∧ SPo G Wx D r H a := by
  by_cases h : c
  · rw [if_pos h] at p
    exact ⟨h, p⟩
  · rw [if_neg h] at p
    exact p.elim
section
variable {X : Cx} {Wx : WX} {pos : Pos} {a b c e tg : Expr} {fa fb fc : FE} {ta tb : FT} {es : List Expr} {sa sb : FS} {body : List Stmt}
theorem s_for {iter : Expr} {fi : FI} {g : FG} (hp : PassesOwn (model X.prog X.w) X.A X.env X.xe) (hi : PI X tg iter (tI (gx X) Wx fi)) (hg : PG X tg (tG (gx X) g)) (hb : PSs X body (tS (gx X) Wx sa)) (hc : X.calm = true := by rfl)
    (hs : ∀ x, foldedSetIterable iter X.env x = pure x := by intro _; rfl) : PS X (.For tg iter body [] pos) (tS (gx X) Wx (fFor fi g sa)) := (ps_for hp hc hi hg hb hs).imp fun D s H h => by
  obtain ⟨env, l, st, en, sm, p⟩ := h
  refine ⟨env, l, st, en, sm, (SPo.toS en p).imp fun pr l1 H1 g1 ⟨st1, sm1, _, p1⟩ J it => ?_⟩
  obtain ⟨items, gd⟩ := pr
  refine ⟨fun i m σ H => ∃ env r st, m + i = items.length ∧ Grow l1 H1 r H ∧ EnR (gx X) r H env σ ∧ Sim (gx X) r H st ∧ SPo (gx X) Wx D r H (forS gd g sa (items.drop i) env st), ⟨items.length, env, l1, st1, rfl, Grow.refl _ _, en.grow g1, sm1, p1⟩, ?_⟩
  rintro i m σ H ⟨env, r, st, em, gr, en, sm, p⟩
  by_cases hi : i < items.length
  · rw [List.drop_eq_getElem_cons hi] at p
    simp only [forS] at p
    obtain ⟨hgd, p⟩ := spo_ite p
    refine .inr ⟨it.go i r H st gr sm hgd hi, fun σ H => ∃ env r st, Grow l1 H1 r H ∧ EnR (gx X) r H env σ ∧ Sim (gx X) r H st ∧ SPo (gx X) Wx D r H (forS gd g sa (items.drop (i + 1)) env st), fun σ' H' hN => ?_, fun x H' y => ?_⟩
    · obtain ⟨env, r, st, gr, en, sm, p⟩ := hN
      exact ⟨m - 1, by omega, env, r, st, by omega, gr, en, sm, p⟩
    · obtain ⟨sy, sm', rx⟩ := it.yld i r H st x H' items[i] gr sm hgd (List.getElem?_eq_getElem hi) y
      have g2 : Grow r H r H' := Grow.same sy
      refine ⟨items[i], env, r, st, rx, en.grow g2, sm', ?_⟩
      cases eg : g items[i] env st with
      | nx env1 st1 =>
        simp only [eg] at p
        intro r2 H2 σ2 g3 sm2 en2
        refine ⟨env1, r2, st1, en2, sm2, ?_⟩
        have gr2 : Grow l1 H1 r2 H2 := (gr.trans g2).trans g3
        have p := SPo.grow (g2.trans g3) p
        cases eb : sa env1 st1 with
        | nx env2 st2 =>
          simp only [eb] at p
          exact fun r3 H3 σ3 g4 sm3 en3 => ⟨env2, r3, st2, gr2.trans g4, en3, sm3, SPo.grow g4 p⟩
        | ct env2 st2 =>
          simp only [eb] at p
          exact fun r3 H3 σ3 g4 sm3 en3 => ⟨env2, r3, st2, gr2.trans g4, en3, sm3, SPo.grow g4 p⟩
        | bk env2 st2 => simp only [eb] at p; exact p
        | rt w st2 => simp only [eb] at p; exact p
        | ex C fs env2 st2 => simp only [eb] at p; exact p
        | bad => simp only [eb] at p; exact p
      | _ => simp only [eg] at p; exact p.elim
  · have ed : items.drop i = [] := List.drop_eq_nil_of_le (by omega)
    rw [ed] at p
    simp only [forS] at p
    obtain ⟨hgd, p⟩ := spo_ite p
    have ei : i = items.length := by omega
    subst ei
    exact .inl ⟨it.stop r H st gr sm hgd, p r H σ (Grow.refl _ _) sm en⟩
/-- while, of so many turns at most -/
def whS (t : FT) (body : FS) : Nat → FS
  | 0, _, _ => .bad
  | n + 1, env, st => (t env st).toS env fun k st1 => if k = true then (match body env st1 with
    | .nx env2 st2 => whS t body n env2 st2
    | .ct env2 st2 => whS t body n env2 st2
    | .bk env2 st2 => .nx env2 st2
    | o => o) else .nx env st1
theorem s_while {n : Nat} (hp : PassesOwn (model X.prog X.w) X.A X.env X.xe) (hc : PT X c (tT (gx X) Wx ta)) (hb : PSs X body (tS (gx X) Wx sa)) : PS X (.While c body [] pos) (tS (gx X) Wx (whS ta sa n)) := (ps_while hp hc hb).imp fun D s H h => by
  obtain ⟨env, l, st, en, sm, p⟩ := h
  refine ⟨fun m σ H => ∃ env r st, EnR (gx X) r H env σ ∧ Sim (gx X) r H st ∧ SPo (gx X) Wx D r H (whS ta sa m env st), ⟨n, env, l, st, en, sm, p⟩, ?_⟩
  rintro m σ H ⟨env, r, st, en, sm, p⟩
  cases m with
  | zero => exact p.elim
  | succ m =>
    refine ⟨env, r, st, en, sm, (SPo.toS en p).imp fun k r1 H1 g1 ⟨st1, sm1, _, p1⟩ => ?_⟩
    cases k with
    | false => exact iteF (by simp only [Bool.false_eq_true, if_false] at p1; exact p1 r1 H1 σ (Grow.refl _ _) sm1 (en.grow g1))
    | true =>
      simp only [if_true] at p1
      refine iteT ⟨fun σ H => ∃ env r st, EnR (gx X) r H env σ ∧ Sim (gx X) r H st ∧ SPo (gx X) Wx D r H (whS ta sa m env st), fun σ' H' hN => ⟨m, Nat.lt_succ_self m, hN⟩, env, r1, st1, en.grow g1, sm1, ?_⟩
      cases eb : sa env st1 with
      | nx env2 st2 =>
        simp only [eb] at p1
        exact fun r3 H3 σ3 g4 sm3 en3 => ⟨env2, r3, st2, en3, sm3, SPo.grow g4 p1⟩
      | ct env2 st2 =>
        simp only [eb] at p1
        exact fun r3 H3 σ3 g4 sm3 en3 => ⟨env2, r3, st2, en3, sm3, SPo.grow g4 p1⟩
      | bk env2 st2 => simp only [eb] at p1; exact p1
      | rt w st2 => simp only [eb] at p1; exact p1
      | ex C fs env2 st2 => simp only [eb] at p1; exact p1
      | bad => simp only [eb] at p1; exact p1

/-! ### zip of two lists, of two tuples -/
def zipW (l m : List W) : List W := (l.zip m).map fun p => .tup [p.1, p.2]
theorem zipW_at {l m : List W} {i : Nat} {x y : W} (h1 : l[i]? = some x) (h2 : m[i]? = some y) : (zipW l m)[i]? = some (.tup [x, y]) := by
  unfold zipW
  rw [List.getElem?_map, (List.getElem?_zip_eq_some (z := (x, y))).mpr ⟨h1, h2⟩]
  rfl
theorem zipW_length {l m : List W} : (zipW l m).length = min l.length m.length := by simp [zipW]
def wZip : List W → Sto → An (List W × GD)
  | [.tup l, .tup m], st => .ok (zipW l m, none) st
  | _, _ => .bad
theorem itz_tup {G : Gx} {l m : List W} {a b : Addr} {vs us : List V} {r : List Addr} {H : Hp} (h : SqT G.K H a vs) (k : RepL G r H l vs) (h' : SqT G.K H b us) (k' : RepL G r H m us) : ItR G (ItzT G.K a b) (zipW l m) none r H where
  go := fun i r1 H1 st g sm hg hi => by
    rw [zipW_length] at hi
    obtain ⟨v, h1, _⟩ := k.get (List.getElem?_eq_getElem (show i < l.length by omega))
    obtain ⟨u, h2, _⟩ := k'.get (List.getElem?_eq_getElem (show i < m.length by omega))
    exact ⟨vs, us, v, u, g.stay.sqt h, g.stay.sqt h', h1, h2⟩
  yld := fun i r1 H1 st x H' w g sm hg hw y => by
    obtain ⟨T, x', y', e, hT, eH, y1, y2⟩ := y
    subst e eH
    have hi : i < min l.length m.length := by have := (List.getElem?_eq_some_iff.mp hw).1; rwa [zipW_length] at this
    have hl := List.getElem?_eq_getElem (show i < l.length by omega)
    have hm := List.getElem?_eq_getElem (show i < m.length by omega)
    rw [zipW_at hl hm] at hw
    cases hw
    obtain ⟨v, h1, h2⟩ := k.get hl
    obtain ⟨u, h3, h4⟩ := k'.get hm
    have e1 := y1 vs (g.stay.sqt h)
    have e2 := y2 us (g.stay.sqt h')
    rw [h1] at e1
    rw [h3] at e2
    cases e1
    cases e2
    exact new_pair sm hT (h2.grow g) (h4.grow g)
  stop := fun r1 H1 st g sm hg => ⟨vs, us, g.stay.sqt h, g.stay.sqt h', by rw [zipW_length, k.length, k'.length]; omega⟩
theorem i_zip {elts : List Expr} {kk : Nat} {tpos p : Pos} {f : FA} (hg : Gl X "zip") (hm : X.mg "zip" = none) (ha : PA X [a, b] (tL (gx X) Wx f)) (hs : starEach [a, b] X.env = (false, eval a X.env) :: starEach [b] X.env := by rfl) (hpl : (backTo pos (starEach [b] X.env)).any (·.1) = false := by rfl) :
    PI X (.Tuple elts kk tpos) (.Call (.Name "zip" p) [a, b] [] pos) (tI (gx X) Wx (fIt wZip f)) := (pi_zipA hg hm ha hs hpl).imp fun s H R h => by
  obtain ⟨env, l, st, en, sm, p⟩ := h
  refine ⟨env, l, st, en, sm, (Po.bind p).imp fun x l1 H1 g1 ⟨st1, sm1, _, p1⟩ vx rx => ?_⟩
  cases rx with
  | nil => exact p1.elim
  | cons h k =>
    cases k with
    | nil => cases h <;> exact p1.elim
    | cons h2 k2 =>
      cases k2 with
      | cons _ _ => cases h <;> cases h2 <;> exact p1.elim
      | nil =>
        cases h with
        | @tup l2 a vs q k =>
          cases h2 with
          | @tup l3 b us q' k' => exact ⟨a, b, vs, us, rfl, .inr ⟨q, q', Po.ok p1 sm1 _ (itz_tup q k q' k')⟩⟩
          | _ => exact p1.elim
        | _ => cases h2 <;> exact p1.elim

/-! ### comprehensions -/
def An.noex {α : Type} (m : An α) : An α := match m with
  | .ok a st => .ok a st
  | _ => .bad
@[simp] theorem An.noex_ok {α : Type} (a : α) (st : Sto) : (An.ok a st).noex = .ok a st := rfl
theorem Po.noex {G : Gx} {Wx : WX} {s s' : L2.St} {α : Type} {P : α → List Addr → Hp → Prop} {r : List Addr} {H : Hp} {m : An α} (h : Po G Wx s P r H m.noex) : Po G W0 s' P r H m := by
  cases m with
  | ok a st => exact h
  | ex C fs st => exact h.elim
  | bad => exact h
def wipeW (env : En) : List Nat → En
  | [] => env
  | v :: vs => (wipeW env vs).set v none
theorem EnR.wipe {G : Gx} {r : List Addr} {H : Hp} {env : En} {s : L2.St} (h : EnR G r H env s) : ∀ vs : List Nat, EnR G r H (wipeW env vs) (wipe s vs)
  | [] => h
  | v :: vs => (EnR.wipe h vs).forget
open Classical in
/-- the turns of a comprehension whose list lies at n: bind sets the block's names -/
noncomputable def lcS (gd : GD) (bind : W → En → Option En) (t : FT) (f : FE) (n : Nat) (env : En) : List W → Sto → An Unit
  | [], st => if gdOk gd st then .ok () st else .bad
  | w :: ws, st => if gdOk gd st then (match bind w env with
    | some env1 => (t env1 st).noex.bind fun k st2 => if k = true then (f env1 st2).noex.bind fun y st3 => match st3[n]? with
        | some (.lst acc) => if acc.length < 100000 then lcS gd bind t f n env ws (st3.set n (.lst (acc ++ [y]))) else .bad
        | _ => .bad
      else lcS gd bind t f n env ws st2
    | none => .bad) else .bad
noncomputable def fLc (own : List Nat) (it : FI) (bind : W → En → Option En) (t : FT) (f : FE) : FE := fun env st => (it env st).bind fun p st1 => (lcS p.2 bind t f st1.length (wipeW env own) p.1 (st1 ++ [.lst []])).bind fun _ st2 => .ok (.ref st1.length) st2
/-- what a target of the block does -/
def BindOk (G : Gx) (own : List Nat) (g : TG) (bind : W → En → Option En) : Prop := ∀ (w : W) (v : V) (s : L2.St) (env env1 : En) (r : List Addr) (H : Hp) (Q : L2.St → Hp → Prop), Rep G r H w v → EnR G r H (wipeW env own) (wipe s own) → bind w (wipeW env own) = some env1 →
  (∀ s2, EnR G r H env1 s2 → wipe s2 own = wipe s own → Q s2 H) → g v (wipe s own) H Q
theorem lc_imp {G : Gx} {own : List Nat} {fi : FI} {g : TG} {bind : W → En → Option En} {t : FT} {f : FE} (hb : BindOk G own g bind) {s : L2.St} {H : Hp} {Q : VK} (h : tE G Wx (fLc own fi bind t f) s H Q) :
    tLc (tI G Wx fi) g (tT G W0 t) (tE G W0 f) own s H Q := by
  obtain ⟨env, l, st, en, sm, p⟩ := h
  refine ⟨env, l, st, en, sm, (Po.bind p).imp fun pr l1 H1 g1 ⟨st1, sm1, _, p1⟩ J it => ?_⟩
  obtain ⟨items, gd⟩ := pr
  intro D hD
  have gD : Grow l1 H1 (l1 ++ [D]) (upd H1 D (.lst [])) := Grow.one (Stay.new hD)
  have smD : Sim G (l1 ++ [D]) (upd H1 D (.lst [])) (st1 ++ [.lst []]) := sm1.newU hD ⟨[], upd_same, .nil⟩
  have hDn : (l1 ++ [D])[st1.length]? = some D := by rw [← sm1.len, List.getElem?_append_right (Nat.le_refl _)]; simp
  have p2 := (Po.bind (Po.grow gD p1))
  refine ⟨fun i m H => ∃ r st, m + i = items.length ∧ Grow (l1 ++ [D]) (upd H1 D (.lst [])) r H ∧ Sim G r H st ∧ Po G Wx s (fun _ r1 H1' => ∃ st2, Sim G r1 H1' st2 ∧ Grow r H r1 H1' ∧ Po G Wx s (fun w r' H' => ∀ v, Rep G r' H' w v → Q v H') r1 H1' (.ok (.ref st1.length) st2)) r H (lcS gd bind t f st1.length (wipeW env own) (items.drop i) st),
    ⟨items.length, l1 ++ [D], _, rfl, Grow.refl _ _, smD, p2.imp fun _ r' H' g' ⟨st2, q1, q2, q3⟩ => ⟨st2, q1, g', q3⟩⟩, ?_⟩
  rintro i m H ⟨r, st, em, gr, sm, p⟩
  by_cases hi : i < items.length
  · rw [List.drop_eq_getElem_cons hi] at p
    simp only [lcS] at p
    obtain ⟨hgd, p⟩ := ite_bad p
    have gr1 := gD.trans gr
    refine .inr ⟨it.go i r H st gr1 sm hgd hi, fun H => ∃ r st, Grow (l1 ++ [D]) (upd H1 D (.lst [])) r H ∧ Sim G r H st ∧ Po G Wx s (fun _ r1 H1' => ∃ st2, Sim G r1 H1' st2 ∧ Grow r H r1 H1' ∧ Po G Wx s (fun w r' H' => ∀ v, Rep G r' H' w v → Q v H') r1 H1' (.ok (.ref st1.length) st2)) r H (lcS gd bind t f st1.length (wipeW env own) (items.drop (i + 1)) st), fun H' hN => ?_, fun x H' y => ?_⟩
    · obtain ⟨r, st, gr, sm, p⟩ := hN
      exact ⟨m - 1, by omega, r, st, by omega, gr, sm, p⟩
    · obtain ⟨sy, sm', rx⟩ := it.yld i r H st x H' items[i] gr1 sm hgd (List.getElem?_eq_getElem hi) y
      have g2 : Grow r H r H' := Grow.same sy
      cases eg : bind items[i] (wipeW env own) with
      | none => simp only [eg] at p; exact p.elim
      | some env1 =>
        simp only [eg] at p
        have p := Po.grow g2 p
        have lift : ∀ {r1 : List Addr} {H1' : Hp} {m : An Unit}, Grow r H' r1 H1' → Po G Wx s (fun _ r2 H2 => ∃ st2, Sim G r2 H2 st2 ∧ Grow r H r2 H2 ∧ Po G Wx s (fun w r' H' => ∀ v, Rep G r' H' w v → Q v H') r2 H2 (.ok (.ref st1.length) st2)) r1 H1' m →
          Po G Wx s (fun _ r2 H2 => ∃ st2, Sim G r2 H2 st2 ∧ Grow r1 H1' r2 H2 ∧ Po G Wx s (fun w r' H' => ∀ v, Rep G r' H' w v → Q v H') r2 H2 (.ok (.ref st1.length) st2)) r1 H1' m := fun g3 q => q.imp fun _ r2 H2 g4 ⟨st2, q1, q2, q3⟩ => ⟨st2, q1, g4, q3⟩
        refine hb items[i] x s env env1 r H' _ rx (EnR.wipe (((en.grow g1).grow gr1).grow g2) own) eg fun s2 en2 ew => ⟨ew, env1, r, st, en2, sm', ?_⟩
        refine Po.noex ((Po.bind p).imp fun k r3 H3 g3 ⟨st3, sm3, _, p3⟩ => ?_)
        cases k with
        | false =>
          simp only [Bool.false_eq_true, if_false] at p3
          exact iteF ⟨r3, st3, (gr.trans g2).trans g3, sm3, lift g3 p3⟩
        | true =>
          simp only [if_true] at p3
          refine iteT ⟨env1, r3, st3, en2.grow g3, sm3, Po.noex ((Po.bind p3).imp fun yv r4 H4 g4 ⟨st4, sm4, _, p4⟩ vy ry => ?_)⟩
          have grD : Grow (l1 ++ [D]) (upd H1 D (.lst [])) r4 H4 := ((gr.trans g2).trans g3).trans g4
          split at p4
          · rename_i acc eacc
            obtain ⟨hz, p4⟩ := ite_bad p4
            obtain ⟨vs, e4, k4⟩ := sm4.got eacc (grD.at hDn)
            have sy4 : Stay H4 (upd H4 D (.lst (vs ++ [vy]))) := Stay.lst e4
            have g5 : Grow r4 H4 r4 (upd H4 D (.lst (vs ++ [vy]))) := Grow.same sy4
            have smn : Sim G r4 (upd H4 D (.lst (vs ++ [vy]))) (st4.set st1.length (.lst (acc ++ [yv]))) := sm4.put (grD.at hDn) e4 (fun _ z => by cases z) sy4 ⟨_, upd_same, (k4.append (.cons ry .nil)).grow g5⟩
            refine ⟨vs, e4, ?_, r4, _, grD.trans g5, smn, lift ((g3.trans g4).trans g5) (Po.grow g5 p4)⟩
            rw [← k4.length]
            exact Nat.lt_of_lt_of_le hz (by decide)
          · exact p4.elim
  · have ed : items.drop i = [] := List.drop_eq_nil_of_le (by omega)
    rw [ed] at p
    simp only [lcS] at p
    obtain ⟨hgd, p⟩ := ite_bad p
    have ei : i = items.length := by omega
    subst ei
    obtain ⟨st2, q1, q2, q3⟩ := Po.ok p sm
    exact .inl ⟨it.stop r H st (gD.trans gr) sm hgd, Po.ok q3 q1 _ (.ref (gr.at hDn))⟩
def bN (i : Nat) : W → En → Option En := fun w env => some (env.set i (some w))
theorem wipe_set1 (s : L2.St) (i : Nat) (v : V) : wipe ((wipe s [i]).set i (some v)) [i] = wipe s [i] := by
  simp [wipe]
theorem bind_name {G : Gx} {i : Nat} : BindOk G [i] (gName i) (bN i) := fun w v s env env1 r H Q rw' en e q => by
  cases e
  exact q _ (en.set rw') (wipe_set1 s i v)
def b2 (i j : Nat) : W → En → Option En := fun w env => match w with
  | .tup [x, y] => some ((env.set i (some x)).set j (some y))
  | _ => none
theorem wipe_set2 (s : L2.St) (i j : Nat) (v u : V) : wipe (((wipe s [i, j]).set i (some v)).set j (some u)) [i, j] = wipe s [i, j] := by
  simp only [wipe]
  apply List.ext_getElem?
  intro k
  simp only [List.getElem?_set, List.length_set]
  split <;> split <;> (try split) <;> (try split) <;> simp_all
theorem bind_two {G : Gx} {i j : Nat} : BindOk G [i, j] (gTup G.K 2 (gCons (gName i) (gCons (gName j) gNil))) (b2 i j) := fun w v s env env1 r H Q rw' en e q => by
  cases rw' with
  | tup h k =>
    cases k with
    | nil => cases e
    | cons h1 k =>
      cases k with
      | nil => cases e
      | cons h2 k =>
        cases k with
        | cons _ _ => cases e
        | nil =>
          cases e
          exact ⟨_, _, rfl, h, rfl, _, _, rfl, _, _, rfl, rfl, q _ ((en.set h1).set h2) (wipe_set2 s i j _ _)⟩
  | _ => cases e
def fYes : FT := fun _ st => .ok true st
theorem ts_nil {X : Cx} {Wx : WX} : PTs X [] (tT (gx X) Wx fYes) := ⟨fun pins s σ H Q I h => by
  obtain ⟨env, l, st, en, sm, p⟩ := h
  exact pts_nil.run pins s σ H Q I (Po.ok p sm)⟩
theorem ts_one {X : Cx} {Wx : WX} {c : Expr} {t : FT} (h : PT X c (tT (gx X) Wx t)) : PTs X [c] (tT (gx X) Wx t) := pts_one h
/-- [elt for x in iter if ..] -/
theorem e_lc {elt iter : Expr} {ifs : List Expr} {scope : Scope} {i : Nat} {x : Str} {fi : FI} {t : FT} {f : FE} {p : Pos} (hN : X.N.Nodup) (hi : PI X (.Name x p) iter (tI (gx X) Wx fi)) (ok : BlkOk X.N X.env.scope scope [(x, i)])
    (hg : ∀ (s : Shared) (H : Hp) (C : Addr) (cl : List (Str × Addr)) (fp : List Addr), PG (X.blk s H scope (compEnvC scope cl C X.env) fp) (.Name x p) (gName i)) (ht : ∀ (s : Shared) (H : Hp) (C : Addr) (cl : List (Str × Addr)) (fp : List Addr), PTs (X.blk s H scope (compEnvC scope cl C X.env) fp) ifs (tT (gx X) W0 t))
    (he : ∀ (s : Shared) (H : Hp) (C : Addr) (cl : List (Str × Addr)) (fp : List Addr), PE (X.blk s H scope (compEnvC scope cl C X.env) fp) elt (tE (gx X) W0 f)) (hc : X.calm = true := by rfl) (hs : ∀ x, foldedSetIterable iter X.env x = pure x := by intro _; rfl) :
    PE X (.ListComp elt [⟨.Name x p, iter, ifs, 0⟩] scope pos) (tE (gx X) Wx (fLc [i] fi (bN i) t f)) := (pe_lc hc hN hi ok hg ht he hs).imp fun s H Q h => lc_imp bind_name h
theorem e_lc2 {elt iter : Expr} {ifs : List Expr} {scope : Scope} {i j k : Nat} {x y : Str} {fi : FI} {t : FT} {f : FE} {p q u : Pos} (hN : X.N.Nodup) (hi : PI X (.Tuple [.Name x p, .Name y q] k u) iter (tI (gx X) Wx fi)) (ok : BlkOk X.N X.env.scope scope [(x, i), (y, j)])
    (hg : ∀ (s : Shared) (H : Hp) (C : Addr) (cl : List (Str × Addr)) (fp : List Addr), PG (X.blk s H scope (compEnvC scope cl C X.env) fp) (.Tuple [.Name x p, .Name y q] k u) (gTup X.K 2 (gCons (gName i) (gCons (gName j) gNil)))) (ht : ∀ (s : Shared) (H : Hp) (C : Addr) (cl : List (Str × Addr)) (fp : List Addr), PTs (X.blk s H scope (compEnvC scope cl C X.env) fp) ifs (tT (gx X) W0 t))
    (he : ∀ (s : Shared) (H : Hp) (C : Addr) (cl : List (Str × Addr)) (fp : List Addr), PE (X.blk s H scope (compEnvC scope cl C X.env) fp) elt (tE (gx X) W0 f)) (hc : X.calm = true := by rfl) (hs : ∀ x, foldedSetIterable iter X.env x = pure x := by intro _; rfl) :
    PE X (.ListComp elt [⟨.Tuple [.Name x p, .Name y q] k u, iter, ifs, 0⟩] scope pos) (tE (gx X) Wx (fLc [i, j] fi (b2 i j) t f)) := (pe_lc hc hN hi ok hg ht he hs).imp fun s H Q h => lc_imp bind_two h
/-- y = [elt for x in iter if ..] -/
theorem s_setLc {elt iter : Expr} {ifs : List Expr} {scope : Scope} {i n : Nat} {x y : Str} {fi : FI} {t : FT} {f : FE} {p py spos : Pos} (hN : X.N.Nodup) (hi : PI X (.Name x p) iter (tI (gx X) Wx fi)) (ok : BlkOk X.N X.env.scope scope [(x, i)])
    (hg : ∀ (s : Shared) (H : Hp) (C : Addr) (cl : List (Str × Addr)) (fp : List Addr), PG (X.blk s H scope (compEnvC scope cl C X.env) fp) (.Name x p) (gName i)) (ht : ∀ (s : Shared) (H : Hp) (C : Addr) (cl : List (Str × Addr)) (fp : List Addr), PTs (X.blk s H scope (compEnvC scope cl C X.env) fp) ifs (tT (gx X) W0 t))
    (he : ∀ (s : Shared) (H : Hp) (C : Addr) (cl : List (Str × Addr)) (fp : List Addr), PE (X.blk s H scope (compEnvC scope cl C X.env) fp) elt (tE (gx X) W0 f)) (hy : X.N[n]? = some y := by rfl) (hyl : X.env.scope.names.lookup y = some .local := by rfl)
    (hsw : swapsWith (.ListComp elt [⟨.Name x p, iter, ifs, 0⟩] scope pos) (some (.Name y py)) spos.line X.env = pure true := by exact sw_true rfl rfl rfl (by decide +kernel)) (hc : X.calm = true := by rfl) (hs : ∀ x, foldedSetIterable iter X.env x = pure x := by intro _; rfl) :
    PS X (.Assign [.Name y py] (.ListComp elt [⟨.Name x p, iter, ifs, 0⟩] scope pos) spos) (tS (gx X) Wx (fSet n (fLc [i] fi (bN i) t f))) := (ps_setLc hc hN hy hyl hsw hi ok hg ht he hs).imp fun D s H h => by
  obtain ⟨env, l, st, en, sm, p⟩ := h
  exact lc_imp bind_name ⟨env, l, st, en, sm, (SPo.toS en p).imp fun w l1 H1 g1 ⟨st1, sm1, _, p1⟩ v rv => p1 l1 H1 _ (Grow.refl _ _) sm1 ((en.grow g1).set rv)⟩
theorem s_setLc2 {elt iter : Expr} {ifs : List Expr} {scope : Scope} {i j n kk : Nat} {x x2 y : Str} {fi : FI} {t : FT} {f : FE} {p q u py spos : Pos} (hN : X.N.Nodup) (hi : PI X (.Tuple [.Name x p, .Name x2 q] kk u) iter (tI (gx X) Wx fi)) (ok : BlkOk X.N X.env.scope scope [(x, i), (x2, j)])
    (hg : ∀ (s : Shared) (H : Hp) (C : Addr) (cl : List (Str × Addr)) (fp : List Addr), PG (X.blk s H scope (compEnvC scope cl C X.env) fp) (.Tuple [.Name x p, .Name x2 q] kk u) (gTup X.K 2 (gCons (gName i) (gCons (gName j) gNil)))) (ht : ∀ (s : Shared) (H : Hp) (C : Addr) (cl : List (Str × Addr)) (fp : List Addr), PTs (X.blk s H scope (compEnvC scope cl C X.env) fp) ifs (tT (gx X) W0 t))
    (he : ∀ (s : Shared) (H : Hp) (C : Addr) (cl : List (Str × Addr)) (fp : List Addr), PE (X.blk s H scope (compEnvC scope cl C X.env) fp) elt (tE (gx X) W0 f)) (hy : X.N[n]? = some y := by rfl) (hyl : X.env.scope.names.lookup y = some .local := by rfl)
    (hsw : swapsWith (.ListComp elt [⟨.Tuple [.Name x p, .Name x2 q] kk u, iter, ifs, 0⟩] scope pos) (some (.Name y py)) spos.line X.env = pure true := by exact sw_true rfl rfl rfl (by decide +kernel)) (hc : X.calm = true := by rfl) (hs : ∀ x, foldedSetIterable iter X.env x = pure x := by intro _; rfl) :
    PS X (.Assign [.Name y py] (.ListComp elt [⟨.Tuple [.Name x p, .Name x2 q] kk u, iter, ifs, 0⟩] scope pos) spos) (tS (gx X) Wx (fSet n (fLc [i, j] fi (b2 i j) t f))) := (ps_setLc hc hN hy hyl hsw hi ok hg ht he hs).imp fun D s H h => by
  obtain ⟨env, l, st, en, sm, p⟩ := h
  exact lc_imp bind_two ⟨env, l, st, en, sm, (SPo.toS en p).imp fun w l1 H1 g1 ⟨st1, sm1, _, p1⟩ v rv => p1 l1 H1 _ (Grow.refl _ _) sm1 ((en.grow g1).set rv)⟩
end
end Sw
/-! Sw9: defs, calls of defs, raise, methods. -/
namespace Sw
open PySem PySem.Spec PyProof.Rows L2
abbrev FF := List W → Sto → An W
/-- what a def promises: it does as F says -/
def spF (G : Gx) (n : Nat) (F : FF) : Sp := fun vs H Q E => vs.length = n ∧ ∃ ws r st, RepL G r H ws vs ∧ Sim G r H st ∧ Po G (fun c d _ H' => E c d H') [] (fun w r' H' => ∀ v, Rep G r' H' w v → Q v H') r H (F ws st)
theorem Po.wx {G : Gx} {Wx Wx' : WX} {s s' : L2.St} {α : Type} {P : α → List Addr → Hp → Prop} {r : List Addr} {H : Hp} {m : An α} (h : Po G Wx s P r H m) (k : ∀ c d H', Wx c d s H' → Wx' c d s' H') : Po G Wx' s' P r H m := by
  cases m with
  | ok a st => exact h
  | ex C fs st => exact fun r' H' ca d g q x => k _ _ _ (h r' H' ca d g q x)
  | bad => exact h
def start (n : Nat) (ws : List W) : En := ws.map some ++ List.replicate (n - ws.length) none
def fRun (n : Nat) (f : FS) : FF := fun ws st => match f (start n ws) st with
  | .nx _ s => .ok .non s
  | .rt w s => .ok w s
  | .ex C fs _ s => .ex C fs s
  | _ => .bad
theorem start_at {G : Gx} {r : List Addr} {H : Hp} : ∀ {ws : List W} {vs : List V} (k : RepL G r H ws vs) (n : Nat) (i : Nat) (w : W), (ws.map some ++ List.replicate n none)[i]? = some (some w) → ∃ v, (vs.map some ++ List.replicate n none)[i]? = some (some v) ∧ Rep G r H w v
  | _, _, .nil, n, i, w, e => by
    simp only [List.map_nil, List.nil_append] at e
    rw [List.getElem?_replicate] at e
    split at e <;> cases e
  | _, _, .cons h k, n, 0, w, e => by
    cases e
    exact ⟨_, rfl, h⟩
  | _, _, .cons h k, n, i + 1, w, e => start_at k n i w (by simpa using e)
theorem en_start {G : Gx} {r : List Addr} {H : Hp} {ws : List W} {vs : List V} (k : RepL G r H ws vs) (N : List Str) : EnR G r H (start N.length ws) (L2.start N vs) := by
  refine ⟨?_, fun i w e => ?_⟩
  · unfold start L2.start
    simp [k.length]
  · unfold start at e
    unfold L2.start
    rw [← k.length]
    exact start_at k _ i w e
theorem fn_read {G : Gx} {N : List Str} {f : FS} {vs : List V} {H : Hp} {Q : VK} {E : XK} {n : Nat} (h : spF G n (fRun N.length f) vs H Q E) : tS G (fun c d _ H' => E c d H') f { nx := fun _ H' => Q .non H', rt := Q } (L2.start N vs) H := by
  obtain ⟨_, ws, r, st, k, sm, p⟩ := h
  refine ⟨start N.length ws, r, st, en_start k N, sm, ?_⟩
  unfold fRun at p
  cases e : f (start N.length ws) st with
  | nx env s => rw [e] at p; exact fun r' H' s' g q _ => p r' H' g q _ .non
  | rt w s => rw [e] at p; exact fun r' H' v g q x => p r' H' g q v x
  | ex C fs env s => rw [e] at p; exact fun r' H' s' ca d g q _ x => p r' H' ca d g q x
  | _ => rw [e] at p; exact p.elim
section
variable {P : Program} {w : World} {K : PySem.W.Frag} {mg : Str → Option Value} {base : Heap}
abbrev FnW (P : Program) (w : World) (K : PySem.W.Frag) (mg : Str → Option Value) (base : Heap) (k : Nat) (f : Addr) (fd : FuncData) (ps : List Str) (F : FF) : Prop := FnOk P w K mg base (L2.CX P w) k f fd ps (spF ⟨K, mg⟩ ps.length F)
/-- the context of a def's body -/
abbrev bx (P : Program) (w : World) (K : PySem.W.Frag) (mg : Str → Option Value) (base : Heap) (N : List Str) (qual : Str) (scope : Scope) (f : Addr) (cd : Value) (A : Around) (outer : List Env) (s : Shared) (H : Hp) (E : XK) : Cx := cxOf (L2.CX P w) P w K mg base N qual scope f cd A outer s H E
theorem fn_W {x qual : Str} {st : Stmt} {f : Addr} {fd : FuncData} {N ps : List Str} {k : Nat} {b : FS} (F : Fun K x qual st f fd) (S : FnScope N ps (defScope st))
    (h : ∀ (cdv : Value) (A : Around) (outer : List Env) (s : Shared) (H : Hp) (E : XK), Room k (A.deeper (envOfC qual (defScope st) s.heap.objs.size f cdv)) → Takes (bx P w K mg base N qual (defScope st) f cdv A outer s H E) (fun c d _ H' => E c d H') →
      PassesOwn (model P w) (bx P w K mg base N qual (defScope st) f cdv A outer s H E).A (bx P w K mg base N qual (defScope st) f cdv A outer s H E).env (bx P w K mg base N qual (defScope st) f cdv A outer s H E).xe →
      PSs (bx P w K mg base N qual (defScope st) f cdv A outer s H E) (defBody st) (tS ⟨K, mg⟩ (fun c d _ H' => E c d H') b)) : FnW P w K mg base (k + 1) f fd ps (fRun N.length b) :=
  F.okX S (fun vs H Q E h => h.1) fun cdv A outer s H vs Q E hr hs => ⟨_, h cdv A outer s H E hr (takes_of rfl rfl rfl rfl) (passes_of rfl), fn_read hs⟩
theorem fn_WD {x qual : Str} {params : Arguments} {body : List Stmt} {scope : Scope} {dvs : List V} {kws : List (Str × V)} {f : Addr} {fd : FuncData} {N ps : List Str} {k : Nat} {b : FS} (F : FunD K x qual params body scope dvs kws f fd) (S : FnScope N ps scope)
    (h : ∀ (cdv : Value) (A : Around) (outer : List Env) (s : Shared) (H : Hp) (E : XK), Room k (A.deeper (envOfC qual scope s.heap.objs.size f cdv)) → Takes (bx P w K mg base N qual scope f cdv A outer s H E) (fun c d _ H' => E c d H') →
      PassesOwn (model P w) (bx P w K mg base N qual scope f cdv A outer s H E).A (bx P w K mg base N qual scope f cdv A outer s H E).env (bx P w K mg base N qual scope f cdv A outer s H E).xe →
      PSs (bx P w K mg base N qual scope f cdv A outer s H E) body (tS ⟨K, mg⟩ (fun c d _ H' => E c d H') b)) : FnW P w K mg base (k + 1) f fd ps (fRun N.length b) :=
  F.ok S (fun vs H Q E h => h.1) fun cdv A outer s H vs Q E hr hs => ⟨_, h cdv A outer s H E hr (takes_of rfl rfl rfl rfl) (passes_of rfl), fn_read hs⟩
/-- another function that says the same where it says something -/
theorem FnW.imp {k : Nat} {f : Addr} {fd : FuncData} {ps : List Str} {F F' : FF} (h : FnW P w K mg base k f fd ps F) (e : ∀ ws st, F' ws st = F ws st ∨ F' ws st = .bad) : FnW P w K mg base k f fd ps F' := FnOk.imp h fun vs H Q E ⟨hl, ws, r, st, a, b, c⟩ => by
  refine ⟨hl, ws, r, st, a, b, ?_⟩
  rcases e ws st with q | q
  · rw [← q]; exact c
  · rw [q] at c; exact c.elim
end

/-! ### what was made within a call and isn't handed out is forgotten -/
mutual
/-- no object at n or later is named -/
def closedW (n : Nat) : W → Bool
  | .tup l => closedL n l
  | .rol l => closedL n l
  | .ref m => decide (m < n)
  | _ => true
def closedL (n : Nat) : List W → Bool
  | [] => true
  | w :: l => closedW n w && closedL n l
end
def closedO (n : Nat) : Ob → Bool
  | .lst l => closedL n l
  | .dct l => l.all fun p => closedW n p.2
  | .ins _ fs => fs.all fun p => closedW n p.2
  | .exc _ fs => fs.all fun p => closedW n p.2
mutual
theorem Rep.closed {G : Gx} {r : List Addr} {H : Hp} : ∀ {w : W} {v : V}, Rep G r H w v → closedW r.length w = true
  | _, _, .tup h k => by simp only [closedW]; exact RepL.closed k
  | _, _, .rol h k => by simp only [closedW]; exact RepL.closed k
  | _, _, .ref h => by simp only [closedW]; exact decide_eq_true (List.getElem?_eq_some_iff.mp h).1
  | _, _, .non => rfl
  | _, _, .bl _ => rfl
  | _, _, .int _ => rfl
  | _, _, .str _ => rfl
  | _, _, .ty _ => rfl
  | _, _, .gl _ => rfl
theorem RepL.closed {G : Gx} {r : List Addr} {H : Hp} : ∀ {w : List W} {v : List V}, RepL G r H w v → closedL r.length w = true
  | _, _, .nil => rfl
  | _, _, .cons h k => by simp only [closedL, Rep.closed h, RepL.closed k]; rfl
end
mutual
theorem Rep.back {G : Gx} {r t : List Addr} {H : Hp} : ∀ {w : W} {v : V}, Rep G (r ++ t) H w v → closedW r.length w = true → Rep G r H w v
  | _, _, .tup h k, c => .tup h (RepL.back k (by simpa only [closedW] using c))
  | _, _, .rol h k, c => .rol h (RepL.back k (by simpa only [closedW] using c))
  | _, _, .ref h, c => .ref (by rw [List.getElem?_append_left (by simpa only [closedW, decide_eq_true_eq] using c)] at h; exact h)
  | _, _, .non, _ => .non
  | _, _, .bl _, _ => .bl _
  | _, _, .int _, _ => .int _
  | _, _, .str _, _ => .str _
  | _, _, .ty _, _ => .ty _
  | _, _, .gl h, _ => .gl h
theorem RepL.back {G : Gx} {r t : List Addr} {H : Hp} : ∀ {w : List W} {v : List V}, RepL G (r ++ t) H w v → closedL r.length w = true → RepL G r H w v
  | _, _, .nil, _ => .nil
  | _, _, .cons h k, c => by
    simp only [closedL, Bool.and_eq_true] at c
    exact .cons (Rep.back h c.1) (RepL.back k c.2)
end
theorem RepD.closed {G : Gx} {r : List Addr} {H : Hp} {l : List (Key × W)} {vs : List (Key × V)} (h : RepD G r H l vs) : (l.all fun p => closedW r.length p.2) = true := by
  induction h with
  | nil => rfl
  | cons h _ ih => rw [List.all_cons, ih, h.closed]; rfl
theorem RepF.closed {G : Gx} {r : List Addr} {H : Hp} {l : Flds} {vs : List (Str × V)} (h : RepF G r H l vs) : (l.all fun p => closedW r.length p.2) = true := by
  induction h with
  | nil => rfl
  | cons h _ ih => rw [List.all_cons, ih, h.closed]; rfl
theorem RepD.back {G : Gx} {r t : List Addr} {H : Hp} {l : List (Key × W)} {vs : List (Key × V)} (h : RepD G (r ++ t) H l vs) (c : (l.all fun p => closedW r.length p.2) = true) : RepD G r H l vs := by
  induction h with
  | nil => exact .nil
  | cons h _ ih =>
    rw [List.all_cons, Bool.and_eq_true] at c
    exact .cons (h.back c.1) (ih c.2)
theorem RepF.back {G : Gx} {r t : List Addr} {H : Hp} {l : Flds} {vs : List (Str × V)} (h : RepF G (r ++ t) H l vs) (c : (l.all fun p => closedW r.length p.2) = true) : RepF G r H l vs := by
  induction h with
  | nil => exact .nil
  | cons h _ ih =>
    rw [List.all_cons, Bool.and_eq_true] at c
    exact .cons (h.back c.1) (ih c.2)
theorem ObR.closed {G : Gx} {r : List Addr} {H : Hp} {a : Addr} {o : Ob} (h : ObR G r H a o) : closedO r.length o = true := by
  cases o with
  | lst l => obtain ⟨vs, _, k⟩ := h; exact k.closed
  | dct l => obtain ⟨vs, _, k⟩ := h; exact k.closed
  | ins C fs => obtain ⟨_, _, _, _, _, k⟩ := h; exact k.closed
  | exc C fs =>
    obtain ⟨_, _, _, _, k⟩ := h
    rcases k with ⟨rfl, _⟩ | ⟨_, _, _, _, k⟩
    · rfl
    · exact k.closed
theorem ObR.back {G : Gx} {r t : List Addr} {H : Hp} {a : Addr} {o : Ob} (h : ObR G (r ++ t) H a o) (c : closedO r.length o = true) : ObR G r H a o := by
  cases o with
  | lst l => obtain ⟨vs, e, k⟩ := h; exact ⟨vs, e, k.back c⟩
  | dct l => obtain ⟨vs, e, k⟩ := h; exact ⟨vs, e, k.back c⟩
  | ins C fs => obtain ⟨a, b, d, e, f, k⟩ := h; exact ⟨a, b, d, e, f, k.back c⟩
  | exc C fs =>
    obtain ⟨a, b, d, e, k⟩ := h
    refine ⟨a, b, d, e, ?_⟩
    rcases k with k | ⟨da, vs, e1, e2, k⟩
    · exact .inl k
    · exact .inr ⟨da, vs, e1, e2, k.back c⟩
/-- the first n objects are enough -/
def Shut (n : Nat) (st st' : Sto) : Prop := n ≤ st'.length ∧ ∀ (i : Nat) (o : Ob), i < n → st'[i]? = some o → st[i]? = some o ∨ closedO n o = true
theorem Sim.cut {G : Gx} {r r' : List Addr} {H H' : Hp} {st st' : Sto} (s : Sim G r H st) (g : Grow r H r' H') (s' : Sim G r' H' st') (h : Shut st.length st st') : Sim G r H' (st'.take st.length) := by
  obtain ⟨t, rfl⟩ := g.pre
  refine ⟨by rw [List.length_take, s.len, Nat.min_eq_left h.1], s.nd, fun n o a e1 e2 => ?_⟩
  have hn : n < st.length := by rw [← s.len]; exact (List.getElem?_eq_some_iff.mp e2).1
  rw [List.getElem?_take_of_lt hn] at e1
  have e3 : (r ++ t)[n]? = some a := g.at e2
  have q := s'.ob n o a e1 e3
  refine q.back ?_
  rcases h.2 n o hn e1 with z | z
  · have := (s.ob n o a z e2).closed
    exact this
  · rw [s.len]; exact z
open Classical in
/-- F, all forgotten that is made within and named by nothing -/
noncomputable def clean (F : FF) : FF := fun ws st => match F ws st with
  | .ok w st' => if Shut st.length st st' ∧ closedW st.length w = true then .ok w (st'.take st.length) else .ok w st'
  | o => o
theorem clean_eq {F : FF} {ws : List W} {st st' : Sto} {w : W} (h : F ws st = .ok w st') (h1 : Shut st.length st st') (h2 : closedW st.length w = true) : clean F ws st = .ok w (st'.take st.length) := by
  unfold clean
  rw [h]
  exact if_pos ⟨h1, h2⟩
theorem clean_app {F : FF} {ws : List W} {st g : Sto} {w : W} (h : F ws st = .ok w (st ++ g)) (h2 : closedW st.length w = true) : clean F ws st = .ok w st := by
  rw [clean_eq h ⟨by simp, fun i o hi e => .inl (by rw [List.getElem?_append_left hi] at e; exact e)⟩ h2, List.take_left]
theorem clean_set {F : FF} {ws : List W} {st st1 g : Sto} {w : W} (h : F ws st = .ok w (st1 ++ g)) (hl : st1.length = st.length) (h1 : ∀ (i : Nat) (o : Ob), st1[i]? = some o → st[i]? = some o ∨ closedO st.length o = true) (h2 : closedW st.length w = true) : clean F ws st = .ok w st1 := by
  rw [clean_eq h ⟨by simp [hl], fun i o hi e => h1 i o (by rw [List.getElem?_append_left (by omega)] at e; exact e)⟩ h2, ← hl, List.take_left]
theorem clean_ex {F : FF} {ws : List W} {st st' : Sto} {C : Str} {fs : Flds} (h : F ws st = .ex C fs st') : clean F ws st = .ex C fs st' := by
  unfold clean
  rw [h]
section
variable {P : Program} {w : World} {K : PySem.W.Frag} {mg : Str → Option Value} {base : Heap}
theorem FnW.clean {k : Nat} {f : Addr} {fd : FuncData} {ps : List Str} {F : FF} (h : FnW P w K mg base k f fd ps F) : FnW P w K mg base k f fd ps (clean F) := FnOk.imp h fun vs H Q E ⟨hl, ws, r, st, a, b, c⟩ => by
  refine ⟨hl, ws, r, st, a, b, ?_⟩
  unfold Sw.clean at c
  cases e : F ws st with
  | ex C fs st' => rw [e] at c; exact c
  | bad => rw [e] at c; exact c
  | ok x st' =>
    rw [e] at c
    by_cases hs : Shut st.length st st' ∧ closedW st.length x = true
    · simp only [if_pos hs] at c
      intro r' H' g s' v rv
      have s2 := b.cut g s' hs.1
      refine c r H' (Grow.same g.stay) s2 v ?_
      obtain ⟨t, rfl⟩ := g.pre
      exact rv.back (by rw [b.len]; exact hs.2)
    · simp only [if_neg hs] at c
      exact c
end
section
variable {X : Cx} {Wx : WX} {pos p : Pos} {a b c e : Expr} {fa fb fc : FE} {es : List Expr} {k : Nat} {f : Addr} {fd : FuncData} {ps : List Str} {F : FF} {x : Str}
def fFn (n : Nat) (F : FF) (f : FA) : FE := fun env st => (f env st).bind fun ws st1 => if ws.length = n then F ws st1 else .bad
theorem fn_arg {s : L2.St} {H : Hp} {Q : VK} {f : FA} {n : Nat} (h : tE (gx X) Wx (fFn n F f) s H Q) : tL (gx X) Wx f s H fun vs H1 => spF (gx X) n F vs H1 Q (WE Wx s) := by
  obtain ⟨env, l, st, en, sm, p⟩ := h
  refine ⟨env, l, st, en, sm, (Po.bind p).imp fun ws l1 H1 g1 ⟨st1, sm1, _, p1⟩ vs rx => ?_⟩
  obtain ⟨hl, p1⟩ := ite_bad p1
  exact ⟨by rw [← rx.length]; exact hl, ws, l1, st1, rx, sm1, Po.wx p1 fun _ _ _ q => q⟩
theorem e_fn {g : FA} (Fk : FnW X.prog X.w X.K X.mg X.base k f fd ps F) (hr : Room k X.A) (hm : X.mg x = some (.ref f)) (hk : PySem.W.keepIn X.K (.ref f) = true) (hb : Binds X.K fd ps []) (tk : Takes X Wx) (ha : PA X (e :: es) (tL (gx X) Wx g)) (hg : Gl X x := by rfl) (hdb : (x == ("__debug__" : Str)) = false := by decide)
    (he : starEach (e :: es) X.env = (false, eval e X.env) :: starEach es X.env := by rfl) (hpl : (backTo pos (starEach es X.env)).any (·.1) = false := by rfl) : PE X (.Call (.Name x p) (e :: es) [] pos) (tE (gx X) Wx (fFn ps.length F g)) :=
  (pe_callS (E := WE Wx) Fk hr hg hm hk hb (fun σ => passAt tk σ) ha hdb he hpl).imp fun s H Q h => fn_arg h
/-- .. where defaults fill up -/
theorem e_fnD {g : FA} {dvs : List V} {dws : List W} {ds : List Value} (Fk : FnW X.prog X.w X.K X.mg X.base k f fd ps F) (hr : Room k X.A) (hm : X.mg x = some (.ref f)) (hk : PySem.W.keepIn X.K (.ref f) = true) (hb : Binds X.K fd ps ds) (hd : Vals dvs ds) (hdw : ∀ r H, RepL (gx X) r H dws dvs) (tk : Takes X Wx) (ha : PA X (e :: es) (tL (gx X) Wx g)) (hg : Gl X x := by rfl) (hdb : (x == ("__debug__" : Str)) = false := by decide)
    (he : starEach (e :: es) X.env = (false, eval e X.env) :: starEach es X.env := by rfl) (hpl : (backTo pos (starEach es X.env)).any (·.1) = false := by rfl) : PE X (.Call (.Name x p) (e :: es) [] pos) (tE (gx X) Wx (fFn ps.length F fun env st => (g env st).bind fun ws st1 => .ok (ws ++ dws) st1)) :=
  (pe_callSD (E := WE Wx) Fk hr hg hm hk hb hd (fun σ => passAt tk σ) ha hdb he hpl).imp fun s H Q h => by
    obtain ⟨env, l, st, en, sm, p⟩ := fn_arg h
    refine ⟨env, l, st, en, sm, (Po.bind p).imp fun ws l1 H1 g1 ⟨st1, sm1, _, p1⟩ vs rx => ?_⟩
    exact Po.ok p1 sm1 _ (rx.append (hdw _ _))
/-! ### raise C("..") -/
structure XCls (K : PySem.W.Frag) (mg : Str → Option Value) (x : Str) (C : Addr) : Prop where
  gC : mg x = some (.ref C)
  ex : PySem.W.excIn K C [.type "ValueError", .type "Exception", .type "BaseException", .type "object"] "ValueError.__new__" = true
  kp : PySem.W.keepIn K (.ref C) = true
  sb : PySem.W.subIn K (.ref C) (.type "BaseException") = some true
  ty : PySem.W.typeIn K (.ref C) = some (.type "type")
def fRaise (C : Str) : FS := fun env st => .ex C [] env st
theorem s_raise {m : Str} {j : Nat} {C : Addr} {p2 p3 : Pos} (xc : XCls X.K X.mg x C) (tk : Takes X Wx) (hg : Gl X x := by rfl) (hc : X.calm = true := by rfl) (hdb : (x == ("__debug__" : Str)) = false := by decide) : PS X (.Raise (some (.Call (.Name x p) [.Constant (.str m) j p2] [] p3)) none pos) (tS (gx X) Wx (fRaise x)) :=
  (ps_raise hc tk (pmk_own PySem.F.excBase_ValueError xc.ex xc.gC xc.kp (raises_own xc.sb xc.ty) hg hdb)).imp fun D s H h => by
    obtain ⟨env, l, st, en, sm, p⟩ := h
    exact p l H s (.ref C) none (Grow.refl _ _) sm en ⟨C, rfl, xc.gC, .inl ⟨rfl, rfl⟩⟩

/-! ### methods -/
/-- x.append(e) -/
def isLst (st : Sto) : W → Bool
  | .ref n => match st[n]? with
    | some (.lst _) => true
    | _ => false
  | _ => false
theorem isLst_rep {G : Gx} {r : List Addr} {H : Hp} {st : Sto} {x : W} {v : V} (sm : Sim G r H st) (h : Rep G r H x v) (e : isLst st x = true) : tyV G.K "list" v H := by
  cases h with
  | ref h =>
    simp only [isLst] at e
    split at e
    · rename_i hl
      obtain ⟨vs, e2, _⟩ := sm.got hl h
      exact .inl ⟨rfl, _, .inl (.inl e2)⟩
    · cases e
  | _ => cases e
def fMt (q : Sto → W → Bool) (g : W → List W → Sto → An W) (fo : FE) (fa : FA) : FE := fun env st => (fo env st).bind fun o st1 => if q st1 o = true then (fa env st1).bind fun ws st2 => g o ws st2 else .bad
def MtRf (G : Gx) (r : V → List V → Hp → VK → Prop) (g : W → List W → Sto → An W) : Prop := ∀ (o : W) (ws : List W) (st : Sto) (l : List Addr) (H : Hp) (vo : V) (vs : List V) (Q : VK) (Wx : WX) (s : L2.St), Sim G l H st → Rep G l H o vo → RepL G l H ws vs →
  Po G Wx s (fun w r' H' => ∀ v, Rep G r' H' w v → Q v H') l H (g o ws st) → r vo vs H Q
theorem mt_imp {T : String} {q : Sto → W → Bool} {g : W → List W → Sto → An W} {r : V → List V → Hp → VK → Prop} {f : FA} (hq : ∀ {l : List Addr} {H : Hp} {st : Sto} {o : W} {v : V}, Sim (gx X) l H st → Rep (gx X) l H o v → q st o = true → tyV X.K T v H) (hg : MtRf (gx X) r g) {s : L2.St} {H : Hp} {Q : VK}
    (h : tE (gx X) Wx (fMt q g fa f) s H Q) : tBM X.K T r (tE (gx X) Wx fa) (tL (gx X) Wx f) s H Q := by
  obtain ⟨env, l, st, en, sm, p⟩ := h
  refine ⟨env, l, st, en, sm, (Po.bind p).imp fun o l1 H1 g1 ⟨st1, sm1, _, p1⟩ vo ro => ?_⟩
  obtain ⟨hl, p1⟩ := ite_bad p1
  refine ⟨hq sm1 ro hl, env, l1, st1, en.grow g1, sm1, (Po.bind p1).imp fun ws l2 H2 g2 ⟨st2, sm2, _, p2⟩ vs rx => ?_⟩
  exact hg o ws st2 l2 H2 vo vs Q Wx s sm2 (ro.grow g2) rx p2
def wApp : W → List W → Sto → An W
  | .ref n, [w], st => match st[n]? with
    | some (.lst l) => if l.length < 100000 then .ok .non (st.set n (.lst (l ++ [w]))) else .bad
    | _ => .bad
  | _, _, _ => .bad
theorem rf_app {G : Gx} : MtRf G rAppend wApp := by
  intro o ws st l H vo vs Q Wx s sm ro rx p
  cases ro with
  | @ref n a h =>
    cases rx with
    | nil => exact p.elim
    | cons h1 k1 =>
      cases k1 with
      | cons _ _ => exact p.elim
      | nil =>
        simp only [wApp] at p
        split at p
        · rename_i l' hl
          obtain ⟨hz, p⟩ := ite_bad p
          obtain ⟨us, e2, kk⟩ := sm.got hl h
          have sy : ∀ v, Stay H (upd H a (.lst (us ++ [v]))) := fun v => Stay.lst e2
          refine ⟨a, us, _, rfl, rfl, e2, ?_, p l _ (Grow.same (sy _)) (sm.put h e2 (fun _ z => by cases z) (sy _) ⟨_, upd_same, (kk.append (.cons h1 .nil)).grow (Grow.same (sy _))⟩) _ .non⟩
          rw [← kk.length]
          exact Nat.lt_of_lt_of_le hz (by decide)
        · exact p.elim
  | _ => exact p.elim
theorem e_app {o : Expr} {apos : Pos} {g : FA} {pl : Sem Bool} (ho : PE X o (tE (gx X) Wx fa)) (ha : PA X (e :: es) (tL (gx X) Wx g)) (h : PE X (.Call (.Attribute o "append" apos) (e :: es) [] pos) (tBM X.K "list" rAppend (tE (gx X) Wx fa) (tL (gx X) Wx g))) : PE X (.Call (.Attribute o "append" apos) (e :: es) [] pos) (tE (gx X) Wx (fMt isLst wApp fa g)) :=
  h.imp fun s H Q h => mt_imp isLst_rep rf_app h
end
end Sw
/-! SwI: isinstance. -/
namespace PySem.W
open PySem PySem.Spec PySem.Calls PyProof.Rows
section
variable {prog : Program} {w : World} {A : Around} {E : Value → Shared → Prop} {s : Shared} {K : Frag} {x D : Addr} {ox : Obj} {od : Option Obj}
theorem sw_findObj {C : Addr} {name : Str} {a g : Value} (hc : (clsIn K C).isSome = true) (ha : findIn K (.ref C) name = some (some a)) (hg : specialIn K a "__get__" = some (some g)) (ht : takesIn K a = some true) : findObj K C od name = some (.bind g a) := by
  obtain ⟨cd, hc⟩ := Option.isSome_iff_exists.mp hc
  unfold findObj
  rw [hc, Option.bind_some, ha, Option.bind_some]
  simp [hg, ht]
/-- __class__ of an exception of an own class, with or without fields -/
theorem sw_kin {Q : Option Value → Shared → Prop} (C : L2.ExcC K D) (X : K.In s.heap) (I : InstAt s.heap x ox D od) (h : Q (some (.ref D)) { s with toks := s.toks + 1 }) : wpAny (model prog w) A (getAttr? (.ref x) "__class__") Q E s := by
  obtain ⟨hga, hgt, hsub, hdct, ha, hn, htk, hm⟩ := C
  have hf : findObj K D od "__class__" = some (.bind (.builtin "getset_descriptor.__get__") (.builtin "object.__class__")) := sw_findObj (by obtain ⟨cd, hc, _⟩ := any_some hdct; rw [hc]; rfl) ha hn htk
  obtain ⟨hp, g, d, t, os⟩ := s
  have L0 := I.type (M := model prog w)
  have L1 := looks_findIn (M := model prog w) X hga
  have L2 := looks_findIn (M := model prog w) X hgt
  have L3 := looks_find (M := model prog w) X I hf
  have sub : Looks (model prog w) hp (isInstance (.ref x) (.type "BaseException")) true := L0.andThen (looks_subIn X hsub)
  have hx0 : (false && onTheHeap (Value.builtin "BaseException.__getattribute__")) = false := rfl
  have hx2 : (Value.builtin "BaseException.__getattribute__" == Value.builtin "object.__getattribute__") = false := by decide +kernel
  have hx1 : (onTheHeap (Value.ref D) && Value.builtin "BaseException.__getattribute__" == Value.builtin "object.__getattribute__") = false := by rw [hx2]; rfl
  unfold getAttr? getAttrBy? getAttrBy
  refine wpAny_bind (wpAny_mkText (wpAny_bind (wpAny_attempt (wpAny_holding (wpAny_bind (L0.at (wpAny_bind (L1.at ?_))))))))
  show wpAny _ _ (if (onTheHeap (Value.ref D) && Value.builtin "BaseException.__getattribute__" == Value.builtin "object.__getattribute__") = true then _ else _) _ _ _
  rw [hx1, if_neg Bool.false_ne_true]
  unfold getAttrByItsOwn hookBefore
  refine wpAny_bind ?_
  rw [if_pos (show onTheHeap (Value.ref D) = true from rfl)]
  refine L2.at ?_
  refine wpAny_bind (wpAny_attempt (wpAny_holding ?_))
  unfold callGetattribute
  rw [hx0, if_neg Bool.false_ne_true]
  unfold boundAndCalled
  rw [PySem.F.excAttr_ValueError.ga.bind (.ref x)]
  refine wpAny_bind (wpAny_pure ?_)
  show wpAny _ _ (call (.builtin "BaseException.__getattribute__") [.ref x, .str "__class__" t]) _ _ _
  refine wpAny_call (codeAny_call_builtin PySem.F.excAttr_ValueError.ga.plain PySem.F.entry_bexc_ga ?_)
  refine @check_slot (model prog w) _ _ ⟨hp, g, d, t + 1, os⟩ "BaseException.__getattribute__" "BaseException" "__getattribute__" (.ref x) [.str "__class__" t] [] _ (by decide +kernel) (by decide +kernel) sub (PySem.F.args_bexc_ga (.ref x) (.str "__class__" t)) ?_
  unfold Builtin.«object.__getattribute__»
  refine wpAny_bind (wpAny_of_eq (a := ((Value.ref x : Value), [Value.str "__class__" t])) (by first | rfl | (simp only [slotArgs]; rfl)) ?_)
  refine wpAny_bind (wpAny_pure (wpAny_bind (L0.at (wpAny_bind (L3.at ?_)))))
  show wpAny _ _ (holding [Value.builtin "object.__class__"] (call (.builtin "getset_descriptor.__get__") [.builtin "object.__class__", .ref x, .ref D]) >>= ret) _ _ _
  refine wpAny_bind (wpAny_holding (wpAny_call (class_get (s := ⟨hp, g, d, t + 1, os⟩) (ox := ox) (od := od) X I hm ?_)))
  refine wpAny_pure ?_
  show wpAny _ _ (handedOut (.ref D)) _ _ _
  rw [handedOut_of (v := .ref D) rfl]
  first
    | exact wpAny_pure (wpAny_pure h)
    | exact wpAny_pure h
    | exact wpAny_pure (wpAny_bind (wpAny_pure (wpAny_pure h)))
theorem sw_kitx (C : L2.ExcC K D) : KitX K (.ref x) (.ref D) (fun h => ∃ ox od, InstAt h x ox D od) where
  ty := fun _ _ _ ⟨_, _, I⟩ => I.type
  it := fun _ _ X _ => by
    obtain ⟨cdD, hcD, _⟩ := any_some C.hd
    unfold clsIn at hcD
    split at hcD
    · rename_i c' d' cd' sl' ho
      intro A' Q' E' s' k q
      unfold isType loadHead
      exact wpAny_bind (wpAny_loadPart (k _ _ (X _ _ ho)) (wpAny_pure q))
    · cases hcD
  ne := fun h tp dd its n sl X htp => by
    obtain ⟨cdD, hcD, _⟩ := any_some C.hd
    refine Bool.eq_false_iff.mpr fun q => ?_
    have e : D = tp := Value.ref.inj (beq_iff_eq.mp q)
    subst e
    unfold clsIn at hcD
    split at hcD
    · rename_i c' d' cd' sl' ho
      have z := (X _ _ ho).symm.trans htp
      cases z
    · cases hcD
  ca := fun X ⟨_, _, I⟩ k => sw_kin C X I k
end
end PySem.W
namespace Sw
open PySem PySem.Spec PyProof.Rows L2
/-- a value's type -/
inductive TyW (K : PySem.W.Frag) (H : Hp) : V → Value → Prop where
  | base {x : V} {t : Value} (h : TyX K H x t) : TyW K H x t
  | exc {a C : Addr} {d : Option Addr} (e : H a = some (.ext (excAt (.ref C) d a))) (k : d = none ∨ ∃ da vs, d = some da ∧ H da = some (.xd vs)) (c : ExcC K C) : TyW K H (.ref a) (.ref C)
section
variable {X : Cx} {pins : List (Addr × Obj)} {σ : L2.St} {H : Hp} {s : Shared}
theorem kitW_of {x : V} {u t : Value} (I : Inv X pins σ H s) (rx : RelV x u) (ty : TyW X.K H x t) : ∃ P : Heap → Prop, PySem.W.KitX X.K u t P ∧ P s.heap ∧ u ≠ .builtin "__main__.__loader__#opaque" := by
  cases ty with
  | base h => exact kit_of I rx h
  | @exc a C d e k c =>
    cases (show u = Value.ref a from rx)
    refine ⟨_, PySem.W.sw_kitx c, ?_, fun z => nomatch z⟩
    obtain ⟨o, vs, h1, h2, h3, h4⟩ := (I.hok a _ e).1
    rcases k with rfl | ⟨da, fs, rfl, e2⟩
    · exact ⟨o, none, h1, h2, by unfold PySem.W.notCls; rw [h4] <;> rfl, by rw [h3] <;> trivial⟩
    · obtain ⟨mA, hns, hr⟩ := (show ObjOk X.prog X.w H s.heap da (.xd fs) from I.hok da _ e2)
      obtain ⟨od, es, ep, ho, _⟩ := hns
      exact ⟨o, some od, h1, h2, by unfold PySem.W.notCls; rw [h4] <;> rfl, by rw [h3]; exact ho⟩
end
def rIsiW (K : PySem.W.Frag) : List V → Hp → VK → Prop := fun xs H Q =>
  (∃ (x c : V) (t u : Value) (b : Bool), xs = [x, c] ∧ ClsV c u ∧ TyW K H x t ∧ PySem.W.kitOne K t u = some b ∧ Q (.bl b) H) ∨
  ∃ (x : V) (tp : Addr) (cs : List V) (t : Value) (us : List Value) (b : Bool), xs = [x, .ref tp] ∧ SqT K H tp cs ∧ Paired ClsV cs us ∧ TyW K H x t ∧ PySem.W.kitAny K t us = some b ∧ Q (.bl b) H
theorem cr_isiW {X : Cx} : CallR X (.builtin "isinstance") (rIsiW X.K) := by
  intro pins s σ H xs us Q I r h
  rcases h with ⟨x, c, t, u, b, rfl, k, ty, e, q⟩ | ⟨x, tp, cs, t, ws, b, rfl, hT, k, ty, e, q⟩
  · obtain ⟨u1, u2, rfl, r1, r2⟩ := vals2 r
    have e2 := k.eq r2
    subst e2
    obtain ⟨P, Z, p, hx⟩ := kitW_of I r1 ty
    exact PySem.W.kia_one Z I.kIn p e hx fun tk => ⟨.bl b, H, I.tok tk, rfl, q⟩
  · obtain ⟨u1, u2, rfl, r1, r2⟩ := vals2 r
    cases (show u2 = Value.ref tp from r2)
    obtain ⟨P, Z, p, hx⟩ := kitW_of I r1 ty
    obtain ⟨its, rv, ⟨o, h1, h2, n, h3⟩, _⟩ := I.tuple hT
    have e3 := ClsV.all k rv
    subst e3
    obtain ⟨oc, od, dt, sl⟩ := o
    simp only at h2 h3
    subst h2 h3
    exact PySem.W.kia_tup Z I.kIn p h1 e hx fun tk => ⟨.bl b, H, I.tok tk, rfl, q⟩

/-! ### the plain side -/
/-- a type: a built-in one, an own class -/
inductive Tg where
  | b (n : String) | c (C : Str)
def tgOf (xc : Str → Bool) (st : Sto) : W → Option Tg
  | .non => some (.b "NoneType")
  | .bl _ => some (.b "bool")
  | .int _ => some (.b "int")
  | .str _ => some (.b "str")
  | .tup _ => some (.b "tuple")
  | .rol _ => some (.b "list")
  | .ref n => match st[n]? with
    | some (.lst _) => some (.b "list")
    | some (.dct _) => some (.b "dict")
    | some (.exc C _) => if xc C = true then some (.c C) else none
    | _ => none
  | _ => none
def tgT : W → Option Tg
  | .ty n => some (.b n)
  | .gl x => some (.c x)
  | _ => none
inductive TgV (G : Gx) : Tg → Value → Prop where
  | b (n : String) : TgV G (.b n) (.type n)
  | c {C : Str} {a : Addr} (h : G.mg C = some (.ref a)) : TgV G (.c C) (.ref a)
structure Isi (G : Gx) (tab : Tg → Tg → Option Bool) (xc : Str → Bool) : Prop where
  one : ∀ t c b, tab t c = some b → ∀ tv cv, TgV G t tv → TgV G c cv → PySem.W.kitOne G.K tv cv = some b
  exc : ∀ C, xc C = true → ∀ Ca, G.mg C = some (.ref Ca) → ExcC G.K Ca
def anyTab (tab : Tg → Tg → Option Bool) (t : Tg) : List W → Option Bool
  | [] => some false
  | c :: r => match tgT c with
    | none => none
    | some cc => match tab t cc with
      | some true => some true
      | some false => anyTab tab t r
      | none => none
def wIsi (tab : Tg → Tg → Option Bool) (xc : Str → Bool) : List W → Sto → An W
  | [x, .tup l], st => if l.all (fun c => (tgT c).isSome) = true then (match tgOf xc st x with
    | some t => (match anyTab tab t l with
      | some b => .ok (.bl b) st
      | none => .bad)
    | none => .bad) else .bad
  | [x, c], st => match tgOf xc st x, tgT c with
    | some t, some cc => (match tab t cc with
      | some b => .ok (.bl b) st
      | none => .bad)
    | _, _ => .bad
  | _, _ => .bad
theorem tgT_rep {G : Gx} {r : List Addr} {H : Hp} {c : W} {v : V} {t : Tg} (h : Rep G r H c v) (e : tgT c = some t) : ∃ u, ClsV v u ∧ TgV G t u := by
  cases h with
  | ty n => cases e; exact ⟨_, .ty n, .b n⟩
  | gl q => cases e; exact ⟨_, .own _, .c q⟩
  | _ => cases e
theorem tgOf_rep {G : Gx} {tab : Tg → Tg → Option Bool} {xc : Str → Bool} (T : Isi G tab xc) {r : List Addr} {H : Hp} {st : Sto} {x : W} {v : V} {t : Tg} (sm : Sim G r H st) (h : Rep G r H x v) (e : tgOf xc st x = some t) : ∃ u, TyW G.K H v u ∧ TgV G t u := by
  cases h with
  | non => cases e; exact ⟨_, .base (.base .non), .b _⟩
  | bl b => cases e; exact ⟨_, .base (.base (.bl b)), .b _⟩
  | int b => cases e; exact ⟨_, .base (.base (.int b)), .b _⟩
  | str b => cases e; exact ⟨_, .base (.base (.str b)), .b _⟩
  | ty b => cases e
  | gl b => cases e
  | tup q k =>
    cases e
    rcases q with (q | ⟨o, q⟩) | ⟨o, its, n, q, c, _⟩
    · exact ⟨_, .base (.base (.tup q)), .b _⟩
    · exact ⟨_, .base (.fTuple q), .b _⟩
    · exact ⟨_, .base (.kTuple q c), .b _⟩
  | rol q k =>
    cases e
    rcases q with ⟨o, q⟩ | ⟨o, its, n, q, c, _⟩
    · exact ⟨_, .base (.base (.frz q)), .b _⟩
    · exact ⟨_, .base (.kList q c), .b _⟩
  | ref q =>
    simp only [tgOf] at e
    split at e
    · rename_i l hl
      cases e
      obtain ⟨vs, e2, _⟩ := sm.got hl q
      exact ⟨_, .base (.base (.lst e2)), .b _⟩
    · rename_i l hl
      cases e
      obtain ⟨vs, e2, _⟩ := sm.got hl q
      exact ⟨_, .base (.base (.dK e2)), .b _⟩
    · rename_i C fs hl
      split at e
      · rename_i hx
        cases e
        obtain ⟨Ca, d, m, e2, k⟩ := sm.got hl q
        refine ⟨_, .exc e2 ?_ (T.exc C hx Ca m), .c m⟩
        rcases k with ⟨_, k⟩ | ⟨da, vs, k1, k2, _⟩
        · exact .inl k
        · exact .inr ⟨da, vs, k1, k2⟩
      · cases e
    · cases e
theorem anyTab_ok {G : Gx} {tab : Tg → Tg → Option Bool} {xc : Str → Bool} (T : Isi G tab xc) {t : Tg} {tv : Value} (ht : TgV G t tv) {us : List Value} : ∀ {l : List W} {b : Bool}, anyTab tab t l = some b → Paired (fun c u => ∀ cc, tgT c = some cc → TgV G cc u) l us → PySem.W.kitAny G.K tv us = some b
  | [], b, e, .nil => by cases e; rfl
  | c :: r, b, e, .cons h k => by
    simp only [anyTab] at e
    split at e
    · cases e
    · rename_i cc hc
      split at e
      · rename_i hb
        cases e
        exact kitAny_cons (T.one _ _ _ hb _ _ ht (h _ hc)) (fun z => nomatch z) (fun _ => rfl)
      · rename_i hb
        exact kitAny_cons (T.one _ _ _ hb _ _ ht (h _ hc)) (fun _ => anyTab_ok T ht e k) (fun z => nomatch z)
      · cases e
theorem tgTs_rep {G : Gx} {r : List Addr} {H : Hp} : ∀ {l : List W} {vs : List V}, RepL G r H l vs → l.all (fun c => (tgT c).isSome) = true → ∃ us, Paired ClsV vs us ∧ Paired (fun c u => ∀ cc, tgT c = some cc → TgV G cc u) l us
  | _, _, .nil, _ => ⟨[], .nil, .nil⟩
  | _, _, .cons h k, e => by
    rw [List.all_cons, Bool.and_eq_true] at e
    obtain ⟨t, ht⟩ := Option.isSome_iff_exists.mp e.1
    obtain ⟨u, a, b⟩ := tgT_rep h ht
    obtain ⟨us, c, d⟩ := tgTs_rep k e.2
    exact ⟨u :: us, .cons a c, .cons (fun cc hc => by rw [ht] at hc; cases hc; exact b) d⟩
theorem rf_isi {G : Gx} {tab : Tg → Tg → Option Bool} {xc : Str → Bool} (T : Isi G tab xc) : CaRf G (rIsiW G.K) (wIsi tab xc) := by
  intro ws st l H vs Q Wx s sm rx p
  cases rx with
  | nil => exact p.elim
  | @cons w1 v1 _ _ h k =>
    cases k with
    | nil => exact absurd p (by unfold wIsi; exact id)
    | @cons w2 v2 _ _ h2 k2 =>
      cases k2 with
      | @cons w3 v3 ws3 _ _ _ =>
        have e0 : wIsi tab xc (w1 :: w2 :: w3 :: ws3) st = .bad := by unfold wIsi; cases w2 <;> rfl
        rw [e0] at p
        exact p.elim
      | nil =>
        by_cases ht : ∃ l, w2 = .tup l
        · obtain ⟨cs, rfl⟩ := ht
          simp only [wIsi] at p
          split at p
          · rename_i hall
            split at p
            · rename_i t e1
              split at p
              · rename_i b e2
                cases h2 with
                | tup q kk =>
                  obtain ⟨us, a, b'⟩ := tgTs_rep kk hall
                  obtain ⟨tv, ty, tg⟩ := tgOf_rep T sm h e1
                  exact .inr ⟨_, _, _, tv, us, b, rfl, q, a, ty, anyTab_ok T tg e2 b', Po.ok p sm _ (.bl b)⟩
              · exact p.elim
            · exact p.elim
          · exact p.elim
        · have e0 : wIsi tab xc [w1, w2] st = (match tgOf xc st w1, tgT w2 with
            | some t, some cc => (match tab t cc with
              | some b => .ok (.bl b) st
              | none => .bad)
            | _, _ => .bad) := by
            unfold wIsi
            cases w2 with
            | tup l => exact absurd ⟨l, rfl⟩ ht
            | _ => rfl
          rw [e0] at p
          split at p
          · rename_i t cc e1 e2
            split at p
            · rename_i b e3
              obtain ⟨tv, ty, tg⟩ := tgOf_rep T sm h e1
              obtain ⟨u, a, b'⟩ := tgT_rep h2 e2
              exact .inl ⟨_, _, tv, u, b, rfl, a, ty, T.one _ _ _ e3 _ _ tg b', Po.ok p sm _ (.bl b)⟩
            · exact p.elim
          · exact p.elim
end Sw
/-! SwX: exceptions as values; classes with fields; try. -/
namespace Sw
open PySem PySem.Spec PyProof.Rows L2
/-- what is new beside all else -/
theorem Sim.more {G : Gx} {r : List Addr} {H H' : Hp} {st : Sto} (s : Sim G r H st) (k : ∀ c u, H c = some u → H' c = some u) : Sim G r H' st := by
  have g : Grow r H r H' := Grow.same fun a => ⟨fun xs e => k _ _ e, fun o u e => k _ _ e⟩
  exact ⟨s.len, s.nd, fun n ob a e1 e2 => (s.ob n ob a e1 e2).keep g fun c u _ e => k c u e⟩
theorem Grow.more {r : List Addr} {H H' : Hp} (k : ∀ c u, H c = some u → H' c = some u) : Grow r H r H' := Grow.same fun a => ⟨fun xs e => k _ _ e, fun o u e => k _ _ e⟩
theorem Stay.more {H H' : Hp} (k : ∀ c u, H c = some u → H' c = some u) : Stay H H' := fun a => ⟨fun xs e => k _ _ e, fun o u e => k _ _ e⟩
theorem excAt_ok {P : Program} {w : World} {H : Hp} {h : Heap} {a : Addr} {cls : Value} {d : Option Addr} {oe : Obj} {vs : Array Value} (e : h.get? a = some oe) (z : Zc cls d oe) (q : oe.data = .fields vs) : ObjOk P w H h a (.ext (excAt cls d a)) :=
  ⟨⟨oe, vs, e, z.1, z.2, q⟩, ⟨oe, e⟩, fun _ _ ⟨o, v, p, r⟩ k => ⟨o, v, k o p, r⟩⟩
section
variable {X : Cx} {Wx : WX} {pos p : Pos} {x : Str} {e : Expr} {es : List Expr} {fa : FE} {C : Addr}
/-! ### C(e) -/
theorem pe_excA {bmB : List Value} {B newId initId : String} {ta : TE} (F : ExcBaseFacts B newId initId bmB) (q : PySem.W.excIn X.K C bmB newId = true) (gC : X.mg x = some (.ref C)) (kC : PySem.W.keepIn X.K (.ref C) = true) (hg : Gl X x)
    (he : PE X e ta) (hs : starEach [e] X.env = (false, eval e X.env) :: starEach [] X.env := by rfl) (hdb : (x == ("__debug__" : Str)) = false := by decide) :
    PE X (.Call (.Name x p) [e] [] pos) (fun σ H Q => ta σ H fun _ H1 => ∀ a, H1 a = none → Q (.ref a) (upd H1 a (.ext (excAt (.ref C) none a)))) := by
  refine ⟨fun pins s σ H Q I h => ?_⟩
  refine wpAny_Call_Name_kw (ld_glob I hg gC ?_ hdb)
  refine PySem.W.callWith_K (h₀ := X.base) I.ok.mod.kin kC ?_ hs (by rfl)
  rw [hs]
  show wpAny _ _ (spliced ((false, eval e X.env) :: backTo pos (starEach [] X.env))) _ _ s
  refine Calls.spliced_cons (thn (he.run pins s σ H _ I h) fun u s1 ⟨v, H1, I1, r1, q1⟩ => ?_)
  refine Calls.spliced_nil ⟨I1.kIn, ?_⟩
  show wpAny _ _ (call (.ref C) [u]) _ _ _
  obtain ⟨bm, N, nm, qn, bs, hdct, sn, sub, ab, col, dd, k0, k1, k2, k3, k5, mN, hC, hN, hni, T⟩ := exc_obj I1.kIn q
  refine wpAny_call_exc_subT F T hC hN hni (fun h' a hm => ?_) (by show 1 ≤ sizeLine; rw [sizeLine_eq]; omega)
  have hn : H1 a = none := I1.hok.gone hm.new
  obtain ⟨t, ht, _, _⟩ := hm.there
  exact ⟨.ref a, upd H1 a (.ext (excAt (.ref C) none a)), I1.laidN hm.keeps hm.new hn (excAt_ok ht ⟨rfl, rfl⟩ rfl), rfl, q1 a hn⟩
def fMk (C : Str) (f : FE) : FE := fun env st => (f env st).bind fun _ st1 => .ok (.ref st1.length) (st1 ++ [.exc C []])
theorem e_mk (xc : XCls X.K X.mg x C) (he : PE X e (tE (gx X) Wx fa)) (hg : Gl X x := by rfl) (hs : starEach [e] X.env = (false, eval e X.env) :: starEach [] X.env := by rfl) (hdb : (x == ("__debug__" : Str)) = false := by decide) : PE X (.Call (.Name x p) [e] [] pos) (tE (gx X) Wx (fMk x fa)) :=
  (pe_excA PySem.F.excBase_ValueError xc.ex xc.gC xc.kp hg he hs hdb).imp fun s H Q h => by
    obtain ⟨env, l, st, en, sm, p⟩ := h
    refine ⟨env, l, st, en, sm, (Po.bind p).imp fun w l1 H1 g1 ⟨st1, sm1, _, p1⟩ vx rx a ha => ?_⟩
    have sy : Stay H1 (upd H1 a (.ext (excAt (.ref C) none a))) := Stay.new ha
    refine p1 (l1 ++ [a]) _ (Grow.one sy) (sm1.newU ha ⟨C, none, xc.gC, upd_same, .inl ⟨rfl, rfl⟩⟩) _ (.ref ?_)
    rw [List.getElem?_append_right (by rw [sm1.len]; exact Nat.le_refl _), sm1.len]
    simp

/-! ### a class whose __init__ calls the base's and keeps one field -/
/-- what its __init__ promises -/
def spXi (f : Str) (C : Addr) : Sp := fun vs H Q E => ∃ a v, vs = [.ref a, v] ∧ H a = some (exo a C none) ∧ ∀ dx, H dx = none → dx ≠ a → Q .non (upd (upd H dx (exd dx [(f, v)])) a (exo a C (some dx)))
/-- B.__init__(e, ..), B an own class over ValueError -/
theorem pe_winit {B : Addr} {y : Str} {ta : TA} {p1 p2 : Pos} {pl : Sem Bool} (hg : Gl X y) (hm : X.mg y = some (.ref B)) (r : ClX.CRead X.K B (.type "type")) (k : PySem.W.findCls X.K (.ref B) (.type "type") "__init__" = some (.val (.builtin "ValueError.__init__"))) (ha : PA X (e :: es) ta)
    (hdb : (y == ("__debug__" : Str)) = false := by decide)
    (hc : eval (.Call (.Attribute (.Name y p1) "__init__" p2) (e :: es) [] pos) X.env = (do
      let ov ← eval (.Name y p1) X.env
      standAt p2.atName
      let (f, first) ← holding [ov] (getMethod ov "__init__" pl)
      callWith pos f first (backTo pos (starEach (e :: es) X.env)) (backToKw pos (keywordEach [] X.env))) := by rfl)
    (he : starEach (e :: es) X.env = (false, eval e X.env) :: starEach es X.env := by rfl) (hpl : (backTo pos (starEach es X.env)).any (·.1) = false := by rfl) :
    PE X (.Call (.Attribute (.Name y p1) "__init__" p2) (e :: es) [] pos) (tVeI X.K ta) := by
  refine ⟨fun pins s σ H Q I h => ?_⟩
  refine PySem.W.methodCall_KW (ld_glob I hg hm ?_ hdb) hc
  refine PySem.W.method_cls I.kIn r.ga (PySem.W.cls_value I.kIn r.rd k rfl ?_)
  show wpAny _ _ (callWith pos (Value.builtin "ValueError.__init__") [] (backTo pos (starEach (e :: es) X.env)) []) _ _ _
  refine PyProof.Rows.callWith_method1 (thn (ha.run pos pins _ σ H _ (I.tok _) h) fun us s1 ⟨vs, H1, I1, r1, a, C, ws, ev, hl, T, ea, q⟩ => ?_) he hpl
  subst ev
  cases r1 with
  | @cons _ u0 _ ur ra rw' =>
    obtain rfl : u0 = Value.ref a := ra
    have hlen : ur.length ≤ sizeLine := by
      rw [← Paired.length rw', sizeLine_eq]
      omega
    exact oinit_ok T I1 ea hlen fun s' J => ⟨.non, H1, J, rfl, q⟩
/-- what the written part says of such a class -/
structure XdCls (K : PySem.W.Frag) (mg : Str → Option Value) (base : Heap) (P : Program) (w : World) (x f : Str) (C fI : Addr) (fd : FuncData) (ps : List Str) (k : Nat) : Prop where
  gC : mg x = some (.ref C)
  ox : OexC K C
  iC : PySem.W.findIn K (.ref C) "__init__" = some (some (.ref fI))
  tI : PySem.W.typeIn K (.ref fI) = some (.type "function")
  fn : FnOk P w K mg base (L2.CX P w) k fI fd ps (spXi f C)
  bI : Binds K fd ps []
/-- C(e, ..) as a value -/
theorem pe_oexV {fI : Addr} {k : Nat} {fd : FuncData} {ps : List Str} {sp : Sp} {ta : TA} (T : OexC X.K C) (iC : PySem.W.findIn X.K (.ref C) "__init__" = some (some (.ref fI))) (tI : PySem.W.typeIn X.K (.ref fI) = some (.type "function"))
    (F1 : FnOk X.prog X.w X.K X.mg X.base (L2.CX X.prog X.w) k fI fd ps sp) (hr : Room (k + 1) X.A) (hb : Binds X.K fd ps []) (hx : Passes (L2.CX X.prog X.w) X (fun _ _ _ => False)) (hg : Gl X x) (hm : X.mg x = some (.ref C)) (ha : PA X (e :: es) ta)
    (hdb : (x == ("__debug__" : Str)) = false := by decide) (he : starEach (e :: es) X.env = (false, eval e X.env) :: starEach es X.env := by rfl) (hpl : (backTo pos (starEach es X.env)).any (·.1) = false := by rfl) :
    PE X (.Call (.Name x p) (e :: es) [] pos) (fun σ H Q => ta σ H fun vs H1 => vs.length ≤ 1000 ∧ ∀ a, H1 a = none → sp (.ref a :: vs) (upd H1 a (exo a C none))
  (fun v H2 => v = .non ∧ ∃ (d : Addr) (fs : List (Str × V)), H2 a = some (exo a C (some d)) ∧ H2 d = some (exd d fs) ∧ H1 d = none ∧ Q (.ref a) (upd (upd (del H2 a) d (.xd fs)) a (.ext (excAt (.ref C) (some d) a)))) (fun _ _ _ => False)) := by
  refine ⟨fun pins s σ H Q I h => ?_⟩
  obtain ⟨nm, q, N, bs, bm, sn, sub, ab, col, dd, k0, k1, k2, k3, k5, hC, hbm⟩ := T.cls
  refine wpAny_Call_Name_kw (ld_glob I hg hm ?_ hdb)
  refine PySem.W.callWith_K (h₀ := X.base) I.ok.mod.kin T.kC (thn (ha.run pos pins s σ H _ I h) fun us s1 ⟨vs, H1, I1, r1, hz, q1⟩ => ⟨I1.kIn, ?_⟩) he hpl
  show wpAny _ _ (call (.ref C) us) _ _ _
  obtain ⟨hp, g, dr, tk, os⟩ := s1
  have hsz : hp.objs.size ≤ hp.objs.size + 1 := Nat.le_succ _
  have hn : H1 (hp.objs.size + 1) = none := I1.hok.fresh hsz
  have hq := q1 (hp.objs.size + 1) hn
  have kk : ∀ b o, hp.get? b = some o → ((hp.push (PySem.W.kdv_tup us)).push (PySem.HandSPX.excO C hp.objs.size)).get? b = some o := fun b o e => Heap.get?_push_of_some _ (Heap.get?_push_of_some _ e)
  have hget : ((hp.push (PySem.W.kdv_tup us)).push (PySem.HandSPX.excO C hp.objs.size)).get? (hp.objs.size + 1) = some (PySem.HandSPX.excO C hp.objs.size) := by heap_get
  have I2 : Inv X pins σ (upd H1 (hp.objs.size + 1) (exo (hp.objs.size + 1) C none)) ⟨(hp.push (PySem.W.kdv_tup us)).push (PySem.HandSPX.excO C hp.objs.size), g, dr, tk, os⟩ :=
    I1.laid (t' := tk) (a := hp.objs.size + 1) (o := exo (hp.objs.size + 1) C none) (h' := (hp.push (PySem.W.kdv_tup us)).push (PySem.HandSPX.excO C hp.objs.size)) kk hsz (exo_ok hget)
  have r2 : Vals (V.ref (hp.objs.size + 1) :: vs) (Value.ref (hp.objs.size + 1) :: us) := .cons rfl r1
  have hl : (Value.ref (hp.objs.size + 1) :: us ++ ([] : List Value)).length = ps.length := by
    have e := r2.length
    rw [F1.len _ _ _ _ hq] at e
    rw [List.append_nil]
    exact e.symm
  have hus : us.length ≤ sizeLine := by
    rw [← Paired.length r1, sizeLine_eq]
    omega
  refine wpAny_call (PySem.HandSPX.call_own F.excBase_ValueError (fun Y => PySem.HandSPX.refsVE_contains Y bm hbm) (I1.kIn _ _ hC) (PySem.W.looks_findIn I1.kIn iC) (fun self => PySem.W.bind_fn I1.kIn self tI) hus
    (codeAny_mono (F1.run _ X.stack _ _ ⟨Value.ref (hp.objs.size + 1) :: us, []⟩ (Value.ref (hp.objs.size + 1) :: us) _ _ (fun _ _ _ => False) (hr.make C us []) (I2.env0.make C us []) (by simpa using hb _ (Value.ref (hp.objs.size + 1) :: us) I2.kIn hl) r2 hq) fun r s' hq' => ?_))
  cases r with
  | error er => exact hx pins σ _ _ er s' I2 hq'
  | ok fl =>
    cases fl with
    | ret u =>
      obtain ⟨v, H2, os2, bare2, un2, hok2, rv, ev, d, fs, ea, ed, hd1, q2⟩ := hq'
      subst ev
      obtain ⟨h2, g2, d2, t2, os'⟩ := s'
      obtain ⟨t0, G, J, kG, ge, hoe, na⟩ := mk_end0 (d2 := d2) (t2 := t2) I1 hsz kk un2 hok2 os2 bare2 ea ed hd1
      exact ⟨rv, ⟨.ref _, _, J.laidN (t' := t2) kG ge na (excAt_ok hoe ⟨rfl, rfl⟩ rfl), rfl, q2⟩⟩
    | next => exact False.elim hq'
    | brk => exact False.elim hq'
    | cont => exact False.elim hq'
def fMkD (C f : Str) (g : FE) : FE := fun env st => (g env st).bind fun w st1 => .ok (.ref st1.length) (st1 ++ [.exc C [(f, w)]])
/-- one argument -/
theorem xi_heap {H1 : Hp} {a dx : Addr} {v : V} {f : Str} (ha : H1 a = none) (hd : upd H1 a (exo a C none) dx = none) (hne : dx ≠ a) :
    (upd (upd (upd H1 a (exo a C none)) dx (exd dx [(f, v)])) a (exo a C (some dx))) a = some (exo a C (some dx)) ∧ (upd (upd (upd H1 a (exo a C none)) dx (exd dx [(f, v)])) a (exo a C (some dx))) dx = some (exd dx [(f, v)]) ∧ H1 dx = none := by
  refine ⟨upd_same, by rw [upd_ne hne, upd_same], ?_⟩
  rw [upd_ne hne] at hd
  exact hd
theorem xi_keep {H1 : Hp} {a dx : Addr} {v : V} {f : Str} (ha : H1 a = none) (hd : H1 dx = none) : ∀ c u, H1 c = some u → (upd (del (upd (upd (upd H1 a (exo a C none)) dx (exd dx [(f, v)])) a (exo a C (some dx))) a) dx (.xd [(f, v)])) c = some u := fun c u e => by
  rw [upd_ne (ne_of_none e hd), del_ne (ne_of_none e ha), upd_ne (ne_of_none e ha), upd_ne (ne_of_none e hd), upd_ne (ne_of_none e ha)]
  exact e
theorem e_mkD {fI : Addr} {k : Nat} {fd : FuncData} {ps : List Str} {f : Str} (xc : XdCls X.K X.mg X.base X.prog X.w x f C fI fd ps k) (hr : Room (k + 1) X.A) (he : PE X e (tE (gx X) Wx fa)) (hx : Passes (L2.CX X.prog X.w) X (fun _ _ _ => False)) (hg : Gl X x := by rfl) (hdb : (x == ("__debug__" : Str)) = false := by decide)
    (h1 : starEach [e] X.env = (false, eval e X.env) :: starEach [] X.env := by rfl) : PE X (.Call (.Name x p) [e] [] pos) (tE (gx X) Wx (fMkD x f fa)) :=
  (pe_oexV xc.ox xc.iC xc.tI xc.fn hr xc.bI hx hg xc.gC (pa_cons he pa_nil h1) hdb h1).imp fun s H Q h => by
    obtain ⟨env, l, st, en, sm, p⟩ := h
    refine ⟨env, l, st, en, sm, (Po.bind p).imp fun w l1 H1 g1 ⟨st1, sm1, _, p1⟩ v rx => ⟨by simp, fun a ha => ⟨a, v, rfl, upd_same, fun dx hd hne => ?_⟩⟩⟩
    obtain ⟨e1, e2, e3⟩ := xi_heap (C := C) (v := v) (f := f) ha hd hne
    refine ⟨rfl, dx, _, e1, e2, e3, ?_⟩
    have kp := xi_keep (C := C) (v := v) (f := f) ha e3
    have kp2 : ∀ c u, H1 c = some u → upd (upd (del (upd (upd (upd H1 a (exo a C none)) dx (exd dx [(f, v)])) a (exo a C (some dx))) a) dx (.xd [(f, v)])) a (.ext (excAt (.ref C) (some dx) a)) c = some u := fun c u q => by
      rw [upd_ne (ne_of_none q ha)]
      exact kp c u q
    have sy := Stay.more kp2
    have gr := Grow.one (r := l1) (a := a) sy
    refine p1 (l1 ++ [a]) _ gr (sm1.new ha kp2 ⟨C, some dx, xc.gC, upd_same, .inr ⟨dx, _, rfl, by rw [upd_ne hne, upd_same], .cons (rx.grow gr) .nil⟩⟩ sy) _ (.ref ?_)
    rw [List.getElem?_append_right (by rw [sm1.len]; exact Nat.le_refl _), sm1.len]
    simp
/-- raise C(e) -/
def fRaiseD (C f : Str) (g : FE) : FS := fun env st => (g env st).toS env fun w st1 => .ex C [(f, w)] env st1
theorem s_raiseD {fI : Addr} {k : Nat} {fd : FuncData} {ps : List Str} {f : Str} {p3 : Pos} (xc : XdCls X.K X.mg X.base X.prog X.w x f C fI fd ps k) (hr : Room (k + 1) X.A) (tk : Takes X Wx) (he : PE X e (tE (gx X) Wx fa)) (hx : Passes (L2.CX X.prog X.w) X (fun _ _ _ => False)) (hg : Gl X x := by rfl) (hc : X.calm = true := by rfl) (hdb : (x == ("__debug__" : Str)) = false := by decide)
    (h1 : starEach [e] X.env = (false, eval e X.env) :: starEach [] X.env := by rfl) : PS X (.Raise (some (.Call (.Name x p) [e] [] p3)) none pos) (tS (gx X) Wx (fRaiseD x f fa)) :=
  (ps_raise hc tk (pmk_oex xc.ox xc.iC xc.tI xc.fn hr xc.bI .nil hx hg xc.gC (pa_cons he pa_nil h1) hdb h1)).imp fun D s H h => by
    obtain ⟨env, l, st, en, sm, p⟩ := h
    refine ⟨env, l, st, en, sm, (SPo.toS en p).imp fun w l1 H1 g1 ⟨st1, sm1, _, p1⟩ v rx => ⟨by simp, fun a ha => ⟨a, v, rfl, upd_same, fun dx hd hne => ?_⟩⟩⟩
    obtain ⟨e1, e2, e3⟩ := xi_heap (C := C) (v := v) (f := f) ha hd hne
    refine ⟨rfl, dx, _, e1, e2, e3, ?_⟩
    have kp := xi_keep (C := C) (v := v) (f := f) ha e3
    exact p1 l1 _ s (.ref C) (some dx) (Grow.more kp) (sm1.more kp) ((en.grow g1).grow (Grow.more kp)) ⟨C, rfl, xc.gC, .inr ⟨dx, _, rfl, upd_same, .cons (rx.grow (Grow.more kp)) .nil⟩⟩

/-! ### e.f, e an exception object -/
/-- the classes of exceptions whose field f may be asked -/
def Xfs (G : Gx) (f : Str) (xa : Str → Bool) : Prop := ∀ C, xa C = true → ∀ Ca, G.mg C = some (.ref Ca) → XfC G.K Ca ∧ PySem.W.findIn G.K (.ref Ca) f = some none
theorem pe_xfV {te : TE} {n : Str} (he : PE X e te) (hb : attributeBase e n X.env (eval e X.env) = eval e X.env := by rfl) :
    PE X (.Attribute e n pos) (fun σ H Q => te σ H fun x H1 => ∃ (a C dd : Addr) (fs : List (Str × V)) (v : V), x = .ref a ∧ H1 a = some (.ext (excAt (.ref C) (some dd) a)) ∧ XfC X.K C ∧ PySem.W.findIn X.K (.ref C) n = some none ∧ H1 dd = some (.xd fs) ∧ fs.lookup n = some v ∧ Q v H1) := by
  refine ⟨fun pins s σ H Q I h => ?_⟩
  refine attr_of hb (thn (he.run pins s σ H _ I h) fun u s1 hh => ?_)
  obtain ⟨x, H1, I1, rx, a, C, dd, fs, v, ex, e1, T, hno, e2, l, q⟩ := hh
  subst ex
  obtain rfl : u = Value.ref a := rx
  obtain ⟨o, vs, ha, hz1, hz2, hd⟩ := (I1.hok a _ e1).1
  have hx : ObjOk X.prog X.w H1 s1.heap dd (.xd fs) := I1.hok dd _ e2
  obtain ⟨mA, hns, hr⟩ := hx
  obtain ⟨od, ho, hl⟩ := lookIn_ns hns
  obtain ⟨u, hu, ru⟩ := RelO.some_of (v := v) (o := mA n) (by rw [← l]; exact hr n)
  have J : PySem.W.InstAt s1.heap a o C (some od) := ⟨ha, hz1, by unfold PySem.W.notCls; rw [hd] <;> rfl, by rw [hz2]; exact ho⟩
  exact HandSPX.exc_get I1.kIn J T.ga T.gg T.exC (PySem.W.findObj_own T.hdC hno rfl (by rw [hl, hu])) (handed_of ru) ⟨v, H1, I1.tok _, ru, q⟩
def fXf (xa : Str → Bool) (f : Str) (g : FE) : FE := fun env st => (g env st).bind fun w st1 => match w with
  | .ref n => (match st1[n]? with
    | some (.exc C fs) => if xa C = true then (match fs.lookup f with
      | some v => .ok v st1
      | none => .bad) else .bad
    | _ => .bad)
  | _ => .bad
theorem RepF.look {G : Gx} {r : List Addr} {H : Hp} {f : Str} {w : W} : ∀ {fs : Flds} {vs : List (Str × V)}, RepF G r H fs vs → fs.lookup f = some w → ∃ v, vs.lookup f = some v ∧ Rep G r H w v := by
  intro fs vs h
  induction h with
  | nil => intro e; cases e
  | @cons g w' v' fs vs h _ ih =>
    intro e
    rw [List.lookup_cons] at e ⊢
    split at e
    · rename_i hb
      cases e
      exact ⟨v', rfl, h⟩
    · rename_i hb
      exact ih e
theorem e_xf {n : Str} {xa : Str → Bool} (T : Xfs (gx X) n xa) (he : PE X e (tE (gx X) Wx fa)) (hb : attributeBase e n X.env (eval e X.env) = eval e X.env := by rfl) : PE X (.Attribute e n pos) (tE (gx X) Wx (fXf xa n fa)) := (pe_xfV he hb).imp fun s H Q h => by
  obtain ⟨env, l, st, en, sm, p⟩ := h
  refine ⟨env, l, st, en, sm, (Po.bind p).imp fun w l1 H1 g1 ⟨st1, sm1, _, p1⟩ v rx => ?_⟩
  cases rx with
  | @ref k a q =>
    dsimp only at p1
    split at p1
    · rename_i C fs e1
      split at p1
      · rename_i hx
        split at p1
        · rename_i w e2
          obtain ⟨Ca, d, m, e3, k⟩ := sm1.got e1 q
          rcases k with ⟨rfl, _⟩ | ⟨da, vs, rfl, e4, rf⟩
          · cases e2
          · obtain ⟨v, e5, rv⟩ := rf.look e2
            obtain ⟨t1, t2⟩ := T C hx Ca m
            exact ⟨a, Ca, da, vs, v, rfl, e3, t1, t2, e4, e5, Po.ok p1 sm1 v rv⟩
        · exact p1.elim
      · exact p1.elim
    · exact p1.elim
  | _ => exact p1.elim

/-! ### try: .. except B as n: return n.f -/
/-- what the clause takes -/
structure XTry (G : Gx) (B : Str) (tab : Str → Option Bool) : Prop where
  at_ : ∃ Ba, G.mg B = some (.ref Ba) ∧ ∀ C b, tab C = some b → ∀ Ca, G.mg C = some (.ref Ca) → PySem.W.exmOne G.K (.ref Ca) (.ref Ba) = some b
def fTryF (tab : Str → Option Bool) (xa : Str → Bool) (f : Str) (g : FS) : FS := fun env st => match g env st with
  | .ex C fs env1 st1 => (match tab C with
    | some true => if xa C = true then (match fs.lookup f with
      | some v => .rt v st1
      | none => .bad) else .bad
    | some false => .ex C fs env1 st1
    | none => .bad)
  | o => o
end
end Sw
/-! SwY: try .. except; __init__ of an exception class. -/
namespace Sw
open PySem PySem.Spec PyProof.Rows L2
/-- which classes a clause `except B` takes -/
def XTryOk (G : Gx) (B : Str) (tab : Str → Option Bool) : Prop := ∃ Ba, G.mg B = some (.ref Ba) ∧ ∀ C b, tab C = some b → ∀ Ca, G.mg C = some (.ref Ca) → PySem.W.exmOne G.K (.ref Ca) (.ref Ba) = some b
section
variable {X : Cx} {Wx : WX}
def fTryR (tab : Str → Option Bool) (i : Nat) (D f : Str) (g : FS) : FS := fun env st => match g env st with
  | .ex C fs env1 st1 => (match tab C with
    | some true => if C = D ∧ i < env1.length then (match fs.lookup f with
      | some v => .rt v st1
      | none => .bad) else .bad
    | some false => .ex C fs env1 st1
    | none => .bad)
  | o => o
theorem s_tryR {x n f D : Str} {i : Nat} {body : List Stmt} {np p1 p2 p3 pos pos' : Pos} {tab : Str → Option Bool} {g : FS} {xa : Str → Bool} (T : XTryOk (gx X) x tab) (TD : Xfs (gx X) f xa) (hD : xa D = true) (gD : ∃ Da, X.mg D = some (.ref Da)) (hs : X.stack = X.env :: X.outer) (hf : X.env.frame = some X.env.locals) (hN : X.N.Nodup) (tk : Takes X Wx)
    (hb : ∀ (W : WX) (pn : List (Addr × Obj)) (xe : Value → Shared → Prop), Takes (X.tr pn xe) W → PassesOwn (model X.prog X.w) X.A X.env xe → PSs (X.tr pn xe) body (tS (gx X) W g))
    (hi : X.N[i]? = some n := by rfl) (hln : X.env.kindOf n = some .local := by rfl) (hg : Gl X x := by rfl) (hdb : (x == ("__debug__" : Str)) = false := by decide)
    (hv : Vis X.env.scope n := by first | exact Or.inl rfl | exact Or.inr (Or.inl rfl) | exact Or.inr (Or.inr rfl)) (hd : (n == ("__debug__" : Str)) = false := by decide)
    (hcd : (n == ("__classdict__" : Str)) = false := by decide) (hat : attributeBase (.Name n p1) f X.env (eval (.Name n p1) X.env) = eval (.Name n p1) X.env := by rfl) :
    PS X (.Try body [.ExceptHandler (some (.Name x np)) (some n) [.Return (some (.Attribute (.Name n p1) f p2)) p3] pos'] [] [] pos) (tS (gx X) Wx (fTryR tab i D f g)) := by
  obtain ⟨Ba, hB, hT⟩ := T
  obtain ⟨Da, hDa⟩ := gD
  obtain ⟨xD, hno⟩ := TD D hD Da hDa
  refine (ps_try_as (c := .ref Ba) (i := i) hs hf hN hi hln ⟨hg, hdb, .inl hB⟩ tk hb (fun a oe cls d pn hz hfl => pss_one (ps_ret (pe_xf (X := X) xD hno hz hfl (pe_var hi hv hd hcd) hat)))).imp fun E s H h => ?_
  obtain ⟨env, l, st, en, sm, p⟩ := h
  refine ⟨env, l, st, en, sm, ?_⟩
  unfold fTryR at p
  cases e : g env st with
  | nx env1 st1 => rw [e] at p; exact p
  | rt w st1 => rw [e] at p; exact p
  | bk env1 st1 => rw [e] at p; exact p
  | ct env1 st1 => rw [e] at p; exact p
  | bad => rw [e] at p; exact p.elim
  | ex C fs env1 st1 =>
    rw [e] at p
    intro r' H' s' ca d gr sm' en' ex
    obtain ⟨Ca, rfl, m, k⟩ := ex
    dsimp only at p
    split at p
    · rename_i hb'
      split at p
      · rename_i hc
        obtain ⟨hc, hl⟩ := hc
        subst hc
        have m' : X.mg C = some (.ref Ca) := m
        rw [hDa] at m'
        cases m'
        split at p
        · rename_i v hv'
          refine ⟨true, hT _ _ hb' _ hDa, fun _ a ha => ?_, fun z => nomatch z⟩
          rcases k with ⟨rfl, _⟩ | ⟨da, vs, rfl, e4, rf⟩
          · cases hv'
          · obtain ⟨u, e5, rv⟩ := rf.look hv'
            refine ⟨.ref a, by rw [List.getElem?_set_self (by rw [en'.1]; exact hl)], rfl, rfl, da, vs, u, rfl, e4, e5, ?_⟩
            exact p r' H' u gr sm' rv
        · exact p.elim
      · exact p.elim
    · rename_i hb'
      exact ⟨false, hT _ _ hb' _ m, fun z => (nomatch z), fun _ => p r' H' s' _ d gr sm' en' ⟨Ca, rfl, m, k⟩⟩
    · exact p.elim
end
end Sw
/-! SwH: the head's facts by one check of one's own; the law's end. -/
namespace Sw
open PySem PySem.Spec PyProof.Rows L2
/-! ### the hook -/
def obsB (chk : PySem.W.Frag → Bool) (fn : List He.DefD) (K : PySem.W.Frag) : He.AlD := (chk K && fn.all fun d => d.ok K, fn.map fun d => He.fnW K d.at_)
def SaysB (chk : PySem.W.Frag → Bool) (fn : List He.DefD) (K : PySem.W.Frag) : Prop := obsB chk fn K = He.valD fn
/-- what the module's names and the statics reach in n steps -/
def asB (g : Addr → Option Obj) : Nat → List Addr
  | 0 => [mainGlobals, cStatics]
  | n + 1 => He.growD g (asB g n)
def obsBG (n : Nat) (chk : PySem.W.Frag → Bool) (fn : List He.DefD) (g : Addr → Option Obj) : He.AlD := obsB chk fn (He.frG g (asB g n))
def hookB (n : Nat) (chk : PySem.W.Frag → Bool) (fn : List He.DefD) : PySem.W.Hook where
  α := He.AlD
  obs := fun s => obsBG n chk fn s.heap.get?
  val := fun _ => He.valD fn
  says := fun _ h => ∃ K : PySem.W.Frag, K.In h ∧ SaysB chk fn K
  of := fun _ _ e => ⟨_, He.frG_in, e⟩
  keeps := fun _ _ _ ⟨K, hK, c⟩ k => ⟨K, PySem.W.Frag.In.keeps hK k, c⟩
theorem obsBG_eq {n : Nat} {chk : PySem.W.Frag → Bool} {fn : List He.DefD} {g : Addr → Option Obj} {s : Shared} (h : ∀ a, g a = s.heap.get? a) : obsBG n chk fn g = (hookB n chk fn).obs s := by
  have e : g = s.heap.get? := funext h
  rw [e] <;> rfl
section
variable {chk : PySem.W.Frag → Bool} {fn : List He.DefD} {K : PySem.W.Frag}
theorem SaysB.checked (c : SaysB chk fn K) : chk K = true := (He.ba (show (chk K && fn.all fun d => d.ok K) = true from congrArg (fun z : He.AlD => z.1) c)).1
theorem SaysB.def_ (c : SaysB chk fn K) (i : Nat) {d : He.DefD} (h : fn[i]? = some d := by rfl) : ∃ fd, FunD K d.name d.qual d.params d.body d.scope (d.dvs K) (d.kws K) (He.fAd K d.at_) fd := by
  have c2 := (He.ba (show (chk K && fn.all fun d => d.ok K) = true from congrArg (fun z : He.AlD => z.1) c)).2
  have e : fn.map (fun d => He.fnW K d.at_) = fn.map He.DefD.val := congrArg (fun z : He.AlD => z.2) c
  have e2 : (fn.map fun d => He.fnW K d.at_)[i]? = (fn.map He.DefD.val)[i]? := by rw [e]
  rw [List.getElem?_map, List.getElem?_map, h] at e2
  exact He.DefD.funD (Option.some.inj e2) (List.all_eq_true.mp c2 d (List.mem_of_getElem? h))
end
/-! ### facts -/
section
variable {K : PySem.W.Frag} {h : Heap} {mg : Str → Option Value}
def gloB (K : PySem.W.Frag) (xs : List Str) : Bool := xs.all fun x => He.eqO (PySem.W.nsIn K mainGlobals x) (some (some (.ref (He.ga K x))))
def freeB (K : PySem.W.Frag) (xs : List Str) : Bool := xs.all fun x => He.eqO (PySem.W.nsIn K mainGlobals x) (some none)
theorem gloB_ok (X : K.In h) (G : h.Ns mainGlobals mg) {xs : List Str} (c : gloB K xs = true) {x : Str} (hx : x ∈ xs) : mg x = some (.ref (He.ga K x)) := PySem.W.mg_of X G (He.eqO_ok (List.all_eq_true.mp c x hx))
theorem freeB_ok (X : K.In h) (G : h.Ns mainGlobals mg) {xs : List Str} (c : freeB K xs = true) {x : Str} (hx : x ∈ xs) : mg x = none := PySem.W.mg_none_of X G (He.eqO_ok (List.all_eq_true.mp c x hx))
/-- an exception class is asked rightly by isinstance -/
def excCB (K : PySem.W.Frag) (D : Addr) : Bool := decide (PySem.W.findIn K (.ref D) "__getattribute__" = some (some (.builtin "BaseException.__getattribute__"))) && (decide (PySem.W.findIn K (.ref D) "__getattr__" = some none) && (decide (PySem.W.subIn K (.ref D) (.type "BaseException") = some true) && (PySem.W.hasDictIn K D && (decide (PySem.W.findIn K (.ref D) "__class__" = some (some (.builtin "object.__class__"))) &&
  (decide (PySem.W.specialIn K (.builtin "object.__class__") "__get__" = some (some (.builtin "getset_descriptor.__get__"))) && (decide (PySem.W.takesIn K (.builtin "object.__class__") = some true) && decide (PySem.W.mroIn K D (.type "object") = some true)))))))
theorem excCB_ok {D : Addr} (c : excCB K D = true) : ExcC K D := by
  obtain ⟨c1, c⟩ := He.ba c
  obtain ⟨c2, c⟩ := He.ba c
  obtain ⟨c3, c⟩ := He.ba c
  obtain ⟨c4, c⟩ := He.ba c
  obtain ⟨c5, c⟩ := He.ba c
  obtain ⟨c6, c⟩ := He.ba c
  obtain ⟨c7, c8⟩ := He.ba c
  exact ⟨of_decide_eq_true c1, of_decide_eq_true c2, of_decide_eq_true c3, c4, of_decide_eq_true c5, of_decide_eq_true c6, of_decide_eq_true c7, of_decide_eq_true c8⟩
/-- an own exception class without __init__ -/
theorem xCls_ok {x : Str} (g : mg x = some (.ref (He.ga K x))) (c : (He.Fa.exc x).ok K = true) : XCls K mg x (He.ga K x) := by
  obtain ⟨a, b, d, e⟩ := He.exc_ok c
  exact ⟨g, a, b, d, e⟩
def oexB (K : PySem.W.Frag) (C : Addr) : Bool := (match K.lookup C with
  | some ⟨.type "type", _, .cls cd, sl⟩ => (match cd.mro, sl.toList with
    | .ref C' :: bm, [_, _, _, _, some (.builtin n), _] => C' == C && (decide (n = "ValueError.__new__") && (!cd.hasDel && (cd.hasDict && PySem.HandSPX.refsVE bm)))
    | _, _ => false)
  | _ => false) && (decide (PySem.W.findIn K (.ref C) "__setattr__" = some (some (.builtin "object.__setattr__"))) && (decide (PySem.W.subIn K (.ref C) (.type "BaseException") = some true) && (decide (PySem.W.typeIn K (.ref C) = some (.type "type")) && PySem.W.keepIn K (.ref C))))
theorem oexB_ok {C : Addr} (c : oexB K C = true) : OexC K C := by
  obtain ⟨c1, c⟩ := He.ba c
  obtain ⟨c2, c⟩ := He.ba c
  obtain ⟨c3, c⟩ := He.ba c
  obtain ⟨c4, c5⟩ := He.ba c
  refine ⟨?_, of_decide_eq_true c2, of_decide_eq_true c3, of_decide_eq_true c4, c5⟩
  split at c1
  · rename_i dd cd sl ho
    split at c1
    · rename_i C' bm k0 k1 k2 k3 n k5 hm hs
      simp only [Bool.and_eq_true, beq_iff_eq, Bool.not_eq_true', decide_eq_true_eq] at c1
      obtain ⟨rfl, rfl, hdel, hdi, hv⟩ := c1
      obtain ⟨nm, bs, mro, ns, qn, hd, sn, sub, ab, col, del⟩ := cd
      dsimp only at hm hdel hdi
      subst hm hdel hdi
      have hsl : sl = #[k0, k1, k2, k3, some (.builtin "ValueError.__new__"), k5] := by
        obtain ⟨l⟩ := sl
        simp only at hs
        rw [hs]
      subst hsl
      exact ⟨nm, qn, ns, bs, bm, sn, sub, ab, col, dd, k0, k1, k2, k3, k5, ho, hv⟩
    · cases c1
  · cases c1
/-- B.__init__ is the built-in one -/
def winitB (K : PySem.W.Frag) (B : Addr) : Bool := PySem.W.readsIn K B (.type "type") && (decide (PySem.W.specialIn K (.ref B) "__getattribute__" = some (some (.builtin "type.__getattribute__"))) && (match PySem.W.findCls K (.ref B) (.type "type") "__init__" with
  | some (.val (.builtin n)) => decide (n = "ValueError.__init__")
  | _ => false))
theorem winitB_ok {B : Addr} (c : winitB K B = true) : ClX.CRead K B (.type "type") ∧ PySem.W.findCls K (.ref B) (.type "type") "__init__" = some (.val (.builtin "ValueError.__init__")) := by
  obtain ⟨c1, c⟩ := He.ba c
  obtain ⟨c2, c3⟩ := He.ba c
  refine ⟨⟨c1, of_decide_eq_true c2⟩, ?_⟩
  split at c3
  · rename_i n e
    rw [e, of_decide_eq_true c3]
  · cases c3
def xfsB (K : PySem.W.Frag) (x f : Str) : Bool := xfB K (He.ga K x) && decide (PySem.W.findIn K (.ref (He.ga K x)) f = some none)
theorem xfsB_ok {x f : Str} (g : mg x = some (.ref (He.ga K x))) (c : xfsB K x f = true) : Xfs ⟨K, mg⟩ f (fun C => C == x) := by
  obtain ⟨c1, c2⟩ := He.ba c
  intro C hC Ca hm
  have e : C = x := eq_of_beq hC
  subst e
  have e2 : (some (Value.ref (He.ga K C))) = some (.ref Ca) := g.symm.trans hm
  cases e2
  exact ⟨xfB_ok c1, of_decide_eq_true c2⟩
/-- which built-in types are which -/
def bTs : List String := ["NoneType", "bool", "int", "str", "tuple", "list", "dict"]
def bIs (m n : String) : Bool := m == n || (m == "bool" && n == "int")
theorem bIs_ok : ∀ m ∈ bTs, ∀ n ∈ bTs, kitB m n = some (bIs m n) := by decide +kernel
/-- a class | a type -/
def xTab (cls : List Str) (base : Str) : Tg → Tg → Option Bool
  | .c C, .c D => if C ∈ cls ∧ D ∈ cls then some (decide (C = D) || decide (D = base)) else none
  | .c C, .b n => if C ∈ cls then (if n = "ValueError" then some true else if n ∈ bTs then some false else none) else none
  | .b n, .c D => if n ∈ bTs ∧ D ∈ cls then some false else none
  | .b m, .b n => if m ∈ bTs ∧ n ∈ bTs then some (bIs m n) else none
def kitT (K : PySem.W.Frag) (t c : Value) (b : Bool) : Bool := decide (PySem.W.kitOne K t c = some b)
def isiB (K : PySem.W.Frag) (cls : List Str) (base : Str) : Bool := (cls.all fun C => excCB K (He.ga K C) && (kitT K (.ref (He.ga K C)) (.type "ValueError") true && ((bTs.all fun n => kitT K (.ref (He.ga K C)) (.type n) false && kitT K (.type n) (.ref (He.ga K C)) false) && cls.all fun D => kitT K (.ref (He.ga K C)) (.ref (He.ga K D)) (decide (C = D) || decide (D = base)))))
theorem isiB_ok {cls : List Str} {base : Str} (g : ∀ x ∈ cls, mg x = some (.ref (He.ga K x))) (c : isiB K cls base = true) : Isi ⟨K, mg⟩ (xTab cls base) (fun C => decide (C ∈ cls)) := by
  have at_ : ∀ C ∈ cls, _ := fun C hC => List.all_eq_true.mp c C hC
  have cv : ∀ C ∈ cls, ∀ v, TgV ⟨K, mg⟩ (.c C) v → v = .ref (He.ga K C) := fun C hC v h => by
    cases h with
    | c h =>
      have e := (g C hC).symm.trans h
      cases e
      rfl
  have bv : ∀ n v, TgV ⟨K, mg⟩ (.b n) v → v = .type n := fun n v h => by cases h; rfl
  refine ⟨fun t c b e tv v ht hc => ?_, fun C hC Ca hm => ?_⟩
  · cases t with
    | c C =>
      cases c with
      | c D =>
        simp only [xTab] at e
        split at e
        · rename_i hh
          cases e
          obtain ⟨_, k⟩ := He.ba (at_ C hh.1)
          obtain ⟨_, k⟩ := He.ba k
          obtain ⟨_, k⟩ := He.ba k
          rw [cv C hh.1 _ ht, cv D hh.2 _ hc]
          exact of_decide_eq_true (List.all_eq_true.mp k D hh.2)
        · cases e
      | b n =>
        simp only [xTab] at e
        split at e
        · rename_i hC
          obtain ⟨_, k⟩ := He.ba (at_ C hC)
          obtain ⟨k1, k⟩ := He.ba k
          obtain ⟨k2, k⟩ := He.ba k
          rw [cv C hC _ ht, bv n _ hc]
          split at e
          · rename_i hn
            cases e
            rw [hn]
            exact of_decide_eq_true k1
          · split at e
            · rename_i hn
              cases e
              exact of_decide_eq_true (He.ba (List.all_eq_true.mp k2 n hn)).1
            · cases e
        · cases e
    | b n =>
      cases c with
      | c D =>
        simp only [xTab] at e
        split at e
        · rename_i hh
          cases e
          obtain ⟨_, k⟩ := He.ba (at_ D hh.2)
          obtain ⟨k1, k⟩ := He.ba k
          obtain ⟨k2, k⟩ := He.ba k
          rw [cv D hh.2 _ hc, bv n _ ht]
          exact of_decide_eq_true (He.ba (List.all_eq_true.mp k2 n hh.1)).2
        · cases e
      | b m =>
        simp only [xTab] at e
        split at e
        · rename_i hh
          cases e
          rw [bv n _ ht, bv m _ hc]
          exact kit_ty (bIs_ok n hh.1 m hh.2)
        · cases e
  · have hC : C ∈ cls := of_decide_eq_true hC
    obtain ⟨k, _⟩ := He.ba (at_ C hC)
    have e : some (Value.ref (He.ga K C)) = some (.ref Ca) := (g C hC).symm.trans hm
    cases e
    exact excCB_ok k
/-- except base -/
def exmB (K : PySem.W.Frag) (cls : List Str) (base : Str) : Bool := cls.all fun C => decide (PySem.W.exmOne K (.ref (He.ga K C)) (.ref (He.ga K base)) = some true)
def xmTab (cls : List Str) (C : Str) : Option Bool := if C ∈ cls then some true else none
theorem exmB_ok {cls : List Str} {base : Str} (g : ∀ x ∈ cls, mg x = some (.ref (He.ga K x))) (hb : mg base = some (.ref (He.ga K base))) (c : exmB K cls base = true) : XTryOk ⟨K, mg⟩ base (xmTab cls) := by
  refine ⟨He.ga K base, hb, fun C b e Ca hm => ?_⟩
  unfold xmTab at e
  split at e
  · rename_i hC
    cases e
    have e : some (Value.ref (He.ga K C)) = some (.ref Ca) := (g C hC).symm.trans hm
    cases e
    exact of_decide_eq_true (List.all_eq_true.mp c C hC)
  · cases e
end
/-! ### the end -/
theorem rol_of {K : PySem.W.Frag} {H : Hp} {a : Addr} {xs : List V} (hO : Only H) (h : SqL K H a xs) : Rol K H a xs := by
  rcases h with (h | h) | h
  · rcases hO a with z | ⟨o, ys, z⟩
    · rw [z] at h; cases h
    · rw [z] at h; cases h
  · exact .inl h
  · exact .inr h
theorem sp_law {K : PySem.W.Frag} {mg : Str → Option Value} {F : FF} {H : Hp} {a : Addr} {ns : List Int} (hO : Only H) (hS : SqL K H a (ns.map V.int)) (hp : ∃ st, F [.rol (ns.map W.int)] [] = .ok (.bl true) st) :
    spF ⟨K, mg⟩ 1 F [.ref a] H (fun v _ => v = .bl true) fun _ _ _ => False := by
  obtain ⟨st, e⟩ := hp
  refine ⟨rfl, [.rol (ns.map W.int)], [], [], .cons (.rol (rol_of hO hS) (repL_ints ns)) .nil, ⟨rfl, List.nodup_nil, fun n o a e => by simp at e⟩, ?_⟩
  rw [e]
  intro r' H' g sm v rv
  cases rv
  rfl
theorem cx_end {P : Program} {w : World} {outer : List Env} {H : Hp} {s : Shared} {e : Value} {s' : Shared} (h : L2.CX P w outer H s (fun _ _ _ => False) e s') : False := by
  obtain ⟨_, _, _, _, _, _, _, _, _, _, _, _, z⟩ := h
  exact z
end Sw
/-! SwZ: small words for the printed text. -/
namespace Sw
open PySem PySem.Spec PyProof.Rows L2
theorem passX {X : Cx} : Passes (L2.CX X.prog X.w) X (fun _ _ _ => False) := fun _ _ _ _ _ _ _ c => (cx_end c).elim
theorem spXi_len {f : Str} {C : Addr} {a b : Str} : ∀ (vs : List V) (H : Hp) (Q : VK) (E : XK), spXi f C vs H Q E → vs.length = [a, b].length := fun vs H Q E ⟨x, v, e, _⟩ => by rw [e]; rfl
theorem xfnone {K : PySem.W.Frag} {mg : Str → Option Value} {f x : Str} {xa : Str → Bool} {C : Addr} (T : Xfs ⟨K, mg⟩ f xa) (g : mg x = some (.ref C)) (h : xa x = true) : PySem.W.findIn K (.ref C) f = some none := (T x h C g).2
def initB (K : PySem.W.Frag) (x : Str) : Bool := decide (PySem.W.findIn K (.ref (He.ga K x)) "__init__" = some (some (.ref (He.ma K (He.ga K x) "__init__")))) && decide (PySem.W.typeIn K (.ref (He.ma K (He.ga K x) "__init__")) = some (.type "function"))
theorem initB_ok {K : PySem.W.Frag} {x : Str} (c : initB K x = true) : PySem.W.findIn K (.ref (He.ga K x)) "__init__" = some (some (.ref (He.ma K (He.ga K x) "__init__"))) ∧ PySem.W.typeIn K (.ref (He.ma K (He.ga K x) "__init__")) = some (.type "function") := by
  obtain ⟨a, b⟩ := He.ba c
  exact ⟨of_decide_eq_true a, of_decide_eq_true b⟩
theorem xi_end {K : PySem.W.Frag} {C : Addr} {f a b : Str} {m : Str} {vs : List V} {H : Hp} {Q : VK} {E : XK} (T : OexC K C) (hno : PySem.W.findIn K (.ref C) f = some none) (h : spXi f C vs H Q E) :
    tSeq (tDrop (tVeI K (tCons (tVar 0) (tCons (tC (.str m)) tNil)))) (tOst K f (tVar 0) (tVar 1)) { nx := fun _ H' => Q .non H', rt := Q } (L2.start [a, b] vs) H := by
  obtain ⟨x, v, rfl, ha, q⟩ := h
  exact ⟨.ref x, rfl, x, C, [.str m], rfl, by simp, T, ha, v, rfl, .ref x, rfl, x, C, rfl, T, hno, .inl ⟨ha, fun dx hd hne => q dx hd hne⟩⟩
/-- a law's end over a head by facts; what leaves it may depend on the world -/
theorem walk_ofW {l : PySem.W.OpenLaw} {n k : Nat} {q : Program} {loose : List Str} {XP : (Str → Option Value) → Heap → Prop} {YP : World → Heap → Prop} {d : DefRec} {x : Str}
    (hn : l.most = some n) (hn2 : n ≤ sizeLine) (hdf : d.params.defaults = []) (hr : Room k callerA)
    (F : ∀ (w : World) (mg : Str → Option Value) (fa : Addr) (h : Heap), YP w h → h.Ns mainGlobals mg → mg d.name = some (.ref fa) →
      ∃ (K : PySem.W.Frag) (fd : FuncData) (sp : Sp), K.In h ∧ (∀ (s : Shared) (u : Value), BindsTo s fd ⟨[u], []⟩ [(x, u)]) ∧
        (∀ (H : Hp) (a : Addr) (ns : List Int), ns.length ≤ n → Only H → SqL K H a (ns.map V.int) → sp [.ref a] H (fun v _ => v = .bl true) fun _ _ _ => False) ∧
        ∀ base : Heap, K.In base → base.Ns mainGlobals mg → FnOk l.prog w K mg base (L2.CX l.prog w) k fa fd [x] sp) :
    PySem.W.WalkO q loose XP YP l.row.toRowW d [] (fun f vs => PySem.call f vs) := by
  refine Att.attach_call hn hdf fun w s₀ s₁ mg mb fa o pm cd doc a vs ns G Y ho hd hcd hmg hobj hints hlen hg => ?_
  obtain ⟨K, fd, sp, KX, hb, hsp, hF⟩ := F w mg fa _ Y G.T.g hmg
  exact law_call KX G.T.g G.T.b G.T.builtins G.T.nolimit hg hobj hints (Nat.le_trans hlen hn2) hr hF hb (fun H hO hS => hsp H a ns hlen hO hS) fun H e s' => cx_end
end Sw
/-! Pl: plain laws of the plain functions. -/
namespace Sw
open PySem PySem.Spec PyProof.Rows L2
/-! ### the store -/
@[simp] theorem sto_at {st : Sto} {o : Ob} {g : Sto} : (st ++ o :: g)[st.length]? = some o := by
  rw [List.getElem?_append_right (Nat.le_refl _)]
  simp
@[simp] theorem sto_at1 {st : Sto} {g : Sto} {k : Nat} : (st ++ g)[st.length + k]? = g[k]? := by
  rw [List.getElem?_append_right (Nat.le_add_right _ _)]
  simp
@[simp] theorem sto_set {st g : Sto} {k : Nat} {o : Ob} : (st ++ g).set (st.length + k) o = st ++ g.set k o := by
  rw [List.set_append_right _ _ (Nat.le_add_right _ _)]
  simp
@[simp] theorem sto_set0 {st g : Sto} {o : Ob} : (st ++ g).set st.length o = st ++ g.set 0 o := by
  rw [List.set_append_right _ _ (Nat.le_refl _)]
  simp
theorem sto_lt {st : Sto} {n : Nat} {o : Ob} (h : st[n]? = some o) : n < st.length := (List.getElem?_eq_some_iff.mp h).1
theorem sto_app {st g : Sto} {n : Nat} {o : Ob} (h : st[n]? = some o) : (st ++ g)[n]? = some o := by
  rw [List.getElem?_append_left (sto_lt h)]
  exact h
theorem sto_setl {st g : Sto} {n : Nat} {o : Ob} (h : n < st.length) : (st ++ g).set n o = st.set n o ++ g := by
  rw [List.set_append_left _ _ h]
/-! ### comprehensions that leave the store as it is -/
theorem lc_pure {bind : W → En → Option En} {t : FT} {f : FE} {env : En} {st : Sto} {g : W → W} : ∀ {items acc : List W}, acc.length + items.length ≤ 100000 →
    (∀ acc, ∀ w ∈ items, ∃ env1, bind w env = some env1 ∧ t env1 (st ++ [.lst acc]) = .ok true (st ++ [.lst acc]) ∧ f env1 (st ++ [.lst acc]) = .ok (g w) (st ++ [.lst acc])) →
    lcS none bind t f st.length env items (st ++ [.lst acc]) = .ok () (st ++ [.lst (acc ++ items.map g)])
  | [], acc, _, _ => by simp [lcS, gdOk]
  | w :: items, acc, hl, h => by
    obtain ⟨env1, h1, h2, h3⟩ := h acc w List.mem_cons_self
    have hl' : acc.length + (items.length + 1) ≤ 100000 := by simpa using hl
    have ih := lc_pure (bind := bind) (t := t) (f := f) (env := env) (st := st) (g := g) (items := items) (acc := acc ++ [g w]) (by simp; omega) fun acc x hx => h acc x (List.mem_cons_of_mem _ hx)
    have hlt : acc.length < 100000 := by omega
    simp only [lcS, gdOk, if_true, h1, h2, h3, An.noex_ok, An.bind_ok, sto_at, hlt, sto_set0, List.set_cons_zero]
    simpa using ih
theorem fYes_ok {env : En} {st : Sto} : fYes env st = .ok true st := rfl
/-- .. the whole of it -/
theorem fLc_pure {own : List Nat} {it : FI} {bind : W → En → Option En} {f : FE} {env : En} {st st1 : Sto} {items : List W} {g : W → W} (hi : it env st = .ok (items, none) st1) (hl : items.length ≤ 100000)
    (h : ∀ acc, ∀ w ∈ items, ∃ env1, bind w (wipeW env own) = some env1 ∧ f env1 (st1 ++ [.lst acc]) = .ok (g w) (st1 ++ [.lst acc])) : fLc own it bind fYes f env st = .ok (.ref st1.length) (st1 ++ [.lst (items.map g)]) := by
  unfold fLc
  rw [hi, An.bind_ok]
  have := lc_pure (bind := bind) (t := fYes) (f := f) (env := wipeW env own) (st := st1) (g := g) (items := items) (acc := []) (by simpa using hl) fun acc w hw => by
    obtain ⟨e, h1, h2⟩ := h acc w hw
    exact ⟨e, h1, fYes_ok, h2⟩
  rw [this]
  simp
/-! ### equal lists of plain things -/
theorem mapM_all {α β : Type} {f : α → Option β} {g : α → β} : ∀ {l : List α}, (∀ x ∈ l, f x = some (g x)) → l.mapM f = some (l.map g)
  | [], _ => rfl
  | x :: l, h => by
    rw [List.mapM_cons, h x List.mem_cons_self, mapM_all (l := l) fun y hy => h y (List.mem_cons_of_mem _ hy)]
    rfl
theorem toD_lst {st : Sto} {n k : Nat} {l : List W} (h : st[n]? = some (.lst l)) : toD st (k + 1) (.ref n) = (l.mapM (toD st k)).map .list := by
  unfold toD
  simp only [h]
theorem toD_bls {st : Sto} {n : Nat} {bs : List Bool} (h : st[n]? = some (.lst (bs.map W.bl))) : toD st 64 (.ref n) = some (.list (bs.map PyData.bool)) := by
  refine (toD_lst (k := 63) h).trans ?_
  rw [mapM_all (g := fun w => match w with | .bl b => .bool b | _ => .none)]
  · simp [Function.comp_def]
  · intro x hx
    obtain ⟨b, _, rfl⟩ := List.mem_map.mp hx
    rfl
theorem eqv_bls : ∀ {bs cs : List Bool}, PyData.eqv (.list (bs.map PyData.bool)) (.list (cs.map PyData.bool)) = decide (bs = cs)
  | [], [] => by simp [PyData.eqv, PyData.eqvAll]
  | [], _ :: _ => by simp [PyData.eqv, PyData.eqvAll]
  | _ :: _, [] => by simp [PyData.eqv, PyData.eqvAll]
  | a :: bs, b :: cs => by
    have ih := eqv_bls (bs := bs) (cs := cs)
    simp only [PyData.eqv, List.map_cons, PyData.eqvAll] at ih ⊢
    rw [ih]
    cases a <;> cases b <;> simp [PyData.eqv]
theorem eqW_bls {st : Sto} {n m : Nat} {bs cs : List Bool} (h : st[n]? = some (.lst (bs.map W.bl))) (k : st[m]? = some (.lst (cs.map W.bl))) : eqW st (.ref n) (.ref m) = some (decide (bs = cs)) := by
  show ((toD st 64 (.ref n)).bind fun d => (toD st 64 (.ref m)).map fun e => PyData.eqv d e) = _
  rw [toD_bls h, toD_bls k]
  simp only [Option.bind_some, Option.map_some, eqv_bls]
/-! ### what is forgotten -/
theorem clean_app' {F : FF} {ws : List W} {st : Sto} {w : W} (g : Sto) (h : F ws st = .ok w (st ++ g)) (h2 : closedW st.length w = true) : clean F ws st = .ok w st := clean_app h h2
theorem clean_id {F : FF} {ws : List W} {st : Sto} {w : W} (h : F ws st = .ok w st) : clean F ws st = .ok w st := by
  unfold clean
  rw [h]
  dsimp only
  split
  · rw [List.take_of_length_le (Nat.le_refl _)]
  · rfl
/-- one object changed, new ones behind -/
theorem clean_put {F : FF} {ws : List W} {st g : Sto} {w : W} {n : Nat} {o : Ob} (h : F ws st = .ok w (st.set n o ++ g)) (h1 : closedO st.length o = true) (h2 : closedW st.length w = true) : clean F ws st = .ok w (st.set n o) :=
  clean_set h (by simp) (fun i u e => by
    by_cases hi : n = i
    · subst hi
      by_cases hl : n < st.length
      · rw [List.getElem?_set_self hl] at e
        cases e
        exact .inr h1
      · rw [List.getElem?_eq_none (by simpa using hl)] at e
        cases e
    · rw [List.getElem?_set_ne hi] at e
      exact .inl e) h2
/-- what is handed out is new: nothing is forgotten -/
theorem clean_new {F : FF} {ws : List W} {st st' : Sto} {m : Nat} (h : F ws st = .ok (.ref m) st') (hm : st.length ≤ m) : clean F ws st = .ok (.ref m) st' := by
  unfold clean
  rw [h]
  dsimp only
  rw [if_neg]
  rintro ⟨_, c⟩
  simp only [closedW, decide_eq_true_eq] at c
  omega
/-! ### pots -/
/-- a pot of draws at n: at most c draws of its later kind so far -/
def Pot (st : Sto) (n : Nat) (c : Int) : Prop := ∃ a m k : Int, st[n]? = some (.lst [.int a, .int m, .int k]) ∧ 0 ≤ a ∧ a < 10 ^ 900 ∧ 0 ≤ m ∧ m < 10 ^ 20 ∧ 0 ≤ k ∧ k ≤ c
theorem Pot.mono {st : Sto} {n : Nat} {c d : Int} (h : Pot st n c) (l : c ≤ d) : Pot st n d := by
  obtain ⟨a, m, k, h1, h2, h3, h4, h5, h6, h7⟩ := h
  exact ⟨a, m, k, h1, h2, h3, h4, h5, h6, Int.le_trans h7 l⟩
theorem Pot.app {st g : Sto} {n : Nat} {c : Int} (h : Pot st n c) : Pot (st ++ g) n c := by
  obtain ⟨a, m, k, h1, h2⟩ := h
  exact ⟨a, m, k, sto_app h1, h2⟩
theorem Pot.lt {st : Sto} {n : Nat} {c : Int} (h : Pot st n c) : n < st.length := by
  obtain ⟨a, m, k, h1, h2⟩ := h
  exact sto_lt h1
theorem fRun_rt {n : Nat} {f : FS} {ws : List W} {st s : Sto} {w : W} {e : En} (he : Sw.start n ws = e) (h : f e st = .rt w s) : fRun n f ws st = .ok w s := by
  subst he
  unfold fRun
  rw [h]
theorem fRun_nx {n : Nat} {f : FS} {ws : List W} {st s : Sto} {e e' : En} (he : Sw.start n ws = e) (h : f e st = .nx e' s) : fRun n f ws st = .ok .non s := by
  subst he
  unfold fRun
  rw [h]
theorem fSeq_nx {f g : FS} {env env1 : En} {st st1 : Sto} (h : f env st = .nx env1 st1) : fSeq f g env st = g env1 st1 := by
  simp only [fSeq, h]
end Sw
/-! PotL: the laws' pots of draws. -/
namespace Sw
open PySem PySem.Spec PyProof.Rows L2
theorem wIx_list {st : Sto} {x : W} {l : List W} (h : getL st x = some l) (i : Int) : wIx x (.int i) st = atI l i := by
  cases x with
  | rol l' => simp only [getL, Option.some.injEq] at h; subst h; rfl
  | ref n => simp only [wIx, getS, h, Option.bind_some]
  | _ => simp [getL] at h
theorem wLen_list {st : Sto} {x : W} {l : List W} (h : getL st x = some l) : wLen [x] st = .ok (.int l.length) st := by
  cases x with
  | rol l' => simp only [getL, Option.some.injEq] at h; subst h; rfl
  | ref n =>
    simp only [getL] at h
    split at h
    · rename_i l' e
      cases h
      simp only [wLen, e]
    · cases h
  | _ => simp [getL] at h
theorem pow_big {i : Int} {k : Nat} (h0 : 0 ≤ i) : i ^ k = ((i.toNat ^ k : Nat) : Int) := by
  conv => lhs; rw [← Int.toNat_of_nonneg h0]
  simp
def potB : FS := (fSeq (fSet 2 (fC (.int 0))) (fSeq (fIfS (fCmp wLt (fVar 1) (fCall wLen (fCons (fVar 0) fNil))) (fSet 2 (fBin wMod (fCall wAbs (fCons (fBin wIxA (fVar 0) (fVar 1)) fNil)) (fBin wPow (fBin wPow (fC (.int 10)) (fC (.int 60))) (fC (.int 14))))) fNext) (fSeq (fSet 3 (fBin wMod (fBin wPow (fBin wAdd (fBin wAdd (fBin wMod (fVar 2) (fC (.int 2147483629))) (fBin wMul (fC (.int 7919)) (fVar 1))) (fC (.int 1))) (fC (.int 5))) (fC (.int 2305843009213693951)))) (fRet (fLst (fCons (fBin wMul (fVar 2) (fCall wInt (fCons (fCmpE wGe (fVar 2) (fBin wPow (fC (.int 10)) (fC (.int 18)))) fNil))) (fCons (fVar 3) (fCons (fC (.int 0)) fNil))))))))
noncomputable def potF : FF := clean (fRun 4 potB)
noncomputable def takeB : FS := (fSeq (fIfS (fCmp wGt (fBin wIxA (fVar 0) (fC (.int 0))) (fC (.int 0))) (fSeq (fSet 4 (fBin wMod (fBin wIxA (fVar 0) (fC (.int 0))) (fVar 1))) (fSeq (fAsg (fBin wFdiv (fBin wIxA (fVar 0) (fC (.int 0))) (fVar 1)) (gSubW (fVar 0) (fC (.int 0)))) (fRet (fVar 4)))) fNext) (fSeq (fAsg (fBin wAdd (fBin wIxA (fVar 0) (fC (.int 2))) (fC (.int 1))) (gSubW (fVar 0) (fC (.int 2)))) (fSeq (fSet 2 (fBin wMod (fBin wPow (fBin wAdd (fBin wIxA (fVar 0) (fC (.int 1))) (fBin wMul (fC (.int 104729)) (fBin wIxA (fVar 0) (fC (.int 2))))) (fC (.int 3))) (fC (.int 2305843009213693921)))) (fSeq (fSet 3 (fBin wMod (fBin wPow (fBin wAdd (fBin wAdd (fVar 2) (fBin wMod (fBin wIxA (fVar 0) (fC (.int 1))) (fC (.int 65537)))) (fBin wMul (fC (.int 31)) (fBin wIxA (fVar 0) (fC (.int 2))))) (fC (.int 5))) (fC (.int 2305843009213693907)))) (fRet (fBin wMod (fBin wFdiv (fVar 3) (fC (.int 1024))) (fVar 1)))))))
noncomputable def takeF : FF := clean (fRun 5 takeB)
/-- the cell of the draw -/
def cellOf (l : List Int) (k : Nat) : Int := if k < l.length then (if l.getD k 0 < 0 then -(l.getD k 0) else l.getD k 0) % (10 ^ 60) ^ 14 else 0
def mixOf (c : Int) (k : Nat) : Int := (c % 2147483629 + 7919 * k + 1) ^ 5 % 2305843009213693951
theorem e840 : (((10 : Int) ^ 60) ^ 14) = 10 ^ 840 := by decide +kernel
theorem cellOf_lt (l : List Int) (k : Nat) : 0 ≤ cellOf l k ∧ cellOf l k < 10 ^ 840 := by
  unfold cellOf
  have h0 : (0 : Int) < 10 ^ 840 := by decide +kernel
  split
  · rw [e840]
    exact ⟨Int.emod_nonneg _ (by omega), Int.emod_lt_of_pos _ h0⟩
  · exact ⟨Int.le_refl 0, h0⟩
theorem wPow_ok {i j : Int} {st : Sto} (h : cPow i j = true) : wPow (.int i) (.int j) st = .ok (.int (i ^ j.toNat)) st := by
  show (if cPow i j = true then An.ok (W.int (i ^ j.toNat)) st else .bad) = _
  rw [if_pos h]
theorem wMod_ok {i j : Int} {st : Sto} (h : 0 < j) : wMod (.int i) (.int j) st = .ok (.int (i % j)) st := by
  show (if cMod i j = true then An.ok (W.int (i % j)) st else .bad) = _
  have hc : cMod i j = true := decide_eq_true h
  rw [if_pos hc]
theorem wFdiv_ok {i j : Int} {st : Sto} (h : 0 < j) (h2 : j < 10 ^ 900) : wFdiv (.int i) (.int j) st = .ok (.int (i / j)) st := by
  show (if cDiv i j = true then An.ok (W.int (i / j)) st else .bad) = _
  have hb : (10 : Nat) ^ 900 < BigN := by decide +kernel
  have hc : cDiv i j = true := decide_eq_true ⟨h, by omega⟩
  rw [if_pos hc]
theorem wMul_ok {i j : Int} {st : Sto} (h : i.natAbs < 10 ^ 2000) (h2 : j.natAbs < 10 ^ 2000) : wMul (.int i) (.int j) st = .ok (.int (i * j)) st := by
  have hb : (10 : Nat) ^ 2000 < BigN := by decide +kernel
  show (if i.natAbs < BigN ∧ j.natAbs < BigN then An.ok (W.int (i * j)) st else .bad) = _
  rw [if_pos ⟨by omega, by omega⟩]
@[simp] theorem wAdd_int {i j : Int} {st : Sto} : wAdd (.int i) (.int j) st = .ok (.int (i + j)) st := rfl
@[simp] theorem wSub_int {i j : Int} {st : Sto} : wSub (.int i) (.int j) st = .ok (.int (i - j)) st := rfl
theorem cPow_small {i : Int} {j : Int} (h0 : 0 ≤ j) (h1 : j ≤ 100) (h : i.natAbs < 10 ^ 90) : cPow i j = true := by
  have hb : (10 : Nat) ^ 90 < 2 ^ 300 := by decide +kernel
  exact decide_eq_true ⟨h0, h1, by omega⟩
theorem pow60 {st : Sto} : wPow (.int 10) (.int 60) st = .ok (.int (10 ^ 60)) st := wPow_ok (by decide +kernel)
theorem pow18 {st : Sto} : wPow (.int 10) (.int 18) st = .ok (.int 1000000000000000000) st := wPow_ok (by decide +kernel)
theorem pow39 {st : Sto} : wPow (.int 10) (.int 39) st = .ok (.int (10 ^ 39)) st := wPow_ok (by decide +kernel)
theorem pow840 {st : Sto} : wPow (.int (10 ^ 60)) (.int 14) st = .ok (.int ((10 ^ 60) ^ 14)) st := wPow_ok (by decide +kernel)
theorem p840 : (0 : Int) < (10 ^ 60) ^ 14 := by decide +kernel
/-- from the cell on -/
theorem pot_tail {x : W} {st : Sto} {k : Nat} {c : Int} (hk : k ≤ 10 ^ 6) (hc : 0 ≤ c ∧ c < 10 ^ 840) (f : FS) (hf : f [some x, some (.int k), some (.int 0), none] st = .nx [some x, some (.int k), some (.int c), none] st) :
    fSeq (fSet 2 (fC (.int 0))) (fSeq f (fSeq (fSet 3 (fBin wMod (fBin wPow (fBin wAdd (fBin wAdd (fBin wMod (fVar 2) (fC (.int 2147483629))) (fBin wMul (fC (.int 7919)) (fVar 1))) (fC (.int 1))) (fC (.int 5))) (fC (.int 2305843009213693951)))) (fRet (fLst (fCons (fBin wMul (fVar 2) (fCall wInt (fCons (fCmpE wGe (fVar 2) (fBin wPow (fC (.int 10)) (fC (.int 18)))) fNil))) (fCons (fVar 3) (fCons (fC (.int 0)) fNil))))))) [some x, some (.int k), none, none] st = .rt (.ref st.length) (st ++ [.lst [.int (c * (if 1000000000000000000 ≤ c then 1 else 0)), .int (mixOf c k), .int 0]]) := by
  have m0 : 0 ≤ c % 2147483629 := Int.emod_nonneg _ (by omega)
  have m1 : c % 2147483629 < 2147483629 := Int.emod_lt_of_pos _ (by omega)
  have e1 : wMul (.int 7919) (.int (k : Int)) st = .ok (.int (7919 * k)) st := wMul_ok (by decide +kernel) (by
    have : (10 : Nat) ^ 6 < 10 ^ 2000 := by decide +kernel
    omega)
  have e2 : wMod (.int c) (.int 2147483629) st = .ok (.int (c % 2147483629)) st := wMod_ok (by omega)
  have e3 : wPow (.int (c % 2147483629 + 7919 * k + 1)) (.int 5) st = .ok (.int ((c % 2147483629 + 7919 * k + 1) ^ 5)) st := wPow_ok (cPow_small (by omega) (by omega) (by
    have : (10 : Nat) ^ 20 < 10 ^ 90 := by decide +kernel
    omega))
  have e4 : ∀ z : Int, wMod (.int z) (.int 2305843009213693951) st = .ok (.int (z % 2305843009213693951)) st := fun z => wMod_ok (by omega)
  have e5 : wMul (.int c) (.int (if 1000000000000000000 ≤ c then 1 else 0)) st = .ok (.int (c * (if 1000000000000000000 ≤ c then 1 else 0))) st := wMul_ok (by
    have h1 : (10 : Nat) ^ 840 < 10 ^ 2000 := by decide +kernel
    omega) (by
    have h1 : 1 < 10 ^ 2000 := by decide +kernel
    split <;> simp only [Int.natAbs_one, Int.natAbs_zero] <;> omega)
  simp only [fSeq, fSet, fC, An.toS_ok, List.set_cons_succ, List.set_cons_zero, hf, fVar, fCall, fCons, fNil, fBin, List.getElem?_cons_zero, List.getElem?_cons_succ, An.bind_ok, e1, e2, e3, e4, wAdd_int, fCmpE, wGe, wIb, optB_some, pow18, wInt, decide_eq_true_eq, e5, fRet, fLst, mixOf]
  simp
theorem pot_raw {l : List Int} {x : W} {st : Sto} {k : Nat} (hx : getL st x = some (l.map W.int)) (hk : k ≤ 10 ^ 6) :
    potB [some x, some (.int k), none, none] st = .rt (.ref st.length) (st ++ [.lst [.int (cellOf l k * (if 1000000000000000000 ≤ cellOf l k then 1 else 0)), .int (mixOf (cellOf l k) k), .int 0]]) := by
  have hlen := wLen_list hx
  refine pot_tail hk (cellOf_lt l k) _ ?_
  by_cases h : k < l.length
  · have hix := wIx_list hx (k : Int)
    have hat : atI (l.map W.int) (k : Int) = some (.int (l.getD k 0)) := atI_nat (by simp [List.getD, h])
    rw [hat] at hix
    have hlt : ((k : Int) < ((l.map W.int).length : Nat)) := by simpa using h
    simp only [fSet, fIfS, fCmp, fVar, fC, fCall, fCons, fNil, List.getElem?_cons_zero, List.getElem?_cons_succ, An.bind_ok, An.toS_ok, hlen, wLt, wIb, optB_some, hlt, decide_true, if_true, List.set_cons_succ, List.set_cons_zero, fBin, wIxA, hix, wAbs, pow60, pow840, wMod_ok p840, cellOf, h]
  · have hlt : ¬ ((k : Int) < ((l.map W.int).length : Nat)) := by simpa using h
    simp only [fSet, fIfS, fCmp, fVar, fC, fCall, fCons, fNil, List.getElem?_cons_zero, List.getElem?_cons_succ, An.bind_ok, An.toS_ok, hlen, wLt, wIb, optB_some, hlt, decide_false, if_false, fNext, cellOf, h, Bool.false_eq_true]
theorem pot_ok {l : List Int} {x : W} {st : Sto} {k : Nat} (hx : getL st x = some (l.map W.int)) (hk : k ≤ 10 ^ 6) :
    ∃ o, potF [x, .int k] st = .ok (.ref st.length) (st ++ [o]) ∧ Pot (st ++ [o]) st.length 0 := by
  have h := pot_raw hx hk
  obtain ⟨c0, c1⟩ := cellOf_lt l k
  generalize hc : cellOf l k = c at h c0 c1
  refine ⟨.lst [.int (c * (if 1000000000000000000 ≤ c then 1 else 0)), .int (mixOf c k), .int 0], clean_new ?_ (Nat.le_refl _), c * (if 1000000000000000000 ≤ c then 1 else 0), mixOf c k, 0, sto_at, ?_, ?_, ?_, ?_, Int.le_refl _, Int.le_refl _⟩
  · show (match potB [some x, some (.int k), none, none] st with | .nx _ s => An.ok W.non s | .rt w s => .ok w s | .ex C fs _ s => .ex C fs s | _ => .bad) = _
    rw [h]
  · split <;> omega
  · have e9 : (10 : Int) ^ 840 < 10 ^ 900 := by decide +kernel
    split <;> omega
  · exact Int.emod_nonneg _ (by omega)
  · have := Int.emod_lt_of_pos ((c % 2147483629 + 7919 * k + 1) ^ 5) (show (0 : Int) < 2305843009213693951 by omega)
    unfold mixOf
    omega
theorem wIx_at {st : Sto} {n : Nat} {l : List W} (h : st[n]? = some (.lst l)) (i : Int) : wIx (.ref n) (.int i) st = atI l i := wIx_list (by simp only [getL, h]) i
theorem at0 {α : Type} {a b c : α} : atI [a, b, c] 0 = some a := rfl
theorem at1 {α : Type} {a b c : α} : atI [a, b, c] 1 = some b := rfl
theorem at2 {α : Type} {a b c : α} : atI [a, b, c] 2 = some c := rfl
theorem wSet_at {st : Sto} {n j : Nat} {l : List W} {w : W} (h : st[n]? = some (.lst l)) (hj : j < l.length) : wSet (.ref n) (.int j) w st = some (st.set n (.lst (l.set j w))) := by
  simp only [wSet, h]
  have e : ixN l.length (j : Int) = some j := by
    unfold ixN
    rw [if_pos (by omega), if_pos (by omega)]
    simp
  rw [e]
  rfl
theorem set_at {st : Sto} {n : Nat} {o : Ob} (h : n < st.length) : (st.set n o)[n]? = some o := List.getElem?_set_self h
theorem take_raw {st : Sto} {n : Nat} {c many : Int} (P : Pot st n c) (hc : c ≤ 10 ^ 15) (h0 : 0 < many) (h1 : many < 10 ^ 800) :
    ∃ (v a' k' m : Int), takeB [some (.ref n), some (.int many), none, none, none] st = .rt (.int v) (st.set n (.lst [.int a', .int m, .int k'])) ∧ 0 ≤ v ∧ v < many ∧ 0 ≤ a' ∧ a' < 10 ^ 900 ∧ 0 ≤ m ∧ m < 10 ^ 20 ∧ 0 ≤ k' ∧ k' ≤ c + 1 := by
  obtain ⟨a, m, k, hs, a0, a1, m0, m1, k0, k1⟩ := P
  have hl := sto_lt hs
  have ix : ∀ i : Int, wIx (.ref n) (.int i) st = atI [.int a, .int m, .int k] i := wIx_at hs
  have b9 : (10 : Int) ^ 800 < 10 ^ 900 := by decide +kernel
  by_cases ha : 0 < a
  · have e1 : wMod (.int a) (.int many) st = .ok (.int (a % many)) st := wMod_ok h0
    have e2 : wFdiv (.int a) (.int many) st = .ok (.int (a / many)) st := wFdiv_ok h0 (Int.lt_trans h1 b9)
    have e3 : wSet (.ref n) (.int 0) (.int (a / many)) st = some (st.set n (.lst [.int (a / many), .int m, .int k])) := wSet_at (j := 0) hs (by simp)
    refine ⟨a % many, a / many, k, m, ?_, Int.emod_nonneg _ (by omega), Int.emod_lt_of_pos _ h0, Int.ediv_nonneg a0 (by omega), ?_, m0, m1, k0, by omega⟩
    · simp only [takeB, fSeq, fSet, fIfS, fCmp, fVar, fC, fBin, fAsg, gSubW, fRet, wIxA, wGt, wIb, List.getElem?_cons_zero, List.getElem?_cons_succ, An.bind_ok, An.toS_ok, optB_some, ix, at0, at1, at2, ha, decide_true, if_true, e1, e2, e3, List.set_cons_succ, List.set_cons_zero]
    · exact Int.lt_of_le_of_lt (Int.ediv_le_self many a0) a1
  · have ea : a = 0 := by omega
    subst ea
    have e3 : wSet (.ref n) (.int 2) (.int (k + 1)) st = some (st.set n (.lst [.int 0, .int m, .int (k + 1)])) := wSet_at (j := 2) hs (by simp)
    have hs2 : (st.set n (.lst [.int 0, .int m, .int (k + 1)]))[n]? = some (.lst [.int 0, .int m, .int (k + 1)]) := set_at hl
    generalize hS : st.set n (.lst [.int 0, .int m, .int (k + 1)]) = S at e3 hs2
    have ix2 : ∀ i : Int, wIx (.ref n) (.int i) S = atI [.int 0, .int m, .int (k + 1)] i := wIx_at hs2
    have big : (10 : Nat) ^ 30 < 10 ^ 2000 := by decide +kernel
    have big2 : (10 : Nat) ^ 30 < 10 ^ 90 := by decide +kernel
    have e4 : wMul (.int 104729) (.int (k + 1)) S = .ok (.int (104729 * (k + 1))) S := wMul_ok (by omega) (by omega)
    have e5 : wPow (.int (m + 104729 * (k + 1))) (.int 3) S = .ok (.int ((m + 104729 * (k + 1)) ^ 3)) S := wPow_ok (cPow_small (by omega) (by omega) (by omega))
    have e6 : ∀ z : Int, wMod (.int z) (.int 2305843009213693921) S = .ok (.int (z % 2305843009213693921)) S := fun z => wMod_ok (by omega)
    have e7 : ∀ z : Int, wMod (.int z) (.int 65537) S = .ok (.int (z % 65537)) S := fun z => wMod_ok (by omega)
    have e8 : wMul (.int 31) (.int (k + 1)) S = .ok (.int (31 * (k + 1))) S := wMul_ok (by omega) (by omega)
    generalize hz : (m + 104729 * (k + 1)) ^ 3 = z at e5
    have z0 : 0 ≤ z % 2305843009213693921 := Int.emod_nonneg _ (by omega)
    have z1 : z % 2305843009213693921 < 2305843009213693921 := Int.emod_lt_of_pos _ (by omega)
    generalize hy : z % 2305843009213693921 = y at z0 z1
    have e9 : wPow (.int (y + m % 65537 + 31 * (k + 1))) (.int 5) S = .ok (.int ((y + m % 65537 + 31 * (k + 1)) ^ 5)) S := wPow_ok (cPow_small (by omega) (by omega) (by omega))
    generalize hw : (y + m % 65537 + 31 * (k + 1)) ^ 5 = x at e9
    have f1 : ∀ z : Int, wMod (.int z) (.int 2305843009213693907) S = .ok (.int (z % 2305843009213693907)) S := fun z => wMod_ok (by omega)
    have f2 : ∀ z : Int, wFdiv (.int z) (.int 1024) S = .ok (.int (z / 1024)) S := fun z => wFdiv_ok (by omega) (by decide +kernel)
    have f3 : ∀ z : Int, wMod (.int z) (.int many) S = .ok (.int (z % many)) S := fun z => wMod_ok h0
    refine ⟨x % 2305843009213693907 / 1024 % many, 0, k + 1, m, ?_, Int.emod_nonneg _ (by omega), Int.emod_lt_of_pos _ h0, Int.le_refl _, by decide +kernel, m0, m1, by omega, by omega⟩
    rw [hS]
    simp only [takeB, fSeq, fSet, fIfS, fCmp, fVar, fC, fBin, fAsg, gSubW, fRet, fNext, wIxA, wGt, wIb, List.getElem?_cons_zero, List.getElem?_cons_succ, An.bind_ok, An.toS_ok, optB_some, ix, ix2, at0, at1, at2, Int.lt_irrefl, decide_false, if_false, Bool.false_eq_true, e3, e4, e5, e6, e7, e8, hy, e9, f1, f2, f3, hz, hw, List.set_cons_succ, List.set_cons_zero, wAdd_int]
theorem take_ok {st : Sto} {n : Nat} {c many : Int} (P : Pot st n c) (hc : c ≤ 10 ^ 15) (h0 : 0 < many) (h1 : many < 10 ^ 800) :
    ∃ v o, takeF [.ref n, .int many] st = .ok (.int v) (st.set n o) ∧ 0 ≤ v ∧ v < many ∧ (∀ m, closedO m o = true) ∧ Pot (st.set n o) n (c + 1) := by
  obtain ⟨v, a, k, m, h, v0, v1, a0, a1, m0, m1, k0, k1⟩ := take_raw P hc h0 h1
  refine ⟨v, _, clean_put (g := []) ?_ (by simp [closedO, closedL, closedW]) rfl, v0, v1, fun _ => by simp [closedO, closedL, closedW], a, m, k, set_at P.lt, a0, a1, m0, m1, k0, k1⟩
  show (match takeB [some (.ref n), some (.int many), none, none, none] st with | .nx _ s => An.ok W.non s | .rt w s => .ok w s | .ex C fs _ s => .ex C fs s | _ => .bad) = _
  rw [h, List.append_nil]
theorem wAdd_lists {x y : W} {st : Sto} {a b : List W} (h1 : getL st x = some a) (h2 : getL st y = some b) (hl : a.length + b.length ≤ sizeLine) : wAdd x y st = .ok (.ref st.length) (st ++ [.lst (a ++ b)]) := by
  cases x with
  | ref n => cases y <;> first | (simp only [getL] at h2; cases h2; done) | (unfold wAdd; dsimp only; rw [h1, h2]; dsimp only; rw [if_pos hl])
  | rol n => cases y <;> first | (simp only [getL] at h2; cases h2; done) | (unfold wAdd; dsimp only; rw [h1, h2]; dsimp only; rw [if_pos hl])
  | _ => simp [getL] at h1
end Sw

namespace Lw
open PySem PySem.Spec PyProof.Rows L2 Sw
def topS (i : Nat) : Stmt := PySem.Challenge.pw_lodgewalk_k95_errors_by_themselves.main.body.getD i (.Pass ⟨0, 0, 0, 0⟩)
abbrev s_law_pot : Stmt := topS 26
abbrev s_law_take : Stmt := topS 27
abbrev s_law_made : Stmt := topS 28
abbrev s_law_kinds : Stmt := topS 29
abbrev s_law_alone : Stmt := topS 30
abbrev s_law_number : Stmt := topS 32
abbrev s_law_taken : Stmt := topS 31
abbrev s_law : Stmt := topS 33
abbrev s_i_NoDeed : Stmt := inClass (topS 24) 0
def clsL : List Str := ["WalkError", "NoCell", "NoPages", "NoAddress", "NoRoot", "NoPage", "NoProgram", "NoFrames", "NoFrame", "NoHolder", "Held", "NoSlot", "NoRoom", "NoLodge", "Stopped", "Moving", "NoShadow", "NoKept", "TooLate", "NoLetter", "NoPuts", "NoText", "NoLine", "NoDeed"]
def isiT : Tg → Tg → Option Bool := xTab clsL "WalkError"
def isiC : Str → Bool := fun C => decide (C ∈ clsL)
def xmT : Str → Option Bool := xmTab clsL
def xa_number : Str → Bool := fun C => C == "NoDeed"
def gloL : List Str := ["_law_pot", "_law_take", "_law_made", "_law_kinds", "_law_alone", "_law_number", "_law_taken", "law", "WalkError", "NoCell", "NoPages", "NoAddress", "NoRoot", "NoPage", "NoProgram", "NoFrames", "NoFrame", "NoHolder", "Held", "NoSlot", "NoRoom", "NoLodge", "Stopped", "Moving", "NoShadow", "NoKept", "TooLate", "NoLetter", "NoPuts", "NoText", "NoLine", "NoDeed"]
def freeL : List Str := ["ValueError", "abs", "bool", "int", "isinstance", "len", "range"]
def excL : List Str := ["Held", "Moving", "NoAddress", "NoCell", "NoFrame", "NoFrames", "NoHolder", "NoKept", "NoLetter", "NoLine", "NoLodge", "NoPage", "NoPages", "NoProgram", "NoPuts", "NoRoom", "NoRoot", "NoShadow", "NoSlot", "NoText", "Stopped", "TooLate"]
structure Tx (P : Program) (w : World) (K : PySem.W.Frag) (mg : Str → Option Value) (base : Heap) where
  fd_law_pot : FuncData
  F_law_pot : FunD K "_law_pot" "_law_pot" (defArgs s_law_pot) (defBody s_law_pot) (defScope s_law_pot) [] [] (He.ga K "_law_pot") fd_law_pot
  g_law_pot : mg "_law_pot" = some (.ref (He.ga K "_law_pot"))
  b_law_pot : Binds K fd_law_pot ["script", "k"] []
  fd_law_take : FuncData
  F_law_take : FunD K "_law_take" "_law_take" (defArgs s_law_take) (defBody s_law_take) (defScope s_law_take) [] [] (He.ga K "_law_take") fd_law_take
  g_law_take : mg "_law_take" = some (.ref (He.ga K "_law_take"))
  b_law_take : Binds K fd_law_take ["pot", "many"] []
  fd_law_made : FuncData
  F_law_made : FunD K "_law_made" "_law_made" (defArgs s_law_made) (defBody s_law_made) (defScope s_law_made) [] [] (He.ga K "_law_made") fd_law_made
  g_law_made : mg "_law_made" = some (.ref (He.ga K "_law_made"))
  b_law_made : Binds K fd_law_made ["which", "word"] []
  fd_law_kinds : FuncData
  F_law_kinds : FunD K "_law_kinds" "_law_kinds" (defArgs s_law_kinds) (defBody s_law_kinds) (defScope s_law_kinds) [] [] (He.ga K "_law_kinds") fd_law_kinds
  g_law_kinds : mg "_law_kinds" = some (.ref (He.ga K "_law_kinds"))
  b_law_kinds : Binds K fd_law_kinds ["one"] []
  fd_law_alone : FuncData
  F_law_alone : FunD K "_law_alone" "_law_alone" (defArgs s_law_alone) (defBody s_law_alone) (defScope s_law_alone) [] [] (He.ga K "_law_alone") fd_law_alone
  g_law_alone : mg "_law_alone" = some (.ref (He.ga K "_law_alone"))
  b_law_alone : Binds K fd_law_alone ["one", "which"] []
  fd_law_number : FuncData
  F_law_number : FunD K "_law_number" "_law_number" (defArgs s_law_number) (defBody s_law_number) (defScope s_law_number) [] [] (He.ga K "_law_number") fd_law_number
  g_law_number : mg "_law_number" = some (.ref (He.ga K "_law_number"))
  b_law_number : Binds K fd_law_number ["pot"] []
  fd_law_taken : FuncData
  F_law_taken : FunD K "_law_taken" "_law_taken" (defArgs s_law_taken) (defBody s_law_taken) (defScope s_law_taken) [] [] (He.ga K "_law_taken") fd_law_taken
  g_law_taken : mg "_law_taken" = some (.ref (He.ga K "_law_taken"))
  b_law_taken : Binds K fd_law_taken ["number"] []
  fd_law : FuncData
  F_law : FunD K "law" "law" (defArgs s_law) (defBody s_law) (defScope s_law) [] [] (He.ga K "law") fd_law
  g_law : mg "law" = some (.ref (He.ga K "law"))
  b_law : Binds K fd_law ["script"] []
  fd_i_NoDeed : FuncData
  F_i_NoDeed : FunD K "__init__" "NoDeed.__init__" (defArgs s_i_NoDeed) (defBody s_i_NoDeed) (defScope s_i_NoDeed) [] [] (He.ma K (He.ga K "NoDeed") "__init__") fd_i_NoDeed
  b_i_NoDeed : Binds K fd_i_NoDeed ["self", "number"] []
  ox_NoDeed : OexC K (He.ga K "NoDeed")
  ii_NoDeed : PySem.W.findIn K (.ref (He.ga K "NoDeed")) "__init__" = some (some (.ref (He.ma K (He.ga K "NoDeed") "__init__"))) ∧ PySem.W.typeIn K (.ref (He.ma K (He.ga K "NoDeed") "__init__")) = some (.type "function")
  n_ValueError : mg "ValueError" = none
  n_abs : mg "abs" = none
  n_bool : mg "bool" = none
  n_int : mg "int" = none
  n_isinstance : mg "isinstance" = none
  n_len : mg "len" = none
  n_range : mg "range" = none
  g_WalkError : mg "WalkError" = some (.ref (He.ga K "WalkError"))
  g_NoCell : mg "NoCell" = some (.ref (He.ga K "NoCell"))
  g_NoPages : mg "NoPages" = some (.ref (He.ga K "NoPages"))
  g_NoAddress : mg "NoAddress" = some (.ref (He.ga K "NoAddress"))
  g_NoRoot : mg "NoRoot" = some (.ref (He.ga K "NoRoot"))
  g_NoPage : mg "NoPage" = some (.ref (He.ga K "NoPage"))
  g_NoProgram : mg "NoProgram" = some (.ref (He.ga K "NoProgram"))
  g_NoFrames : mg "NoFrames" = some (.ref (He.ga K "NoFrames"))
  g_NoFrame : mg "NoFrame" = some (.ref (He.ga K "NoFrame"))
  g_NoHolder : mg "NoHolder" = some (.ref (He.ga K "NoHolder"))
  g_Held : mg "Held" = some (.ref (He.ga K "Held"))
  g_NoSlot : mg "NoSlot" = some (.ref (He.ga K "NoSlot"))
  g_NoRoom : mg "NoRoom" = some (.ref (He.ga K "NoRoom"))
  g_NoLodge : mg "NoLodge" = some (.ref (He.ga K "NoLodge"))
  g_Stopped : mg "Stopped" = some (.ref (He.ga K "Stopped"))
  g_Moving : mg "Moving" = some (.ref (He.ga K "Moving"))
  g_NoShadow : mg "NoShadow" = some (.ref (He.ga K "NoShadow"))
  g_NoKept : mg "NoKept" = some (.ref (He.ga K "NoKept"))
  g_TooLate : mg "TooLate" = some (.ref (He.ga K "TooLate"))
  g_NoLetter : mg "NoLetter" = some (.ref (He.ga K "NoLetter"))
  g_NoPuts : mg "NoPuts" = some (.ref (He.ga K "NoPuts"))
  g_NoText : mg "NoText" = some (.ref (He.ga K "NoText"))
  g_NoLine : mg "NoLine" = some (.ref (He.ga K "NoLine"))
  g_NoDeed : mg "NoDeed" = some (.ref (He.ga K "NoDeed"))
  x_Held : XCls K mg "Held" (He.ga K "Held")
  x_Moving : XCls K mg "Moving" (He.ga K "Moving")
  x_NoAddress : XCls K mg "NoAddress" (He.ga K "NoAddress")
  x_NoCell : XCls K mg "NoCell" (He.ga K "NoCell")
  x_NoFrame : XCls K mg "NoFrame" (He.ga K "NoFrame")
  x_NoFrames : XCls K mg "NoFrames" (He.ga K "NoFrames")
  x_NoHolder : XCls K mg "NoHolder" (He.ga K "NoHolder")
  x_NoKept : XCls K mg "NoKept" (He.ga K "NoKept")
  x_NoLetter : XCls K mg "NoLetter" (He.ga K "NoLetter")
  x_NoLine : XCls K mg "NoLine" (He.ga K "NoLine")
  x_NoLodge : XCls K mg "NoLodge" (He.ga K "NoLodge")
  x_NoPage : XCls K mg "NoPage" (He.ga K "NoPage")
  x_NoPages : XCls K mg "NoPages" (He.ga K "NoPages")
  x_NoProgram : XCls K mg "NoProgram" (He.ga K "NoProgram")
  x_NoPuts : XCls K mg "NoPuts" (He.ga K "NoPuts")
  x_NoRoom : XCls K mg "NoRoom" (He.ga K "NoRoom")
  x_NoRoot : XCls K mg "NoRoot" (He.ga K "NoRoot")
  x_NoShadow : XCls K mg "NoShadow" (He.ga K "NoShadow")
  x_NoSlot : XCls K mg "NoSlot" (He.ga K "NoSlot")
  x_NoText : XCls K mg "NoText" (He.ga K "NoText")
  x_Stopped : XCls K mg "Stopped" (He.ga K "Stopped")
  x_TooLate : XCls K mg "TooLate" (He.ga K "TooLate")
  isi : Isi ⟨K, mg⟩ isiT isiC
  xm_WalkError : XTryOk ⟨K, mg⟩ "WalkError" xmT
  xf_number : Xfs ⟨K, mg⟩ "number" xa_number
  wi : ClX.CRead K (He.ga K "WalkError") (.type "type") ∧ PySem.W.findCls K (.ref (He.ga K "WalkError")) (.type "type") "__init__" = some (.val (.builtin "ValueError.__init__"))
section
variable {P : Program} {w : World} {K : PySem.W.Frag} {mg : Str → Option Value} {base : Heap}
theorem sc_i_NoDeed : FnScope ["self", "number"] ["self", "number"] (defScope s_i_NoDeed) := ⟨rfl, rfl, rfl, by decide +kernel, rfl, by decide +kernel, by decide +kernel⟩
theorem ok_i_NoDeed (T : Tx P w K mg base) : FnOk P w K mg base (L2.CX P w) 1 (He.ma K (He.ga K "NoDeed") "__init__") T.fd_i_NoDeed ["self", "number"] (spXi "number" (He.ga K "NoDeed")) := T.F_i_NoDeed.ok sc_i_NoDeed spXi_len fun cdv A outer s H vs Q E hr h => ⟨_, pss_cons (ps_expr (pe_winit rfl T.g_WalkError T.wi.1 T.wi.2 (pa_cons (pv 0) (pa_cons pe_str pa_nil)))) (pss_one (ps_ost (pv 0) (pv 1))), xi_end T.ox_NoDeed (xfnone T.xf_number T.g_NoDeed (by decide +kernel)) h⟩
theorem xd_NoDeed (T : Tx P w K mg base) : XdCls K mg base P w "NoDeed" "number" (He.ga K "NoDeed") (He.ma K (He.ga K "NoDeed") "__init__") T.fd_i_NoDeed ["self", "number"] 1 := ⟨T.g_NoDeed, T.ox_NoDeed, T.ii_NoDeed.1, T.ii_NoDeed.2, ok_i_NoDeed T, T.b_i_NoDeed⟩
theorem sc_law_pot : FnScope ["script", "k", "cell", "mixed"] ["script", "k"] (defScope s_law_pot) := ⟨rfl, rfl, rfl, by decide +kernel, rfl, by decide +kernel, by decide +kernel⟩
noncomputable def b_law_pot : FS := (fSeq (fSet 2 (fC (.int 0))) (fSeq (fIfS (fCmp wLt (fVar 1) (fCall wLen (fCons (fVar 0) fNil))) (fSet 2 (fBin wMod (fCall wAbs (fCons (fBin wIxA (fVar 0) (fVar 1)) fNil)) (fBin wPow (fBin wPow (fC (.int 10)) (fC (.int 60))) (fC (.int 14))))) fNext) (fSeq (fSet 3 (fBin wMod (fBin wPow (fBin wAdd (fBin wAdd (fBin wMod (fVar 2) (fC (.int 2147483629))) (fBin wMul (fC (.int 7919)) (fVar 1))) (fC (.int 1))) (fC (.int 5))) (fC (.int 2305843009213693951)))) (fRet (fLst (fCons (fBin wMul (fVar 2) (fCall wInt (fCons (fCmpE wGe (fVar 2) (fBin wPow (fC (.int 10)) (fC (.int 18)))) fNil))) (fCons (fVar 3) (fCons (fC (.int 0)) fNil))))))))
noncomputable def f_law_pot : FF := clean (fRun 4 b_law_pot)
theorem ok_law_pot (T : Tx P w K mg base) : FnW P w K mg base 1 (He.ga K "_law_pot") T.fd_law_pot ["script", "k"] f_law_pot := FnW.clean (fn_WD T.F_law_pot sc_law_pot fun cdv A outer s H E hr tk hp => (s_cons (s_set sc_law_pot.nd e_int) (s_cons (s_if (t_cmp op_lt rb_I (e_var 1) (e_cb cr_lenW rf_len rfl T.n_len (by decide +kernel) (a_cons (e_var 0) a_nil)) (nomark _)) (s_one (s_set sc_law_pot.nd (e_op op_mod rf_mod (e_cb call_abs rf_abs rfl T.n_abs (by decide +kernel) (a_cons (e_ix (e_var 0) (e_var 1)) a_nil)) (e_op op_powW rf_pow (e_op op_powW rf_pow e_int e_int) e_int)))) s_nil) (s_cons (s_set sc_law_pot.nd (e_op op_mod rf_mod (e_op op_powW rf_pow (e_op op_addW rf_add (e_op op_addW rf_add (e_op op_mod rf_mod (e_var 2) e_int) (e_op op_mulA rf_mul e_int (e_var 1))) e_int) e_int) e_int)) (s_one (s_ret (e_lst (a_cons (e_op op_mulA rf_mul (e_var 2) (e_ct call_int1 rf_int rfl T.n_int (by decide +kernel) (a_cons (e_cmp op_ge rb_I (e_var 2) (e_op op_powW rf_pow e_int e_int) (nomark _)) a_nil))) (a_cons (e_var 3) (a_cons e_int a_nil))))))))))
theorem sc_law_take : FnScope ["pot", "many", "one", "other", "found"] ["pot", "many"] (defScope s_law_take) := ⟨rfl, rfl, rfl, by decide +kernel, rfl, by decide +kernel, by decide +kernel⟩
noncomputable def b_law_take : FS := (fSeq (fIfS (fCmp wGt (fBin wIxA (fVar 0) (fC (.int 0))) (fC (.int 0))) (fSeq (fSet 4 (fBin wMod (fBin wIxA (fVar 0) (fC (.int 0))) (fVar 1))) (fSeq (fAsg (fBin wFdiv (fBin wIxA (fVar 0) (fC (.int 0))) (fVar 1)) (gSubW (fVar 0) (fC (.int 0)))) (fRet (fVar 4)))) fNext) (fSeq (fAsg (fBin wAdd (fBin wIxA (fVar 0) (fC (.int 2))) (fC (.int 1))) (gSubW (fVar 0) (fC (.int 2)))) (fSeq (fSet 2 (fBin wMod (fBin wPow (fBin wAdd (fBin wIxA (fVar 0) (fC (.int 1))) (fBin wMul (fC (.int 104729)) (fBin wIxA (fVar 0) (fC (.int 2))))) (fC (.int 3))) (fC (.int 2305843009213693921)))) (fSeq (fSet 3 (fBin wMod (fBin wPow (fBin wAdd (fBin wAdd (fVar 2) (fBin wMod (fBin wIxA (fVar 0) (fC (.int 1))) (fC (.int 65537)))) (fBin wMul (fC (.int 31)) (fBin wIxA (fVar 0) (fC (.int 2))))) (fC (.int 5))) (fC (.int 2305843009213693907)))) (fRet (fBin wMod (fBin wFdiv (fVar 3) (fC (.int 1024))) (fVar 1)))))))
noncomputable def f_law_take : FF := clean (fRun 5 b_law_take)
theorem ok_law_take (T : Tx P w K mg base) : FnW P w K mg base 1 (He.ga K "_law_take") T.fd_law_take ["pot", "many"] f_law_take := FnW.clean (fn_WD T.F_law_take sc_law_take fun cdv A outer s H E hr tk hp => (s_cons (s_if (t_cmp op_gt rb_I (e_ix (e_var 0) e_int) e_int (nomark _)) (s_cons (s_set sc_law_take.nd (e_op op_mod rf_mod (e_ix (e_var 0) e_int) (e_var 1))) (s_cons (s_asg (e_op op_fdivW rf_fdiv (e_ix (e_var 0) e_int) (e_var 1)) (g_sub (Wx := W0) (e_var 0) e_int)) (s_one (s_ret (e_var 4))))) s_nil) (s_cons (s_asg (e_op op_addW rf_add (e_ix (e_var 0) e_int) e_int) (g_sub (Wx := W0) (e_var 0) e_int)) (s_cons (s_set sc_law_take.nd (e_op op_mod rf_mod (e_op op_powW rf_pow (e_op op_addW rf_add (e_ix (e_var 0) e_int) (e_op op_mulA rf_mul e_int (e_ix (e_var 0) e_int))) e_int) e_int)) (s_cons (s_set sc_law_take.nd (e_op op_mod rf_mod (e_op op_powW rf_pow (e_op op_addW rf_add (e_op op_addW rf_add (e_var 2) (e_op op_mod rf_mod (e_ix (e_var 0) e_int) e_int)) (e_op op_mulA rf_mul e_int (e_ix (e_var 0) e_int))) e_int) e_int)) (s_one (s_ret (e_op op_mod rf_mod (e_op op_fdivW rf_fdiv (e_var 3) e_int) (e_var 1)))))))))
theorem sc_law_made : FnScope ["which", "word"] ["which", "word"] (defScope s_law_made) := ⟨rfl, rfl, rfl, by decide +kernel, rfl, by decide +kernel, by decide +kernel⟩
noncomputable def b_law_made : FS := (fSeq (fIfS (fCmp wLt (fVar 0) (fC (.int 6))) (fRet (fBin wIxA (fLst (fCons (fMk "Held" (fVar 1)) (fCons (fMk "Moving" (fVar 1)) (fCons (fMk "NoAddress" (fVar 1)) (fCons (fMk "NoCell" (fVar 1)) (fCons (fMk "NoFrame" (fVar 1)) (fCons (fMk "NoFrames" (fVar 1)) fNil))))))) (fVar 0))) fNext) (fSeq (fIfS (fCmp wLt (fVar 0) (fC (.int 12))) (fRet (fBin wIxA (fLst (fCons (fMk "NoHolder" (fVar 1)) (fCons (fMk "NoKept" (fVar 1)) (fCons (fMk "NoLetter" (fVar 1)) (fCons (fMk "NoLine" (fVar 1)) (fCons (fMk "NoLodge" (fVar 1)) (fCons (fMk "NoPage" (fVar 1)) fNil))))))) (fBin wSub (fVar 0) (fC (.int 6))))) fNext) (fSeq (fIfS (fCmp wLt (fVar 0) (fC (.int 18))) (fRet (fBin wIxA (fLst (fCons (fMk "NoPages" (fVar 1)) (fCons (fMk "NoProgram" (fVar 1)) (fCons (fMk "NoPuts" (fVar 1)) (fCons (fMk "NoRoom" (fVar 1)) (fCons (fMk "NoRoot" (fVar 1)) (fCons (fMk "NoShadow" (fVar 1)) fNil))))))) (fBin wSub (fVar 0) (fC (.int 12))))) fNext) (fRet (fBin wIxA (fLst (fCons (fMk "NoSlot" (fVar 1)) (fCons (fMk "NoText" (fVar 1)) (fCons (fMk "Stopped" (fVar 1)) (fCons (fMk "TooLate" (fVar 1)) fNil))))) (fBin wSub (fVar 0) (fC (.int 18))))))))
noncomputable def f_law_made : FF := clean (fRun 2 b_law_made)
theorem ok_law_made (T : Tx P w K mg base) : FnW P w K mg base 1 (He.ga K "_law_made") T.fd_law_made ["which", "word"] f_law_made := FnW.clean (fn_WD T.F_law_made sc_law_made fun cdv A outer s H E hr tk hp => (s_cons (s_if (t_cmp op_lt rb_I (e_var 0) e_int (nomark _)) (s_one (s_ret (e_ix (e_lst (a_cons (e_mk T.x_Held (e_var 1)) (a_cons (e_mk T.x_Moving (e_var 1)) (a_cons (e_mk T.x_NoAddress (e_var 1)) (a_cons (e_mk T.x_NoCell (e_var 1)) (a_cons (e_mk T.x_NoFrame (e_var 1)) (a_cons (e_mk T.x_NoFrames (e_var 1)) a_nil))))))) (e_var 0)))) s_nil) (s_cons (s_if (t_cmp op_lt rb_I (e_var 0) e_int (nomark _)) (s_one (s_ret (e_ix (e_lst (a_cons (e_mk T.x_NoHolder (e_var 1)) (a_cons (e_mk T.x_NoKept (e_var 1)) (a_cons (e_mk T.x_NoLetter (e_var 1)) (a_cons (e_mk T.x_NoLine (e_var 1)) (a_cons (e_mk T.x_NoLodge (e_var 1)) (a_cons (e_mk T.x_NoPage (e_var 1)) a_nil))))))) (e_op op_sub rf_sub (e_var 0) e_int)))) s_nil) (s_cons (s_if (t_cmp op_lt rb_I (e_var 0) e_int (nomark _)) (s_one (s_ret (e_ix (e_lst (a_cons (e_mk T.x_NoPages (e_var 1)) (a_cons (e_mk T.x_NoProgram (e_var 1)) (a_cons (e_mk T.x_NoPuts (e_var 1)) (a_cons (e_mk T.x_NoRoom (e_var 1)) (a_cons (e_mk T.x_NoRoot (e_var 1)) (a_cons (e_mk T.x_NoShadow (e_var 1)) a_nil))))))) (e_op op_sub rf_sub (e_var 0) e_int)))) s_nil) (s_one (s_ret (e_ix (e_lst (a_cons (e_mk T.x_NoSlot (e_var 1)) (a_cons (e_mk T.x_NoText (e_var 1)) (a_cons (e_mk T.x_Stopped (e_var 1)) (a_cons (e_mk T.x_TooLate (e_var 1)) a_nil))))) (e_op op_sub rf_sub (e_var 0) e_int))))))))
theorem sc_law_kinds : FnScope ["one", "some"] ["one"] (defScope s_law_kinds) := ⟨rfl, rfl, rfl, by decide +kernel, rfl, by decide +kernel, by decide +kernel⟩
noncomputable def b_law_kinds : FS := (fSeq (fSet 1 (fLst (fCons (fCall (wIsi isiT isiC) (fCons (fVar 0) (fCons (fC (.gl "Held")) fNil))) (fCons (fCall (wIsi isiT isiC) (fCons (fVar 0) (fCons (fC (.gl "Moving")) fNil))) (fCons (fCall (wIsi isiT isiC) (fCons (fVar 0) (fCons (fC (.gl "NoAddress")) fNil))) (fCons (fCall (wIsi isiT isiC) (fCons (fVar 0) (fCons (fC (.gl "NoCell")) fNil))) fNil)))))) (fSeq (fSet 1 (fBin wAdd (fVar 1) (fLst (fCons (fCall (wIsi isiT isiC) (fCons (fVar 0) (fCons (fC (.gl "NoFrame")) fNil))) (fCons (fCall (wIsi isiT isiC) (fCons (fVar 0) (fCons (fC (.gl "NoFrames")) fNil))) (fCons (fCall (wIsi isiT isiC) (fCons (fVar 0) (fCons (fC (.gl "NoHolder")) fNil))) fNil)))))) (fSeq (fSet 1 (fBin wAdd (fVar 1) (fLst (fCons (fCall (wIsi isiT isiC) (fCons (fVar 0) (fCons (fC (.gl "NoKept")) fNil))) (fCons (fCall (wIsi isiT isiC) (fCons (fVar 0) (fCons (fC (.gl "NoLetter")) fNil))) (fCons (fCall (wIsi isiT isiC) (fCons (fVar 0) (fCons (fC (.gl "NoLine")) fNil))) fNil)))))) (fSeq (fSet 1 (fBin wAdd (fVar 1) (fLst (fCons (fCall (wIsi isiT isiC) (fCons (fVar 0) (fCons (fC (.gl "NoLodge")) fNil))) (fCons (fCall (wIsi isiT isiC) (fCons (fVar 0) (fCons (fC (.gl "NoPage")) fNil))) (fCons (fCall (wIsi isiT isiC) (fCons (fVar 0) (fCons (fC (.gl "NoPages")) fNil))) fNil)))))) (fSeq (fSet 1 (fBin wAdd (fVar 1) (fLst (fCons (fCall (wIsi isiT isiC) (fCons (fVar 0) (fCons (fC (.gl "NoProgram")) fNil))) (fCons (fCall (wIsi isiT isiC) (fCons (fVar 0) (fCons (fC (.gl "NoPuts")) fNil))) (fCons (fCall (wIsi isiT isiC) (fCons (fVar 0) (fCons (fC (.gl "NoRoom")) fNil))) fNil)))))) (fSeq (fSet 1 (fBin wAdd (fVar 1) (fLst (fCons (fCall (wIsi isiT isiC) (fCons (fVar 0) (fCons (fC (.gl "NoRoot")) fNil))) (fCons (fCall (wIsi isiT isiC) (fCons (fVar 0) (fCons (fC (.gl "NoShadow")) fNil))) (fCons (fCall (wIsi isiT isiC) (fCons (fVar 0) (fCons (fC (.gl "NoSlot")) fNil))) fNil)))))) (fRet (fBin wAdd (fVar 1) (fLst (fCons (fCall (wIsi isiT isiC) (fCons (fVar 0) (fCons (fC (.gl "NoText")) fNil))) (fCons (fCall (wIsi isiT isiC) (fCons (fVar 0) (fCons (fC (.gl "Stopped")) fNil))) (fCons (fCall (wIsi isiT isiC) (fCons (fVar 0) (fCons (fC (.gl "TooLate")) fNil))) (fCons (fCall (wIsi isiT isiC) (fCons (fVar 0) (fCons (fC (.gl "NoDeed")) fNil))) fNil)))))))))))))
noncomputable def f_law_kinds : FF := clean (fRun 2 b_law_kinds)
theorem ok_law_kinds (T : Tx P w K mg base) : FnW P w K mg base 1 (He.ga K "_law_kinds") T.fd_law_kinds ["one"] f_law_kinds := FnW.clean (fn_WD T.F_law_kinds sc_law_kinds fun cdv A outer s H E hr tk hp => (s_cons (s_set sc_law_kinds.nd (e_lst (a_cons (e_cb cr_isiW (rf_isi T.isi) rfl T.n_isinstance (by decide +kernel) (a_cons (e_var 0) (a_cons (e_gl rfl T.g_Held) a_nil))) (a_cons (e_cb cr_isiW (rf_isi T.isi) rfl T.n_isinstance (by decide +kernel) (a_cons (e_var 0) (a_cons (e_gl rfl T.g_Moving) a_nil))) (a_cons (e_cb cr_isiW (rf_isi T.isi) rfl T.n_isinstance (by decide +kernel) (a_cons (e_var 0) (a_cons (e_gl rfl T.g_NoAddress) a_nil))) (a_cons (e_cb cr_isiW (rf_isi T.isi) rfl T.n_isinstance (by decide +kernel) (a_cons (e_var 0) (a_cons (e_gl rfl T.g_NoCell) a_nil))) a_nil)))))) (s_cons (s_set sc_law_kinds.nd (e_op op_addW rf_add (e_var 1) (e_lst (a_cons (e_cb cr_isiW (rf_isi T.isi) rfl T.n_isinstance (by decide +kernel) (a_cons (e_var 0) (a_cons (e_gl rfl T.g_NoFrame) a_nil))) (a_cons (e_cb cr_isiW (rf_isi T.isi) rfl T.n_isinstance (by decide +kernel) (a_cons (e_var 0) (a_cons (e_gl rfl T.g_NoFrames) a_nil))) (a_cons (e_cb cr_isiW (rf_isi T.isi) rfl T.n_isinstance (by decide +kernel) (a_cons (e_var 0) (a_cons (e_gl rfl T.g_NoHolder) a_nil))) a_nil)))))) (s_cons (s_set sc_law_kinds.nd (e_op op_addW rf_add (e_var 1) (e_lst (a_cons (e_cb cr_isiW (rf_isi T.isi) rfl T.n_isinstance (by decide +kernel) (a_cons (e_var 0) (a_cons (e_gl rfl T.g_NoKept) a_nil))) (a_cons (e_cb cr_isiW (rf_isi T.isi) rfl T.n_isinstance (by decide +kernel) (a_cons (e_var 0) (a_cons (e_gl rfl T.g_NoLetter) a_nil))) (a_cons (e_cb cr_isiW (rf_isi T.isi) rfl T.n_isinstance (by decide +kernel) (a_cons (e_var 0) (a_cons (e_gl rfl T.g_NoLine) a_nil))) a_nil)))))) (s_cons (s_set sc_law_kinds.nd (e_op op_addW rf_add (e_var 1) (e_lst (a_cons (e_cb cr_isiW (rf_isi T.isi) rfl T.n_isinstance (by decide +kernel) (a_cons (e_var 0) (a_cons (e_gl rfl T.g_NoLodge) a_nil))) (a_cons (e_cb cr_isiW (rf_isi T.isi) rfl T.n_isinstance (by decide +kernel) (a_cons (e_var 0) (a_cons (e_gl rfl T.g_NoPage) a_nil))) (a_cons (e_cb cr_isiW (rf_isi T.isi) rfl T.n_isinstance (by decide +kernel) (a_cons (e_var 0) (a_cons (e_gl rfl T.g_NoPages) a_nil))) a_nil)))))) (s_cons (s_set sc_law_kinds.nd (e_op op_addW rf_add (e_var 1) (e_lst (a_cons (e_cb cr_isiW (rf_isi T.isi) rfl T.n_isinstance (by decide +kernel) (a_cons (e_var 0) (a_cons (e_gl rfl T.g_NoProgram) a_nil))) (a_cons (e_cb cr_isiW (rf_isi T.isi) rfl T.n_isinstance (by decide +kernel) (a_cons (e_var 0) (a_cons (e_gl rfl T.g_NoPuts) a_nil))) (a_cons (e_cb cr_isiW (rf_isi T.isi) rfl T.n_isinstance (by decide +kernel) (a_cons (e_var 0) (a_cons (e_gl rfl T.g_NoRoom) a_nil))) a_nil)))))) (s_cons (s_set sc_law_kinds.nd (e_op op_addW rf_add (e_var 1) (e_lst (a_cons (e_cb cr_isiW (rf_isi T.isi) rfl T.n_isinstance (by decide +kernel) (a_cons (e_var 0) (a_cons (e_gl rfl T.g_NoRoot) a_nil))) (a_cons (e_cb cr_isiW (rf_isi T.isi) rfl T.n_isinstance (by decide +kernel) (a_cons (e_var 0) (a_cons (e_gl rfl T.g_NoShadow) a_nil))) (a_cons (e_cb cr_isiW (rf_isi T.isi) rfl T.n_isinstance (by decide +kernel) (a_cons (e_var 0) (a_cons (e_gl rfl T.g_NoSlot) a_nil))) a_nil)))))) (s_one (s_ret (e_op op_addW rf_add (e_var 1) (e_lst (a_cons (e_cb cr_isiW (rf_isi T.isi) rfl T.n_isinstance (by decide +kernel) (a_cons (e_var 0) (a_cons (e_gl rfl T.g_NoText) a_nil))) (a_cons (e_cb cr_isiW (rf_isi T.isi) rfl T.n_isinstance (by decide +kernel) (a_cons (e_var 0) (a_cons (e_gl rfl T.g_Stopped) a_nil))) (a_cons (e_cb cr_isiW (rf_isi T.isi) rfl T.n_isinstance (by decide +kernel) (a_cons (e_var 0) (a_cons (e_gl rfl T.g_TooLate) a_nil))) (a_cons (e_cb cr_isiW (rf_isi T.isi) rfl T.n_isinstance (by decide +kernel) (a_cons (e_var 0) (a_cons (e_gl rfl T.g_NoDeed) a_nil))) a_nil)))))))))))))))
theorem sc_law_alone : FnScope ["one", "which", "at"] ["one", "which"] (defScope s_law_alone) := ⟨rfl, rfl, rfl, by decide +kernel, rfl, by decide +kernel, by decide +kernel⟩
noncomputable def b_law_alone : FS := (fSeq (fIfS (fOrT (fNotT (fTru (fCall (wIsi isiT isiC) (fCons (fVar 0) (fCons (fC (.gl "WalkError")) fNil))))) (fNotT (fTru (fCall (wIsi isiT isiC) (fCons (fVar 0) (fCons (fC (.ty "ValueError")) fNil)))))) (fRet (fC (.bl false))) fNext) (fRet (fCmpE wEq (fFn 1 f_law_kinds (fCons (fVar 0) fNil)) (fLc [2] (fIt wRng1 (fCons (fC (.int 23)) fNil)) (bN 2) fYes (fCmpE wEq (fVar 2) (fVar 1))))))
noncomputable def f_law_alone : FF := clean (fRun 3 b_law_alone)
theorem ok_law_alone (T : Tx P w K mg base) : FnW P w K mg base 2 (He.ga K "_law_alone") T.fd_law_alone ["one", "which"] f_law_alone := FnW.clean (fn_WD T.F_law_alone sc_law_alone fun cdv A outer s H E hr tk hp => (s_cons (s_if (PW.pt (t_or (t_not (t_tru (e_cb cr_isiW (rf_isi T.isi) rfl T.n_isinstance (by decide +kernel) (a_cons (e_var 0) (a_cons (e_gl rfl T.g_WalkError) a_nil))))) (t_or1 (t_not (t_tru (e_cb cr_isiW (rf_isi T.isi) rfl T.n_isinstance (by decide +kernel) (a_cons (e_var 0) (a_cons (e_ty rfl T.n_ValueError (by decide +kernel)) a_nil)))))))) (s_one (s_ret e_bl)) s_nil) (s_one (s_ret (e_cmp (op_eqW hr.units) rb_eq (e_fn (ok_law_kinds T) (hr.mono (by decide)) T.g_law_kinds T.F_law_kinds.kp T.b_law_kinds tk (a_cons (e_var 0) a_nil)) (e_lc sc_law_alone.nd (i_rng1 rfl T.n_range (a_cons e_int a_nil)) (blkOk_by (show blkC ["one", "which", "at"] (defScope s_law_alone) _ _ = true by decide +kernel)) (fun _ _ _ _ _ => pg_name (i := 2) sc_law_alone.nd rfl (Or.inl rfl)) (fun _ _ _ _ _ => ts_nil) (fun _ _ _ _ _ => (e_cmp (op_eqW hr.units) rb_eq (e_var 2) (e_var 1) (nomark _)))) (nomark _))))))
theorem sc_law_number : FnScope ["pot", "far"] ["pot"] (defScope s_law_number) := ⟨rfl, rfl, rfl, by decide +kernel, rfl, by decide +kernel, by decide +kernel⟩
noncomputable def b_law_number : FS := (fSeq (fSet 1 (fFn 2 f_law_take (fCons (fVar 0) (fCons (fBin wPow (fC (.int 10)) (fC (.int 39))) fNil)))) (fRet (fBin wIxA (fLst (fCons (fC (.int 0)) (fCons (fC (.int 1)) (fCons (fVar 1) (fCons (fNeg (fVar 1)) fNil))))) (fFn 2 f_law_take (fCons (fVar 0) (fCons (fC (.int 4)) fNil))))))
noncomputable def f_law_number : FF := clean (fRun 2 b_law_number)
theorem ok_law_number (T : Tx P w K mg base) : FnW P w K mg base 2 (He.ga K "_law_number") T.fd_law_number ["pot"] f_law_number := FnW.clean (fn_WD T.F_law_number sc_law_number fun cdv A outer s H E hr tk hp => (s_cons (s_set sc_law_number.nd (e_fn (ok_law_take T) (hr.mono (by decide)) T.g_law_take T.F_law_take.kp T.b_law_take tk (a_cons (e_var 0) (a_cons (e_op op_powW rf_pow e_int e_int) a_nil)))) (s_one (s_ret (e_ix (e_lst (a_cons e_int (a_cons e_int (a_cons (e_var 1) (a_cons (e_neg (e_var 1)) a_nil))))) (e_fn (ok_law_take T) (hr.mono (by decide)) T.g_law_take T.F_law_take.kp T.b_law_take tk (a_cons (e_var 0) (a_cons e_int a_nil))))))))
theorem sc_law_taken : FnScope ["number", "e"] ["number"] (defScope s_law_taken) := ⟨rfl, rfl, rfl, by decide +kernel, rfl, by decide +kernel, by decide +kernel⟩
noncomputable def b_law_taken : FS := (fTryR xmT 1 "NoDeed" "number" (fRaiseD "NoDeed" "number" (fVar 0)))
noncomputable def f_law_taken : FF := clean (fRun 2 b_law_taken)
theorem ok_law_taken (T : Tx P w K mg base) : FnW P w K mg base 3 (He.ga K "_law_taken") T.fd_law_taken ["number"] f_law_taken := FnW.clean (fn_WD T.F_law_taken sc_law_taken fun cdv A outer s H E hr tk hp => (s_one (s_tryR T.xm_WalkError T.xf_number (by decide +kernel) ⟨_, T.g_NoDeed⟩ rfl rfl sc_law_taken.nd tk (fun W pn xe tk hp => (s_one (s_raiseD (xd_NoDeed T) (hr.mono (by decide)) tk (e_var 0) passX))))))
theorem sc_law : FnScope ["script", "k", "pot", "which", "word", "number", "one", "first", "other"] ["script"] (defScope s_law) := ⟨rfl, rfl, rfl, by decide +kernel, rfl, by decide +kernel, by decide +kernel⟩
noncomputable def b_law : FS := (fSeq (fFor (fIt wRng1 (fCons (fBin wAdd (fC (.int 23)) (fCall wLen (fCons (fSl (fVar 0) fNo (fSo (fC (.int 40)))) fNil))) fNil)) (gN 1) (fSeq (fSet 2 (fFn 2 f_law_pot (fCons (fBin wAdd (fBin wMul (fLst (fCons (fC (.int 0)) fNil)) (fC (.int 23))) (fVar 0)) (fCons (fVar 1) fNil)))) (fSeq (fSet 3 (fIf (fCmp wLt (fVar 1) (fC (.int 23))) (fVar 1) (fFn 2 f_law_take (fCons (fVar 2) (fCons (fC (.int 23)) fNil))))) (fSeq (fSet 4 (fBin wIxA (fLst (fCons (fC (.str "")) (fCons (fC (.str "no")) (fCons (fC (.str "a word")) (fCons (fC (.str "x y")) fNil))))) (fFn 2 f_law_take (fCons (fVar 2) (fCons (fC (.int 4)) fNil))))) (fSeq (fSet 5 (fFn 1 f_law_number (fCons (fVar 2) fNil))) (fSeq (fSet 6 (fIf (fCmp wEq (fVar 3) (fC (.int 22))) (fMkD "NoDeed" "number" (fVar 5)) (fFn 2 f_law_made (fCons (fVar 3) (fCons (fVar 4) fNil))))) (fSeq (fIfS (fNotT (fTru (fFn 2 f_law_alone (fCons (fVar 6) (fCons (fVar 3) fNil))))) (fRet (fC (.bl false))) fNext) (fSeq (fSet 7 (fMkD "NoDeed" "number" (fVar 5))) (fSeq (fSet 8 (fMkD "NoDeed" "number" (fBin wAdd (fFn 1 f_law_number (fCons (fVar 2) fNil)) (fC (.int 1))))) (fSeq (fIfS (fOrT (fTru (fCall (wIsi isiT isiC) (fCons (fXf xa_number "number" (fVar 7)) (fCons (fC (.ty "bool")) fNil)))) (fOrT (fCmp wNe (fXf xa_number "number" (fVar 7)) (fVar 5)) (fCmp wNe (fFn 1 f_law_taken (fCons (fVar 5) fNil)) (fVar 5)))) (fRet (fC (.bl false))) fNext) (fIfS (fOrT (fNotT (fTru (fCall (wIsi isiT isiC) (fCons (fXf xa_number "number" (fVar 8)) (fCons (fC (.ty "int")) fNil))))) (fNotT (fTru (fFn 2 f_law_alone (fCons (fVar 8) (fCons (fC (.int 22)) fNil)))))) (fRet (fC (.bl false))) fNext))))))))))) (fRet (fC (.bl true))))
noncomputable def f_law : FF := clean (fRun 9 b_law)
theorem ok_law (T : Tx P w K mg base) : FnW P w K mg base 4 (He.ga K "law") T.fd_law ["script"] f_law := FnW.clean (fn_WD T.F_law sc_law fun cdv A outer s H E hr tk hp => (s_cons (s_for hp (i_rng1 rfl T.n_range (a_cons (e_op op_addW rf_add e_int (e_cb cr_lenW rf_len rfl T.n_len (by decide +kernel) (a_cons (e_sl (e_var 0) o_none (o_some e_int)) a_nil))) a_nil)) (g_name sc_law.nd) (s_cons (s_set sc_law.nd (e_fn (ok_law_pot T) (hr.mono (by decide)) T.g_law_pot T.F_law_pot.kp T.b_law_pot tk (a_cons (e_op op_addW rf_add (e_op op_mulA rf_mul (e_lst (a_cons e_int a_nil)) e_int) (e_var 0)) (a_cons (e_var 1) a_nil)))) (s_cons (s_set sc_law.nd (e_if (t_cmp op_lt rb_I (e_var 1) e_int (nomark _)) (e_var 1) (e_fn (ok_law_take T) (hr.mono (by decide)) T.g_law_take T.F_law_take.kp T.b_law_take tk (a_cons (e_var 2) (a_cons e_int a_nil))))) (s_cons (s_set sc_law.nd (e_ix (e_lst (a_cons e_str (a_cons e_str (a_cons e_str (a_cons e_str a_nil))))) (e_fn (ok_law_take T) (hr.mono (by decide)) T.g_law_take T.F_law_take.kp T.b_law_take tk (a_cons (e_var 2) (a_cons e_int a_nil))))) (s_cons (s_set sc_law.nd (e_fn (ok_law_number T) (hr.mono (by decide)) T.g_law_number T.F_law_number.kp T.b_law_number tk (a_cons (e_var 2) a_nil))) (s_cons (s_set sc_law.nd (e_if (t_cmp (op_eqW hr.units) rb_eq (e_var 3) e_int (nomark _)) (e_mkD (xd_NoDeed T) (hr.mono (by decide)) (e_var 5) passX) (e_fn (ok_law_made T) (hr.mono (by decide)) T.g_law_made T.F_law_made.kp T.b_law_made tk (a_cons (e_var 3) (a_cons (e_var 4) a_nil))))) (s_cons (s_if (t_not (t_tru (e_fn (ok_law_alone T) (hr.mono (by decide)) T.g_law_alone T.F_law_alone.kp T.b_law_alone tk (a_cons (e_var 6) (a_cons (e_var 3) a_nil))))) (s_one (s_ret e_bl)) s_nil) (s_cons (s_set sc_law.nd (e_mkD (xd_NoDeed T) (hr.mono (by decide)) (e_var 5) passX)) (s_cons (s_set sc_law.nd (e_mkD (xd_NoDeed T) (hr.mono (by decide)) (e_op op_addW rf_add (e_fn (ok_law_number T) (hr.mono (by decide)) T.g_law_number T.F_law_number.kp T.b_law_number tk (a_cons (e_var 2) a_nil)) e_int) passX)) (s_cons (s_if (PW.pt (t_or (t_tru (e_cb cr_isiW (rf_isi T.isi) rfl T.n_isinstance (by decide +kernel) (a_cons (e_xf T.xf_number (e_var 7)) (a_cons (e_ty rfl T.n_bool (by decide +kernel)) a_nil)))) (t_or (t_cmp (op_neW hr.units) rb_ne (e_xf T.xf_number (e_var 7)) (e_var 5) (nomark _)) (t_or1 (t_cmp (op_neW hr.units) rb_ne (e_fn (ok_law_taken T) (hr.mono (by decide)) T.g_law_taken T.F_law_taken.kp T.b_law_taken tk (a_cons (e_var 5) a_nil)) (e_var 5) (nomark _)))))) (s_one (s_ret e_bl)) s_nil) (s_one (s_if (PW.pt (t_or (t_not (t_tru (e_cb cr_isiW (rf_isi T.isi) rfl T.n_isinstance (by decide +kernel) (a_cons (e_xf T.xf_number (e_var 8)) (a_cons (e_ty rfl T.n_int (by decide +kernel)) a_nil))))) (t_or1 (t_not (t_tru (e_fn (ok_law_alone T) (hr.mono (by decide)) T.g_law_alone T.F_law_alone.kp T.b_law_alone tk (a_cons (e_var 8) (a_cons e_int a_nil)))))))) (s_one (s_ret e_bl)) s_nil)))))))))))) (s_one (s_ret e_bl))))
theorem ok_law_fd (T : Tx P w K mg base) {fd : FuncData} (F : FunD K "law" "law" (defArgs s_law) (defBody s_law) (defScope s_law) [] [] (He.ga K "law") fd) : FnW P w K mg base 4 (He.ga K "law") fd ["script"] f_law := ok_law { T with fd_law := fd, F_law := F, b_law := FunD.bindsN F fun _ _ _ _ _ _ us hl => match us, hl with | [_], _ => rfl }
end
theorem clsSub : ∀ x ∈ clsL, x ∈ gloL := by decide +kernel
def chk (K : PySem.W.Frag) : Bool := gloB K gloL && (freeB K freeL && ((excL.all fun x => (He.Fa.exc x).ok K) && (isiB K clsL "WalkError" && (exmB K clsL "WalkError" && (xfsB K "NoDeed" "number" && (winitB K (He.ga K "WalkError") && (oexB K (He.ga K "NoDeed") && (initB K "NoDeed"))))))))
def dl : List He.DefD := [⟨("_law_pot", none), "_law_pot", "_law_pot", defArgs s_law_pot, defBody s_law_pot, defScope s_law_pot, [], []⟩, ⟨("_law_take", none), "_law_take", "_law_take", defArgs s_law_take, defBody s_law_take, defScope s_law_take, [], []⟩, ⟨("_law_made", none), "_law_made", "_law_made", defArgs s_law_made, defBody s_law_made, defScope s_law_made, [], []⟩, ⟨("_law_kinds", none), "_law_kinds", "_law_kinds", defArgs s_law_kinds, defBody s_law_kinds, defScope s_law_kinds, [], []⟩, ⟨("_law_alone", none), "_law_alone", "_law_alone", defArgs s_law_alone, defBody s_law_alone, defScope s_law_alone, [], []⟩, ⟨("_law_number", none), "_law_number", "_law_number", defArgs s_law_number, defBody s_law_number, defScope s_law_number, [], []⟩, ⟨("_law_taken", none), "_law_taken", "_law_taken", defArgs s_law_taken, defBody s_law_taken, defScope s_law_taken, [], []⟩, ⟨("law", none), "law", "law", defArgs s_law, defBody s_law, defScope s_law, [], []⟩, ⟨("NoDeed", some "__init__"), "__init__", "NoDeed.__init__", defArgs s_i_NoDeed, defBody s_i_NoDeed, defScope s_i_NoDeed, [], []⟩]
theorem tx_of {P : Program} {w : World} {K : PySem.W.Frag} {h : Heap} {mg : Str → Option Value} {base : Heap} (X : K.In h) (G : h.Ns mainGlobals mg) (s : SaysB chk dl K) : Nonempty (Tx P w K mg base) := by
  obtain ⟨fd0, F0⟩ := s.def_ 0 rfl
  obtain ⟨fd1, F1⟩ := s.def_ 1 rfl
  obtain ⟨fd2, F2⟩ := s.def_ 2 rfl
  obtain ⟨fd3, F3⟩ := s.def_ 3 rfl
  obtain ⟨fd4, F4⟩ := s.def_ 4 rfl
  obtain ⟨fd5, F5⟩ := s.def_ 5 rfl
  obtain ⟨fd6, F6⟩ := s.def_ 6 rfl
  obtain ⟨fd7, F7⟩ := s.def_ 7 rfl
  obtain ⟨fd8, F8⟩ := s.def_ 8 rfl
  obtain ⟨c0, r0⟩ := He.ba s.checked
  obtain ⟨c1, r1⟩ := He.ba r0
  obtain ⟨c2, r2⟩ := He.ba r1
  obtain ⟨c3, r3⟩ := He.ba r2
  obtain ⟨c4, r4⟩ := He.ba r3
  obtain ⟨c5, r5⟩ := He.ba r4
  obtain ⟨c6, r6⟩ := He.ba r5
  obtain ⟨c7, r7⟩ := He.ba r6
  have c8 := r7
  have g : ∀ x, x ∈ gloL → mg x = some (.ref (He.ga K x)) := fun x hx => gloB_ok X G c0 hx
  have n : ∀ x, x ∈ freeL → mg x = none := fun x hx => freeB_ok X G c1 hx
  exact ⟨⟨fd0,
    F0,
    g _ (by decide +kernel),
    FunD.bindsN F0 fun _ _ _ _ _ _ us hl => match us, hl with | [_, _], _ => rfl,
    fd1,
    F1,
    g _ (by decide +kernel),
    FunD.bindsN F1 fun _ _ _ _ _ _ us hl => match us, hl with | [_, _], _ => rfl,
    fd2,
    F2,
    g _ (by decide +kernel),
    FunD.bindsN F2 fun _ _ _ _ _ _ us hl => match us, hl with | [_, _], _ => rfl,
    fd3,
    F3,
    g _ (by decide +kernel),
    FunD.bindsN F3 fun _ _ _ _ _ _ us hl => match us, hl with | [_], _ => rfl,
    fd4,
    F4,
    g _ (by decide +kernel),
    FunD.bindsN F4 fun _ _ _ _ _ _ us hl => match us, hl with | [_, _], _ => rfl,
    fd5,
    F5,
    g _ (by decide +kernel),
    FunD.bindsN F5 fun _ _ _ _ _ _ us hl => match us, hl with | [_], _ => rfl,
    fd6,
    F6,
    g _ (by decide +kernel),
    FunD.bindsN F6 fun _ _ _ _ _ _ us hl => match us, hl with | [_], _ => rfl,
    fd7,
    F7,
    g _ (by decide +kernel),
    FunD.bindsN F7 fun _ _ _ _ _ _ us hl => match us, hl with | [_], _ => rfl,
    fd8,
    F8,
    FunD.bindsN F8 fun _ _ _ _ _ _ us hl => match us, hl with | [_, _], _ => rfl,
    oexB_ok c7,
    initB_ok c8,
    n _ (by decide +kernel),
    n _ (by decide +kernel),
    n _ (by decide +kernel),
    n _ (by decide +kernel),
    n _ (by decide +kernel),
    n _ (by decide +kernel),
    n _ (by decide +kernel),
    g _ (by decide +kernel),
    g _ (by decide +kernel),
    g _ (by decide +kernel),
    g _ (by decide +kernel),
    g _ (by decide +kernel),
    g _ (by decide +kernel),
    g _ (by decide +kernel),
    g _ (by decide +kernel),
    g _ (by decide +kernel),
    g _ (by decide +kernel),
    g _ (by decide +kernel),
    g _ (by decide +kernel),
    g _ (by decide +kernel),
    g _ (by decide +kernel),
    g _ (by decide +kernel),
    g _ (by decide +kernel),
    g _ (by decide +kernel),
    g _ (by decide +kernel),
    g _ (by decide +kernel),
    g _ (by decide +kernel),
    g _ (by decide +kernel),
    g _ (by decide +kernel),
    g _ (by decide +kernel),
    g _ (by decide +kernel),
    xCls_ok (g _ (by decide +kernel)) (List.all_eq_true.mp c2 _ (by decide +kernel)),
    xCls_ok (g _ (by decide +kernel)) (List.all_eq_true.mp c2 _ (by decide +kernel)),
    xCls_ok (g _ (by decide +kernel)) (List.all_eq_true.mp c2 _ (by decide +kernel)),
    xCls_ok (g _ (by decide +kernel)) (List.all_eq_true.mp c2 _ (by decide +kernel)),
    xCls_ok (g _ (by decide +kernel)) (List.all_eq_true.mp c2 _ (by decide +kernel)),
    xCls_ok (g _ (by decide +kernel)) (List.all_eq_true.mp c2 _ (by decide +kernel)),
    xCls_ok (g _ (by decide +kernel)) (List.all_eq_true.mp c2 _ (by decide +kernel)),
    xCls_ok (g _ (by decide +kernel)) (List.all_eq_true.mp c2 _ (by decide +kernel)),
    xCls_ok (g _ (by decide +kernel)) (List.all_eq_true.mp c2 _ (by decide +kernel)),
    xCls_ok (g _ (by decide +kernel)) (List.all_eq_true.mp c2 _ (by decide +kernel)),
    xCls_ok (g _ (by decide +kernel)) (List.all_eq_true.mp c2 _ (by decide +kernel)),
    xCls_ok (g _ (by decide +kernel)) (List.all_eq_true.mp c2 _ (by decide +kernel)),
    xCls_ok (g _ (by decide +kernel)) (List.all_eq_true.mp c2 _ (by decide +kernel)),
    xCls_ok (g _ (by decide +kernel)) (List.all_eq_true.mp c2 _ (by decide +kernel)),
    xCls_ok (g _ (by decide +kernel)) (List.all_eq_true.mp c2 _ (by decide +kernel)),
    xCls_ok (g _ (by decide +kernel)) (List.all_eq_true.mp c2 _ (by decide +kernel)),
    xCls_ok (g _ (by decide +kernel)) (List.all_eq_true.mp c2 _ (by decide +kernel)),
    xCls_ok (g _ (by decide +kernel)) (List.all_eq_true.mp c2 _ (by decide +kernel)),
    xCls_ok (g _ (by decide +kernel)) (List.all_eq_true.mp c2 _ (by decide +kernel)),
    xCls_ok (g _ (by decide +kernel)) (List.all_eq_true.mp c2 _ (by decide +kernel)),
    xCls_ok (g _ (by decide +kernel)) (List.all_eq_true.mp c2 _ (by decide +kernel)),
    xCls_ok (g _ (by decide +kernel)) (List.all_eq_true.mp c2 _ (by decide +kernel)),
    isiB_ok (fun x hx => g x (clsSub x hx)) c3,
    exmB_ok (fun x hx => g x (clsSub x hx)) (g _ (by decide +kernel)) c4,
    xfsB_ok (g _ (by decide +kernel)) c5,
    winitB_ok c6⟩⟩
def looseL : List Str := ["WalkError", "NoCell", "NoPages", "NoAddress", "NoRoot", "NoPage", "NoProgram", "NoFrames", "NoFrame", "NoHolder", "Held", "NoSlot", "NoRoom", "NoLodge", "Stopped", "Moving", "NoShadow", "NoKept", "TooLate", "NoLetter", "NoPuts", "NoText", "NoLine", "NoDeed", "_law_pot", "_law_take", "_law_made", "_law_kinds", "_law_alone", "_law_taken", "_law_number"]
abbrev R : PySem.W.OpenRow := PySem.W.OpenLaw.row PySem.Challenge.rw_lodgewalk_k95_errors_by_themselves
abbrev hk : PySem.W.Hook := hookB 5 chk dl
def ob (s : PySem.W.SharedT) : He.AlD := obsBG 5 chk dl (HandSHeadRun.getT s)
theorem ob_eq (s : PySem.W.SharedT) : ob s = hk.obs s.abs := obsBG_eq (HandSHeadRun.getT_eq s)
end Lw

namespace Lw
open PySem PySem.Spec PyProof.Rows L2 Sw
set_option maxHeartbeats 0
theorem run (w : World) : HandSHeadRun.RunEq R (PySem.W.view R.prog [33]) hk ob 6000 looseL w := by
  intro os
  kernel_rfl
end Lw

namespace Lw
open PySem PySem.Spec PyProof.Rows L2 Sw
def nm : List Str := ["Held", "Moving", "NoAddress", "NoCell", "NoFrame", "NoFrames", "NoHolder", "NoKept", "NoLetter", "NoLine", "NoLodge", "NoPage", "NoPages", "NoProgram", "NoPuts", "NoRoom", "NoRoot", "NoShadow", "NoSlot", "NoText", "Stopped", "TooLate", "NoDeed"]
theorem nm_sub : ∀ x ∈ nm, x ∈ clsL ∧ x ≠ "WalkError" := by decide +kernel
theorem e_pot : f_law_pot = potF := rfl
theorem e_take : f_law_take = takeF := rfl
/-- isinstance of an exception and one of the classes -/
theorem isi_nm {st : Sto} {m : Nat} {C D : Str} {fs : Flds} (h : st[m]? = some (.exc C fs)) (hC : C ∈ nm) (hD : D ∈ nm) : wIsi isiT isiC [.ref m, .gl D] st = .ok (.bl (decide (C = D))) st := by
  have e1 : tgOf isiC st (.ref m) = some (.c C) := by
    simp only [tgOf, h]
    rw [if_pos (show isiC C = true from decide_eq_true (nm_sub C hC).1)]
  have e2 : isiT (.c C) (.c D) = some (decide (C = D)) := by
    show (if C ∈ clsL ∧ D ∈ clsL then some (decide (C = D) || decide (D = "WalkError")) else none) = _
    rw [if_pos ⟨(nm_sub C hC).1, (nm_sub D hD).1⟩, decide_eq_false (nm_sub D hD).2, Bool.or_false]
  simp only [wIsi, e1, tgT, e2]
theorem isi_base {st : Sto} {m : Nat} {C : Str} {fs : Flds} (h : st[m]? = some (.exc C fs)) (hC : C ∈ nm) : wIsi isiT isiC [.ref m, .gl "WalkError"] st = .ok (.bl true) st := by
  have e1 : tgOf isiC st (.ref m) = some (.c C) := by
    simp only [tgOf, h]
    rw [if_pos (show isiC C = true from decide_eq_true (nm_sub C hC).1)]
  have e2 : isiT (.c C) (.c "WalkError") = some true := by
    show (if C ∈ clsL ∧ ("WalkError" : Str) ∈ clsL then some (decide (C = "WalkError") || decide (("WalkError" : Str) = "WalkError")) else none) = _
    rw [if_pos ⟨(nm_sub C hC).1, by decide +kernel⟩]
    simp
  simp only [wIsi, e1, tgT, e2]
theorem isi_ve {st : Sto} {m : Nat} {C : Str} {fs : Flds} (h : st[m]? = some (.exc C fs)) (hC : C ∈ nm) : wIsi isiT isiC [.ref m, .ty "ValueError"] st = .ok (.bl true) st := by
  have e1 : tgOf isiC st (.ref m) = some (.c C) := by
    simp only [tgOf, h]
    rw [if_pos (show isiC C = true from decide_eq_true (nm_sub C hC).1)]
  have e2 : isiT (.c C) (.b "ValueError") = some true := by
    show (if C ∈ clsL then (if "ValueError" = "ValueError" then some true else if "ValueError" ∈ bTs then some false else none) else none) = _
    rw [if_pos (nm_sub C hC).1, if_pos rfl]
  simp only [wIsi, e1, tgT, e2]
/-- isinstance(one, D), .. -/
def isiArgs : List Str → FA
  | [] => fNil
  | D :: Ds => fCons (fCall (wIsi isiT isiC) (fCons (fVar 0) (fCons (fC (.gl D)) fNil))) (isiArgs Ds)
theorem isiArgs_ok {st : Sto} {m : Nat} {C : Str} {fs : Flds} {e : En} (h : st[m]? = some (.exc C fs)) (hC : C ∈ nm) : ∀ {Ds : List Str}, (∀ D ∈ Ds, D ∈ nm) → isiArgs Ds (some (.ref m) :: e) st = .ok ((Ds.map fun D => decide (C = D)).map W.bl) st
  | [], _ => rfl
  | D :: Ds, hD => by
    have ih := isiArgs_ok (e := e) h hC (Ds := Ds) fun x hx => hD x (List.mem_cons_of_mem _ hx)
    have i := isi_nm h hC (hD D List.mem_cons_self)
    simp only [isiArgs, fCons, fCall, fVar, fC, fNil, List.getElem?_cons_zero, An.bind_ok, i, ih, List.map_cons]
/-- a list of truths at a, above st -/
def KAt (st : Sto) (m : Nat) (bs : List Bool) (env : En) (st' : Sto) : Prop := ∃ g a, st' = st ++ g ∧ env = [some (.ref m), some (.ref a)] ∧ st.length ≤ a ∧ st'[a]? = some (.lst (bs.map W.bl))
theorem kadd {st st' : Sto} {m : Nat} {C : Str} {fs : Flds} {bs : List Bool} {env : En} (h : st[m]? = some (.exc C fs)) (hC : C ∈ nm) (K : KAt st m bs env st') {Ds : List Str} (hD : ∀ D ∈ Ds, D ∈ nm) (hl : bs.length + Ds.length ≤ 1000) :
    ∃ a g, fBin wAdd (fVar 1) (fLst (isiArgs Ds)) env st' = .ok (.ref a) (st ++ g) ∧ st.length ≤ a ∧ (st ++ g)[a]? = some (.lst ((bs ++ Ds.map fun D => decide (C = D)).map W.bl)) := by
  obtain ⟨g, a, rfl, rfl, ha, hs⟩ := K
  have ia := isiArgs_ok (e := [some (.ref a)]) (sto_app (g := g) h) hC hD
  have hsz : bs.length + Ds.length ≤ sizeLine := Nat.le_trans hl (by rw [sizeLine_eq]; omega)
  refine ⟨(st ++ g ++ [Ob.lst ((Ds.map fun D => decide (C = D)).map W.bl)]).length, g ++ [.lst ((Ds.map fun D => decide (C = D)).map W.bl)] ++ [.lst ((bs ++ Ds.map fun D => decide (C = D)).map W.bl)], ?_, ?_, ?_⟩
  · have e1 : ((Ds.map fun D => decide (C = D)).map W.bl).length ≤ 1000 := by simp; omega
    have e2 : getL (st ++ g ++ [Ob.lst ((Ds.map fun D => decide (C = D)).map W.bl)]) (.ref a) = some (bs.map W.bl) := by simp only [getL, sto_app hs]
    have e3 : getL (st ++ g ++ [Ob.lst ((Ds.map fun D => decide (C = D)).map W.bl)]) (.ref (st ++ g).length) = some ((Ds.map fun D => decide (C = D)).map W.bl) := by simp only [getL, sto_at]
    have e4 : (bs.map W.bl).length + ((Ds.map fun D => decide (C = D)).map W.bl).length ≤ sizeLine := by simpa using hsz
    simp only [fBin, fVar, fLst, List.getElem?_cons_zero, List.getElem?_cons_succ, An.bind_ok, ia, if_pos e1, wAdd, e2, e3, if_pos e4]
    simp [List.append_assoc]
  · simp
  · have : (st ++ (g ++ [Ob.lst ((Ds.map fun D => decide (C = D)).map W.bl)] ++ [Ob.lst ((bs ++ Ds.map fun D => decide (C = D)).map W.bl)])) = (st ++ g ++ [Ob.lst ((Ds.map fun D => decide (C = D)).map W.bl)]) ++ [Ob.lst ((bs ++ Ds.map fun D => decide (C = D)).map W.bl)] := by simp [List.append_assoc]
    rw [this]
    exact sto_at
theorem kstep {st st' : Sto} {m : Nat} {C : Str} {fs : Flds} {bs : List Bool} {env : En} (h : st[m]? = some (.exc C fs)) (hC : C ∈ nm) (K : KAt st m bs env st') {Ds : List Str} (hD : ∀ D ∈ Ds, D ∈ nm) (hl : bs.length + Ds.length ≤ 1000) :
    ∃ env2 st2, fSet 1 (fBin wAdd (fVar 1) (fLst (isiArgs Ds))) env st' = .nx env2 st2 ∧ KAt st m (bs ++ Ds.map fun D => decide (C = D)) env2 st2 := by
  obtain ⟨a, g, h1, h2, h3⟩ := kadd h hC K hD hl
  obtain ⟨g0, a0, rfl, rfl, _⟩ := K
  exact ⟨_, _, by simp only [fSet, h1, An.toS_ok, List.set_cons_succ, List.set_cons_zero], g, a, rfl, rfl, h2, h3⟩
theorem kinds_text : b_law_kinds = fSeq (fSet 1 (fLst (isiArgs ["Held", "Moving", "NoAddress", "NoCell"]))) (fSeq (fSet 1 (fBin wAdd (fVar 1) (fLst (isiArgs ["NoFrame", "NoFrames", "NoHolder"])))) (fSeq (fSet 1 (fBin wAdd (fVar 1) (fLst (isiArgs ["NoKept", "NoLetter", "NoLine"]))))
  (fSeq (fSet 1 (fBin wAdd (fVar 1) (fLst (isiArgs ["NoLodge", "NoPage", "NoPages"])))) (fSeq (fSet 1 (fBin wAdd (fVar 1) (fLst (isiArgs ["NoProgram", "NoPuts", "NoRoom"])))) (fSeq (fSet 1 (fBin wAdd (fVar 1) (fLst (isiArgs ["NoRoot", "NoShadow", "NoSlot"])))) (fRet (fBin wAdd (fVar 1) (fLst (isiArgs ["NoText", "Stopped", "TooLate", "NoDeed"]))))))))) := rfl
def k0 : List Str := ["Held", "Moving", "NoAddress", "NoCell"]
theorem kinds_raw {st : Sto} {m : Nat} {C : Str} {fs : Flds} (h : st[m]? = some (.exc C fs)) (hC : C ∈ nm) : ∃ g a, b_law_kinds [some (.ref m), none] st = .rt (.ref a) (st ++ g) ∧ st.length ≤ a ∧ (st ++ g)[a]? = some (.lst ((nm.map fun D => decide (C = D)).map W.bl)) := by
  rw [kinds_text]
  have i0 := isiArgs_ok (e := [none]) h hC (Ds := k0) (by decide +kernel)
  have K0 : KAt st m (k0.map fun D => decide (C = D)) [some (.ref m), some (.ref st.length)] (st ++ [.lst ((k0.map fun D => decide (C = D)).map W.bl)]) := ⟨_, _, rfl, rfl, Nat.le_refl _, sto_at⟩
  rw [fSeq_nx (env1 := [some (.ref m), some (.ref st.length)]) (st1 := st ++ [.lst ((k0.map fun D => decide (C = D)).map W.bl)]) (by
    show fSet 1 (fLst (isiArgs k0)) [some (.ref m), none] st = _
    simp only [fSet, fLst, i0, An.bind_ok]
    rfl)]
  obtain ⟨e1, s1, q1, K1⟩ := kstep h hC K0 (Ds := ["NoFrame", "NoFrames", "NoHolder"]) (by decide +kernel) (by simp [k0])
  rw [fSeq_nx q1]
  obtain ⟨e2, s2, q2, K2⟩ := kstep h hC K1 (Ds := ["NoKept", "NoLetter", "NoLine"]) (by decide +kernel) (by simp [k0])
  rw [fSeq_nx q2]
  obtain ⟨e3, s3, q3, K3⟩ := kstep h hC K2 (Ds := ["NoLodge", "NoPage", "NoPages"]) (by decide +kernel) (by simp [k0])
  rw [fSeq_nx q3]
  obtain ⟨e4, s4, q4, K4⟩ := kstep h hC K3 (Ds := ["NoProgram", "NoPuts", "NoRoom"]) (by decide +kernel) (by simp [k0])
  rw [fSeq_nx q4]
  obtain ⟨e5, s5, q5, K5⟩ := kstep h hC K4 (Ds := ["NoRoot", "NoShadow", "NoSlot"]) (by decide +kernel) (by simp [k0])
  rw [fSeq_nx q5]
  obtain ⟨a, g, h1, h2, h3⟩ := kadd h hC K5 (Ds := ["NoText", "Stopped", "TooLate", "NoDeed"]) (by decide +kernel) (by simp [k0])
  exact ⟨g, a, by simp only [fRet, h1, An.toS_ok], h2, h3⟩
theorem kinds_ok {st : Sto} {m : Nat} {C : Str} {fs : Flds} (h : st[m]? = some (.exc C fs)) (hC : C ∈ nm) : ∃ g a, f_law_kinds [.ref m] st = .ok (.ref a) (st ++ g) ∧ (st ++ g)[a]? = some (.lst ((nm.map fun D => decide (C = D)).map W.bl)) := by
  obtain ⟨g, a, h1, h2, h3⟩ := kinds_raw h hC
  refine ⟨g, a, clean_new ?_ h2, h3⟩
  show (match b_law_kinds [some (.ref m), none] st with | .nx _ s => An.ok W.non s | .rt w s => .ok w s | .ex C fs _ s => .ex C fs s | _ => .bad) = _
  rw [h1]
/-- the class of each number -/
theorem alone_ok {st : Sto} {m k : Nat} {C : Str} {fs : Flds} (h : st[m]? = some (.exc C fs)) (hk : nm[k]? = some C) : f_law_alone [.ref m, .int k] st = .ok (.bl true) st := by
  have hC : C ∈ nm := List.mem_of_getElem? hk
  obtain ⟨g, a, h1, h2⟩ := kinds_ok h hC
  have i1 := isi_base h hC
  have i2 := isi_ve h hC
  have hl : fLc [2] (fIt wRng1 (fCons (fC (.int 23)) fNil)) (bN 2) fYes (fCmpE wEq (fVar 2) (fVar 1)) [some (.ref m), some (.int k), none] (st ++ g) = .ok (.ref (st ++ g).length) (st ++ g ++ [.lst ((rngW 0 23).map fun w => match w with | .int i => .bl (decide (i = k)) | w => w)]) := by
    refine fLc_pure (by rfl) (by decide) fun acc w hw => ?_
    obtain ⟨i, _, rfl⟩ := List.mem_map.mp hw
    exact ⟨[some (.ref m), some (.int k), some (.int (0 + (i : Nat)))], by rfl, by simp [fCmpE, fVar, wEq, eqW]⟩
  have e : ((rngW 0 23).map fun w => match w with | .int i => W.bl (decide (i = (k : Int))) | w => w) = ((List.range 23).map fun i : Nat => decide ((i : Int) = k)).map W.bl := by
    simp [rngW, Function.comp_def]
  have e2 : (List.range 23).map (fun i : Nat => decide ((i : Int) = k)) = nm.map fun D => decide (C = D) := by
    have key : ∀ j : Fin 23, (List.range 23).map (fun i : Nat => decide ((i : Int) = (j : Nat))) = nm.map fun D => decide (nm.getD j "" = D) := by decide +kernel
    have hk2 : k < 23 := by
      have := (List.getElem?_eq_some_iff.mp hk).1
      exact this
    have e3 := key ⟨k, hk2⟩
    have e4 : nm.getD k "" = C := by rw [List.getD, hk]; rfl
    rw [e4] at e3
    exact e3
  rw [e, e2] at hl
  have he := eqW_bls (st := st ++ g ++ [.lst ((nm.map fun D => decide (C = D)).map W.bl)]) (n := a) (m := (st ++ g).length) (sto_app h2) sto_at
  refine clean_app' (g ++ [.lst ((nm.map fun D => decide (C = D)).map W.bl)]) ?_ rfl
  show (match b_law_alone [some (.ref m), some (.int k), none] st with | .nx _ s => An.ok W.non s | .rt w s => .ok w s | .ex C fs _ s => .ex C fs s | _ => .bad) = _
  have hr : b_law_alone [some (.ref m), some (.int k), none] st = .rt (.bl true) (st ++ (g ++ [.lst ((nm.map fun D => decide (C = D)).map W.bl)])) := by
    simp only [b_law_alone, fSeq, fIfS, fOrT, fNotT, fTru, fCall, fCons, fNil, fVar, fC, List.getElem?_cons_zero, List.getElem?_cons_succ, An.bind_ok, An.toS_ok, i1, i2, truW, optB_some, Bool.not_true, Bool.false_eq_true, if_false, fNext, fRet, fCmpE, fFn, List.length_cons, List.length_nil, Nat.zero_add, if_true, h1]
    rw [hl]
    simp only [An.bind_ok, wEq, he, optB_some, decide_true, An.toS_ok]
    simp only [List.append_assoc]
  rw [hr]

/-! ### made -/
def mkArgs : List Str → FA
  | [] => fNil
  | D :: Ds => fCons (fMk D (fVar 1)) (mkArgs Ds)
theorem mkArgs_ok {env : En} {w : W} (h : env[1]? = some (some w)) : ∀ {Ds : List Str} {st : Sto}, mkArgs Ds env st = .ok ((List.range Ds.length).map fun i => .ref (st.length + i)) (st ++ Ds.map fun C => .exc C [])
  | [], st => by simp [mkArgs, fNil]
  | D :: Ds, st => by
    have ih := mkArgs_ok h (Ds := Ds) (st := st ++ [.exc D []])
    have e1 : fVar 1 env st = .ok w st := by simp only [fVar, h]
    simp only [mkArgs, fCons, fMk, e1, An.bind_ok, ih]
    simp [List.range_succ_eq_map, Function.comp_def, Nat.add_comm, Nat.add_left_comm]
theorem grp_ok {env : En} {w : W} {st : Sto} {fi : FE} {i : Nat} {Ds : List Str} {C : Str} (h : env[1]? = some (some w)) (hi : ∀ s, fi env s = .ok (.int i) s) (hl : Ds.length ≤ 1000) (hC : Ds[i]? = some C) :
    ∃ m g, fRet (fBin wIxA (fLst (mkArgs Ds)) fi) env st = .rt (.ref m) (st ++ g) ∧ st.length ≤ m ∧ (st ++ g)[m]? = some (.exc C []) := by
  have hlt := (List.getElem?_eq_some_iff.mp hC).1
  refine ⟨st.length + i, (Ds.map fun C => .exc C []) ++ [.lst ((List.range Ds.length).map fun i => .ref (st.length + i))], ?_, Nat.le_add_right _ _, ?_⟩
  · have e1 := mkArgs_ok h (Ds := Ds) (st := st)
    have e2 : ((List.range Ds.length).map fun i => W.ref (st.length + i)).length ≤ 1000 := by simpa using hl
    have e3 : wIx (.ref (st ++ Ds.map fun C => Ob.exc C []).length) (.int i) ((st ++ Ds.map fun C => Ob.exc C []) ++ [.lst ((List.range Ds.length).map fun i => W.ref (st.length + i))]) = some (.ref (st.length + i)) := by
      rw [wIx_at sto_at]
      exact atI_nat (by simp [hlt])
    simp only [fRet, fBin, fLst, e1, An.bind_ok, if_pos e2, hi, wIxA, e3, optB_some, An.toS_ok]
    simp only [List.append_assoc]
  · rw [sto_at1, List.getElem?_append_left (by simpa using hlt), List.getElem?_map, hC]
    rfl
theorem made_text : b_law_made = fSeq (fIfS (fCmp wLt (fVar 0) (fC (.int 6))) (fRet (fBin wIxA (fLst (mkArgs ["Held", "Moving", "NoAddress", "NoCell", "NoFrame", "NoFrames"])) (fVar 0))) fNext)
  (fSeq (fIfS (fCmp wLt (fVar 0) (fC (.int 12))) (fRet (fBin wIxA (fLst (mkArgs ["NoHolder", "NoKept", "NoLetter", "NoLine", "NoLodge", "NoPage"])) (fBin wSub (fVar 0) (fC (.int 6))))) fNext)
  (fSeq (fIfS (fCmp wLt (fVar 0) (fC (.int 18))) (fRet (fBin wIxA (fLst (mkArgs ["NoPages", "NoProgram", "NoPuts", "NoRoom", "NoRoot", "NoShadow"])) (fBin wSub (fVar 0) (fC (.int 12))))) fNext)
  (fRet (fBin wIxA (fLst (mkArgs ["NoSlot", "NoText", "Stopped", "TooLate"])) (fBin wSub (fVar 0) (fC (.int 18))))))) := rfl
theorem made_ok {st : Sto} {k : Nat} {w : W} {C : Str} (hk : k < 22) (hC : nm[k]? = some C) : ∃ m g, f_law_made [.int k, w] st = .ok (.ref m) (st ++ g) ∧ (st ++ g)[m]? = some (.exc C []) := by
  have sub : ∀ (j : Int) (i : Nat), (k : Int) - j = i → ∀ s, fBin wSub (fVar 0) (fC (.int j)) [some (.int k), some w] s = .ok (.int i) s := fun j i e s => by
    simp only [fBin, fVar, fC, List.getElem?_cons_zero, An.bind_ok, wSub_int, e]
  have lt : ∀ (j : Int) s, fCmp wLt (fVar 0) (fC (.int j)) [some (.int k), some w] s = .ok (decide ((k : Int) < j)) s := fun j s => rfl
  have fin : ∀ m g, b_law_made [some (.int k), some w] st = .rt (.ref m) (st ++ g) → st.length ≤ m → f_law_made [.int k, w] st = .ok (.ref m) (st ++ g) := fun m g h hm => by
    refine clean_new ?_ hm
    show (match b_law_made [some (.int k), some w] st with | .nx _ s => An.ok W.non s | .rt w s => .ok w s | .ex C fs _ s => .ex C fs s | _ => .bad) = _
    rw [h]
  have at_ : ∀ (Ds : List Str) (o i : Nat), k = o + i → (nm.drop o).take Ds.length = Ds → i < Ds.length → Ds[i]? = some C := fun Ds o i e hd hi => by
    rw [← hd, List.getElem?_take_of_lt (by simpa [hd] using hi), List.getElem?_drop, ← e]
    exact hC
  by_cases h1 : k < 6
  · obtain ⟨m, g, q1, q2, q3⟩ := grp_ok (env := [some (.int k), some w]) (w := w) (st := st) (fi := fVar 0) (i := k) (Ds := ["Held", "Moving", "NoAddress", "NoCell", "NoFrame", "NoFrames"]) rfl (fun s => rfl) (by decide) (at_ _ 0 k (by omega) (by decide +kernel) (by simpa using h1))
    refine ⟨m, g, fin m g ?_ q2, q3⟩
    rw [made_text]
    simp only [fSeq, fIfS, lt, An.toS_ok, show ((k : Int) < 6) from by omega, decide_true, if_true, q1]
  by_cases h2 : k < 12
  · obtain ⟨m, g, q1, q2, q3⟩ := grp_ok (env := [some (.int k), some w]) (w := w) (st := st) (fi := fBin wSub (fVar 0) (fC (.int 6))) (i := k - 6) (Ds := ["NoHolder", "NoKept", "NoLetter", "NoLine", "NoLodge", "NoPage"]) rfl (sub 6 (k - 6) (by omega)) (by decide) (at_ _ 6 (k - 6) (by omega) (by decide +kernel) (by simp only [List.length_cons, List.length_nil]; omega))
    refine ⟨m, g, fin m g ?_ q2, q3⟩
    rw [made_text]
    simp only [fSeq, fIfS, lt, An.toS_ok, show ¬ ((k : Int) < 6) from by omega, show ((k : Int) < 12) from by omega, decide_true, decide_false, if_true, if_false, Bool.false_eq_true, fNext, q1]
  by_cases h3 : k < 18
  · obtain ⟨m, g, q1, q2, q3⟩ := grp_ok (env := [some (.int k), some w]) (w := w) (st := st) (fi := fBin wSub (fVar 0) (fC (.int 12))) (i := k - 12) (Ds := ["NoPages", "NoProgram", "NoPuts", "NoRoom", "NoRoot", "NoShadow"]) rfl (sub 12 (k - 12) (by omega)) (by decide) (at_ _ 12 (k - 12) (by omega) (by decide +kernel) (by simp only [List.length_cons, List.length_nil]; omega))
    refine ⟨m, g, fin m g ?_ q2, q3⟩
    rw [made_text]
    simp only [fSeq, fIfS, lt, An.toS_ok, show ¬ ((k : Int) < 6) from by omega, show ¬ ((k : Int) < 12) from by omega, show ((k : Int) < 18) from by omega, decide_true, decide_false, if_true, if_false, Bool.false_eq_true, fNext, q1]
  · obtain ⟨m, g, q1, q2, q3⟩ := grp_ok (env := [some (.int k), some w]) (w := w) (st := st) (fi := fBin wSub (fVar 0) (fC (.int 18))) (i := k - 18) (Ds := ["NoSlot", "NoText", "Stopped", "TooLate"]) rfl (sub 18 (k - 18) (by omega)) (by decide) (at_ _ 18 (k - 18) (by omega) (by decide +kernel) (by simp only [List.length_cons, List.length_nil]; omega))
    refine ⟨m, g, fin m g ?_ q2, q3⟩
    rw [made_text]
    simp only [fSeq, fIfS, lt, An.toS_ok, show ¬ ((k : Int) < 6) from by omega, show ¬ ((k : Int) < 12) from by omega, show ¬ ((k : Int) < 18) from by omega, decide_false, if_false, Bool.false_eq_true, fNext, q1]
/-! ### number -/
theorem number_ok {st : Sto} {n : Nat} {c : Int} (P : Pot st n c) (hc : c ≤ 10 ^ 14) : ∃ v o, f_law_number [.ref n] st = .ok (.int v) (st.set n o) ∧ Pot (st.set n o) n (c + 2) := by
  obtain ⟨far, o1, t1, f0, f1, c1, P1⟩ := take_ok P (by omega) (show (0 : Int) < 10 ^ 39 by omega) (by decide +kernel)
  have hn := P.lt
  generalize hS : st.set n o1 = S1 at t1 P1
  have hn1 : n < S1.length := P1.lt
  have hlen : S1.length = st.length := by rw [← hS]; simp
  obtain ⟨v, o2, t2, v0, v1, c2, P2⟩ := take_ok (P1.app (g := [.lst [.int 0, .int 1, .int far, .int (-far)]])) (by omega) (show (0 : Int) < 4 by omega) (by decide +kernel)
  rw [sto_setl hn1] at t2 P2
  have hx : ∃ z : Int, wIx (.ref S1.length) (.int v) (S1.set n o2 ++ [.lst [.int 0, .int 1, .int far, .int (-far)]]) = some (.int z) := by
    have hl2 : S1.length = (S1.set n o2).length := by simp
    rw [hl2, wIx_at sto_at]
    have : v = 0 ∨ v = 1 ∨ v = 2 ∨ v = 3 := by omega
    rcases this with rfl | rfl | rfl | rfl <;> exact ⟨_, rfl⟩
  obtain ⟨z, hx⟩ := hx
  have P3 : Pot (S1.set n o2) n (c + 2) := by
    obtain ⟨a, m, k, h1, h2, h3, h4, h5, h6, h7⟩ := P2
    exact ⟨a, m, k, by rw [List.getElem?_append_left (by simpa using hn1)] at h1; exact h1, h2, h3, h4, h5, h6, by omega⟩
  have e : S1.set n o2 = st.set n o2 := by rw [← hS, List.set_set]
  rw [e] at hx t2 P3
  have cl : closedO st.length o2 = true := c2 _
  refine ⟨z, o2, clean_put (g := [.lst [.int 0, .int 1, .int far, .int (-far)]]) ?_ cl rfl, P3⟩
  show (match b_law_number [some (.ref n), none] st with | .nx _ s => An.ok W.non s | .rt w s => .ok w s | .ex C fs _ s => .ex C fs s | _ => .bad) = _
  have hb : b_law_number [some (.ref n), none] st = .rt (.int z) (st.set n o2 ++ [.lst [.int 0, .int 1, .int far, .int (-far)]]) := by
    have p39 := pow39 (st := st)
    simp only [b_law_number, e_take, fSeq, fSet, fFn, fCons, fNil, fVar, fC, fBin, List.getElem?_cons_zero, List.getElem?_cons_succ, An.bind_ok, p39, List.length_cons, List.length_nil, Nat.zero_add, Nat.reduceAdd, if_true, t1, An.toS_ok, List.set_cons_succ, List.set_cons_zero, fRet, fLst, fNeg, Nat.reduceLeDiff, t2, wIxA, hx, optB_some]
  rw [hb]

/-! ### the law -/
theorem taken_ok {st : Sto} {v : Int} : f_law_taken [.int v] st = .ok (.int v) st := by
  refine clean_id ?_
  show (match b_law_taken [some (.int v), none] st with | .nx _ s => An.ok W.non s | .rt w s => .ok w s | .ex C fs _ s => .ex C fs s | _ => .bad) = _
  have e : xmT "NoDeed" = some true := by decide +kernel
  simp only [b_law_taken, fTryR, fRaiseD, fVar, List.getElem?_cons_zero, An.toS_ok, e]
  rw [if_pos ⟨trivial, by simp⟩]
  simp [List.lookup]
noncomputable def bs0 : FS := (fSet 2 (fFn 2 f_law_pot (fCons (fBin wAdd (fBin wMul (fLst (fCons (fC (.int 0)) fNil)) (fC (.int 23))) (fVar 0)) (fCons (fVar 1) fNil))))
noncomputable def bs1 : FS := (fSet 3 (fIf (fCmp wLt (fVar 1) (fC (.int 23))) (fVar 1) (fFn 2 f_law_take (fCons (fVar 2) (fCons (fC (.int 23)) fNil)))))
noncomputable def bs2 : FS := (fSet 4 (fBin wIxA (fLst (fCons (fC (.str "")) (fCons (fC (.str "no")) (fCons (fC (.str "a word")) (fCons (fC (.str "x y")) fNil))))) (fFn 2 f_law_take (fCons (fVar 2) (fCons (fC (.int 4)) fNil)))))
noncomputable def bs3 : FS := (fSet 5 (fFn 1 f_law_number (fCons (fVar 2) fNil)))
noncomputable def bs4 : FS := (fSet 6 (fIf (fCmp wEq (fVar 3) (fC (.int 22))) (fMkD "NoDeed" "number" (fVar 5)) (fFn 2 f_law_made (fCons (fVar 3) (fCons (fVar 4) fNil)))))
noncomputable def bs5 : FS := (fIfS (fNotT (fTru (fFn 2 f_law_alone (fCons (fVar 6) (fCons (fVar 3) fNil))))) (fRet (fC (.bl false))) fNext)
noncomputable def bs6 : FS := (fSet 7 (fMkD "NoDeed" "number" (fVar 5)))
noncomputable def bs7 : FS := (fSet 8 (fMkD "NoDeed" "number" (fBin wAdd (fFn 1 f_law_number (fCons (fVar 2) fNil)) (fC (.int 1)))))
noncomputable def bs8 : FS := (fIfS (fOrT (fTru (fCall (wIsi isiT isiC) (fCons (fXf xa_number "number" (fVar 7)) (fCons (fC (.ty "bool")) fNil)))) (fOrT (fCmp wNe (fXf xa_number "number" (fVar 7)) (fVar 5)) (fCmp wNe (fFn 1 f_law_taken (fCons (fVar 5) fNil)) (fVar 5)))) (fRet (fC (.bl false))) fNext)
noncomputable def bs9 : FS := (fIfS (fOrT (fNotT (fTru (fCall (wIsi isiT isiC) (fCons (fXf xa_number "number" (fVar 8)) (fCons (fC (.ty "int")) fNil))))) (fNotT (fTru (fFn 2 f_law_alone (fCons (fVar 8) (fCons (fC (.int 22)) fNil)))))) (fRet (fC (.bl false))) fNext)
noncomputable def bodyB : FS := fSeq bs0 (fSeq bs1 (fSeq bs2 (fSeq bs3 (fSeq bs4 (fSeq bs5 (fSeq bs6 (fSeq bs7 (fSeq bs8 (bs9)))))))))
theorem law_text : b_law = fSeq (fFor (fIt wRng1 (fCons (fBin wAdd (fC (.int 23)) (fCall wLen (fCons (fSl (fVar 0) fNo (fSo (fC (.int 40)))) fNil))) fNil)) (gN 1) bodyB) (fRet (fC (.bl true))) := rfl
theorem xa_no : xa_number "NoDeed" = true := by decide +kernel
theorem nm22 : nm[22]? = some ("NoDeed" : Str) := by decide +kernel
theorem body_ok {l : List Int} {k : Nat} (hk : k < 100) (hl : l.length ≤ 63) (e2 e3 e4 e5 e6 e7 e8 : Option W) (st : Sto) :
    ∃ f2 f3 f4 f5 f6 f7 f8 st', bodyB [some (.rol (l.map W.int)), some (.int k), e2, e3, e4, e5, e6, e7, e8] st = .nx [some (.rol (l.map W.int)), some (.int k), f2, f3, f4, f5, f6, f7, f8] st' := by
  -- pot
  have z1 : wMul (.ref st.length) (.int 23) (st ++ [.lst [.int 0]]) = .ok (.ref (st ++ [Ob.lst [.int 0]]).length) (st ++ [.lst [.int 0]] ++ [.lst ((List.replicate 23 0).map W.int)]) := by
    simp only [wMul, sto_at]
    rw [if_pos (by decide)]
    rfl
  have z2 : wAdd (.ref (st ++ [Ob.lst [.int 0]]).length) (.rol (l.map W.int)) (st ++ [.lst [.int 0]] ++ [.lst ((List.replicate 23 0).map W.int)]) = .ok (.ref (st ++ [Ob.lst [.int 0]] ++ [Ob.lst ((List.replicate 23 0).map W.int)]).length) (st ++ [.lst [.int 0]] ++ [.lst ((List.replicate 23 0).map W.int)] ++ [.lst ((List.replicate 23 0 ++ l).map W.int)]) := by
    have g1 : getL (st ++ [Ob.lst [.int 0]] ++ [.lst ((List.replicate 23 0).map W.int)]) (.ref (st ++ [Ob.lst [.int 0]]).length) = some ((List.replicate 23 0).map W.int) := by simp only [getL, sto_at]
    have g2 : ((List.replicate 23 (0 : Int)).map W.int).length + (l.map W.int).length ≤ sizeLine := by
      rw [sizeLine_eq]
      simp
      omega
    rw [wAdd_lists g1 rfl g2, List.map_append]
  generalize hS1 : st ++ [Ob.lst [.int 0]] ++ [.lst ((List.replicate 23 0).map W.int)] ++ [.lst ((List.replicate 23 0 ++ l).map W.int)] = S1 at z2
  have g3 : getL S1 (.ref (st ++ [Ob.lst [.int 0]] ++ [Ob.lst ((List.replicate 23 0).map W.int)]).length) = some ((List.replicate 23 0 ++ l).map W.int) := by
    rw [← hS1]
    simp only [getL, sto_at]
  obtain ⟨o, p1, P1⟩ := pot_ok (k := k) g3 (by omega)
  generalize hS2 : S1 ++ [o] = S2 at p1 P1
  generalize hn : S1.length = n at p1 P1
  have b0 : bs0 [some (.rol (l.map W.int)), some (.int k), e2, e3, e4, e5, e6, e7, e8] st = .nx [some (.rol (l.map W.int)), some (.int k), some (.ref n), e3, e4, e5, e6, e7, e8] S2 := by
    simp only [bs0, e_pot, fSet, fFn, fCons, fNil, fBin, fLst, fC, fVar, List.getElem?_cons_zero, List.getElem?_cons_succ, An.bind_ok, List.length_cons, List.length_nil, Nat.zero_add, Nat.reduceLeDiff, if_true, z1, z2, Nat.reduceAdd, p1, An.toS_ok, List.set_cons_succ, List.set_cons_zero]
  -- which
  obtain ⟨w, S3, hw, b1, P3⟩ : ∃ (w : Nat) (S3 : Sto), w < 23 ∧ bs1 [some (.rol (l.map W.int)), some (.int k), some (.ref n), e3, e4, e5, e6, e7, e8] S2 = .nx [some (.rol (l.map W.int)), some (.int k), some (.ref n), some (.int w), e4, e5, e6, e7, e8] S3 ∧ Pot S3 n 1 := by
    by_cases h : k < 23
    · refine ⟨k, S2, h, ?_, P1.mono (by omega)⟩
      simp only [bs1, fSet, fIf, fCmp, wLt, wIb, fVar, fC, List.getElem?_cons_zero, List.getElem?_cons_succ, An.bind_ok, optB_some, show ((k : Int) < 23) from by omega, decide_true, if_true, An.toS_ok, List.set_cons_succ, List.set_cons_zero]
    · obtain ⟨v, o1, t1, v0, v1, _, P2⟩ := take_ok P1 (by omega) (show (0 : Int) < 23 by omega) (by decide +kernel)
      refine ⟨v.toNat, S2.set n o1, by omega, ?_, P2⟩
      simp only [bs1, e_take, fSet, fIf, fCmp, wLt, wIb, fVar, fC, fFn, fCons, fNil, List.getElem?_cons_zero, List.getElem?_cons_succ, An.bind_ok, optB_some, show ¬ ((k : Int) < 23) from by omega, decide_false, Bool.false_eq_true, if_false, List.length_cons, List.length_nil, Nat.zero_add, Nat.reduceAdd, if_true, t1, An.toS_ok, List.set_cons_succ, List.set_cons_zero, Int.toNat_of_nonneg v0]
  -- word
  obtain ⟨wd, S4, b2, P4⟩ : ∃ (wd : Str) (S4 : Sto), bs2 [some (.rol (l.map W.int)), some (.int k), some (.ref n), some (.int w), e4, e5, e6, e7, e8] S3 = .nx [some (.rol (l.map W.int)), some (.int k), some (.ref n), some (.int w), some (.str wd), e5, e6, e7, e8] S4 ∧ Pot S4 n 2 := by
    obtain ⟨v, o1, t1, v0, v1, _, P2⟩ := take_ok (P3.app (g := [.lst [.str "", .str "no", .str "a word", .str "x y"]])) (by omega) (show (0 : Int) < 4 by omega) (by decide +kernel)
    rw [sto_setl P3.lt] at t1 P2
    have hx : ∃ z : Str, wIx (.ref S3.length) (.int v) (S3.set n o1 ++ [.lst [.str "", .str "no", .str "a word", .str "x y"]]) = some (.str z) := by
      have hl2 : S3.length = (S3.set n o1).length := by simp
      rw [hl2, wIx_at sto_at]
      have : v = 0 ∨ v = 1 ∨ v = 2 ∨ v = 3 := by omega
      rcases this with rfl | rfl | rfl | rfl <;> exact ⟨_, rfl⟩
    obtain ⟨z, hx⟩ := hx
    refine ⟨z, _, ?_, P2⟩
    simp only [bs2, e_take, fSet, fBin, fVar, fC, fFn, fCons, fNil, fLst, List.getElem?_cons_zero, List.getElem?_cons_succ, An.bind_ok, List.length_cons, List.length_nil, Nat.zero_add, Nat.reduceAdd, Nat.reduceLeDiff, if_true, t1, wIxA, hx, optB_some, An.toS_ok, List.set_cons_succ, List.set_cons_zero]
  -- number
  obtain ⟨v, o5, t5, P5⟩ := number_ok P4 (by omega)
  generalize hS5 : S4.set n o5 = S5 at t5 P5
  have b3 : bs3 [some (.rol (l.map W.int)), some (.int k), some (.ref n), some (.int w), some (.str wd), e5, e6, e7, e8] S4 = .nx [some (.rol (l.map W.int)), some (.int k), some (.ref n), some (.int w), some (.str wd), some (.int v), e6, e7, e8] S5 := by
    simp only [bs3, fSet, fFn, fCons, fNil, fVar, List.getElem?_cons_zero, List.getElem?_cons_succ, An.bind_ok, List.length_cons, List.length_nil, Nat.zero_add, if_true, t5, An.toS_ok, List.set_cons_succ, List.set_cons_zero]
  -- one
  obtain ⟨m, S6, C, fs, b4, hm, hC, P6⟩ : ∃ (m : Nat) (S6 : Sto) (C : Str) (fs : Flds), bs4 [some (.rol (l.map W.int)), some (.int k), some (.ref n), some (.int w), some (.str wd), some (.int v), e6, e7, e8] S5 = .nx [some (.rol (l.map W.int)), some (.int k), some (.ref n), some (.int w), some (.str wd), some (.int v), some (.ref m), e7, e8] S6 ∧ S6[m]? = some (.exc C fs) ∧ nm[w]? = some C ∧ Pot S6 n 4 := by
    by_cases h : w = 22
    · subst h
      refine ⟨S5.length, S5 ++ [.exc "NoDeed" [("number", .int v)]], "NoDeed", [("number", .int v)], ?_, sto_at, nm22, P5.app⟩
      simp only [bs4, fSet, fIf, fCmp, wEq, eqW, fVar, fC, fMkD, List.getElem?_cons_zero, List.getElem?_cons_succ, An.bind_ok, optB_some, show ((22 : Nat) : Int) = 22 from rfl, decide_true, if_true, An.toS_ok, List.set_cons_succ, List.set_cons_zero]
    · have hw2 : w < 22 := by omega
      have hC : nm[w]? = some (nm.getD w "") := by
        have : w < nm.length := by show w < 23; omega
        simp [List.getD, this]
      obtain ⟨m, g, q1, q2⟩ := made_ok (st := S5) (w := .str wd) hw2 hC
      refine ⟨m, S5 ++ g, _, [], ?_, q2, hC, P5.app⟩
      simp only [bs4, fSet, fIf, fCmp, wEq, eqW, fVar, fC, fFn, fCons, fNil, List.getElem?_cons_zero, List.getElem?_cons_succ, An.bind_ok, optB_some, show ¬ ((w : Int) = 22) from by omega, decide_false, Bool.false_eq_true, if_false, List.length_cons, List.length_nil, Nat.zero_add, Nat.reduceAdd, if_true, q1, An.toS_ok, List.set_cons_succ, List.set_cons_zero]
  -- alone
  have a6 := alone_ok hm hC
  have b5 : bs5 [some (.rol (l.map W.int)), some (.int k), some (.ref n), some (.int w), some (.str wd), some (.int v), some (.ref m), e7, e8] S6 = .nx [some (.rol (l.map W.int)), some (.int k), some (.ref n), some (.int w), some (.str wd), some (.int v), some (.ref m), e7, e8] S6 := by
    simp only [bs5, fIfS, fNotT, fTru, fFn, fCons, fNil, fVar, List.getElem?_cons_zero, List.getElem?_cons_succ, An.bind_ok, List.length_cons, List.length_nil, Nat.zero_add, Nat.reduceAdd, if_true, a6, truW, optB_some, Bool.not_true, An.toS_ok, Bool.false_eq_true, if_false, fNext]
  -- first
  have b6 : bs6 [some (.rol (l.map W.int)), some (.int k), some (.ref n), some (.int w), some (.str wd), some (.int v), some (.ref m), e7, e8] S6 = .nx [some (.rol (l.map W.int)), some (.int k), some (.ref n), some (.int w), some (.str wd), some (.int v), some (.ref m), some (.ref S6.length), e8] (S6 ++ [.exc "NoDeed" [("number", .int v)]]) := by
    simp only [bs6, fSet, fMkD, fVar, List.getElem?_cons_zero, List.getElem?_cons_succ, An.bind_ok, An.toS_ok, List.set_cons_succ, List.set_cons_zero]
  -- other
  obtain ⟨v2, o7, t7, P7⟩ := number_ok (P6.app (g := [.exc "NoDeed" [("number", .int v)]])) (by omega)
  rw [sto_setl P6.lt] at t7 P7
  have b7 : bs7 [some (.rol (l.map W.int)), some (.int k), some (.ref n), some (.int w), some (.str wd), some (.int v), some (.ref m), some (.ref S6.length), e8] (S6 ++ [.exc "NoDeed" [("number", .int v)]]) = .nx [some (.rol (l.map W.int)), some (.int k), some (.ref n), some (.int w), some (.str wd), some (.int v), some (.ref m), some (.ref S6.length), some (.ref (S6.set n o7 ++ [Ob.exc "NoDeed" [("number", .int v)]]).length)] (S6.set n o7 ++ [.exc "NoDeed" [("number", .int v)]] ++ [.exc "NoDeed" [("number", .int (v2 + 1))]]) := by
    simp only [bs7, fSet, fMkD, fBin, fC, fFn, fCons, fNil, fVar, List.getElem?_cons_zero, List.getElem?_cons_succ, An.bind_ok, List.length_cons, List.length_nil, Nat.zero_add, if_true, t7, wAdd_int, An.toS_ok, List.set_cons_succ, List.set_cons_zero]
  -- their numbers
  generalize hS8 : S6.set n o7 ++ [Ob.exc "NoDeed" [("number", .int v)]] ++ [.exc "NoDeed" [("number", .int (v2 + 1))]] = S8 at b7
  have x1 : S8[S6.length]? = some (.exc "NoDeed" [("number", .int v)]) := by
    rw [← hS8]
    have hl2 : S6.length = (S6.set n o7).length := by simp
    rw [hl2]
    exact sto_app sto_at
  have x2 : S8[(S6.set n o7 ++ [Ob.exc "NoDeed" [("number", .int v)]]).length]? = some (.exc "NoDeed" [("number", .int (v2 + 1))]) := by
    rw [← hS8]
    exact sto_at
  generalize hm2 : (S6.set n o7 ++ [Ob.exc "NoDeed" [("number", .int v)]]).length = m2 at b7 x2
  have lk : ∀ z : W, List.lookup ("number" : Str) [(("number" : Str), z)] = some z := fun z => by simp [List.lookup]
  have i1 : wIsi isiT isiC [.int v, .ty "bool"] S8 = .ok (.bl false) S8 := by
    have e : isiT (.b "int") (.b "bool") = some false := by decide +kernel
    simp only [wIsi, tgOf, tgT, e]
  have i2 : wIsi isiT isiC [.int (v2 + 1), .ty "int"] S8 = .ok (.bl true) S8 := by
    have e : isiT (.b "int") (.b "int") = some true := by decide +kernel
    simp only [wIsi, tgOf, tgT, e]
  have b8 : bs8 [some (.rol (l.map W.int)), some (.int k), some (.ref n), some (.int w), some (.str wd), some (.int v), some (.ref m), some (.ref S6.length), some (.ref m2)] S8 = .nx [some (.rol (l.map W.int)), some (.int k), some (.ref n), some (.int w), some (.str wd), some (.int v), some (.ref m), some (.ref S6.length), some (.ref m2)] S8 := by
    simp only [bs8, fIfS, fOrT, fTru, fCall, fCons, fNil, fXf, fVar, fC, fCmp, wNe, eqW, fFn, List.getElem?_cons_zero, List.getElem?_cons_succ, An.bind_ok, x1, xa_no, if_true, lk, i1, truW, optB_some, Bool.false_eq_true, if_false, decide_true, Option.map_some, Bool.not_true, List.length_cons, List.length_nil, Nat.zero_add, taken_ok, An.toS_ok, fNext]
  have a8 := alone_ok x2 nm22
  have a8' : f_law_alone [.ref m2, .int 22] S8 = .ok (.bl true) S8 := a8
  have b9 : bs9 [some (.rol (l.map W.int)), some (.int k), some (.ref n), some (.int w), some (.str wd), some (.int v), some (.ref m), some (.ref S6.length), some (.ref m2)] S8 = .nx [some (.rol (l.map W.int)), some (.int k), some (.ref n), some (.int w), some (.str wd), some (.int v), some (.ref m), some (.ref S6.length), some (.ref m2)] S8 := by
    simp only [bs9, fIfS, fOrT, fNotT, fTru, fCall, fCons, fNil, fXf, fVar, fC, fFn, List.getElem?_cons_zero, List.getElem?_cons_succ, An.bind_ok, x2, xa_no, if_true, lk, i2, truW, optB_some, Bool.not_true, Bool.false_eq_true, if_false, List.length_cons, List.length_nil, Nat.zero_add, Nat.reduceAdd, a8', An.toS_ok, fNext]
  exact ⟨_, _, _, _, _, _, _, _, by
    unfold bodyB
    rw [fSeq_nx b0, fSeq_nx b1, fSeq_nx b2, fSeq_nx b3, fSeq_nx b4, fSeq_nx b5, fSeq_nx b6, fSeq_nx b7, fSeq_nx b8, b9]⟩
theorem loop_ok {l : List Int} (hl : l.length ≤ 63) : ∀ (items : List Nat), (∀ k ∈ items, k < 100) → ∀ (e1 e2 e3 e4 e5 e6 e7 e8 : Option W) (st : Sto),
    ∃ f1 f2 f3 f4 f5 f6 f7 f8 st', forS none (gN 1) bodyB (items.map fun k : Nat => W.int k) [some (.rol (l.map W.int)), e1, e2, e3, e4, e5, e6, e7, e8] st = .nx [some (.rol (l.map W.int)), f1, f2, f3, f4, f5, f6, f7, f8] st'
  | [], _, e1, e2, e3, e4, e5, e6, e7, e8, st => ⟨e1, e2, e3, e4, e5, e6, e7, e8, st, by simp [forS, gdOk]⟩
  | k :: items, h, e1, e2, e3, e4, e5, e6, e7, e8, st => by
    obtain ⟨f2, f3, f4, f5, f6, f7, f8, st1, hb⟩ := body_ok (h k List.mem_cons_self) hl e2 e3 e4 e5 e6 e7 e8 st
    obtain ⟨g1, g2, g3, g4, g5, g6, g7, g8, st2, hr⟩ := loop_ok hl items (fun x hx => h x (List.mem_cons_of_mem _ hx)) (some (.int k)) f2 f3 f4 f5 f6 f7 f8 st1
    refine ⟨g1, g2, g3, g4, g5, g6, g7, g8, st2, ?_⟩
    simp only [List.map_cons, forS, gdOk, if_true, gN, List.set_cons_succ, List.set_cons_zero, hb]
    exact hr
end Lw

namespace Lw
open PySem PySem.Spec PyProof.Rows L2 Sw
theorem it_2 (q : List W) (hc : q.length ≤ 63) : wRng1 [.int (23 + (q.length : Int))] [.lst q] = .ok ((List.range (23 + q.length)).map fun k : Nat => W.int k, none) [.lst q] := by
  have h : okR 0 (23 + (q.length : Int)) := ⟨by omega, by omega, by omega, by omega⟩
  have e : (23 + (q.length : Int) - 0).toNat = 23 + q.length := by omega
  simp only [wRng1, if_pos h, rngW, e, Int.zero_add]
theorem it_4 (l : List Int) (hl : l.length ≤ 63): (cutL (l.map W.int) none (some 40)).length ≤ 63 := by
  unfold cutL
  simp
  omega
theorem it_3 {x : W} {q : List W} {r : En} (e0 : wSl x none (some 40) [] = .ok (.ref 0) [.lst q]) : (fCall wLen (fCons (fSl (fVar 0) fNo (fSo (fC (.int 40)))) fNil)) (some x :: r) [] = .ok (.int q.length) [.lst q] := by
  simp only [fCall, fCons, fNil, fSl, fVar, fNo, fSo, fC, List.getElem?_cons_zero, An.bind_ok, e0]
  rfl
theorem it_5 {f : FE} {e : En} {i : Int} {st : Sto} (h : f e [] = .ok (.int i) st) : fCons (fBin wAdd (fC (.int 23)) f) fNil e [] = .ok [.int (23 + i)] st := by
  simp only [fCons, fNil, fBin, fC, An.bind_ok, h, wAdd_int]
theorem items_ok (l : List Int) (hl : l.length ≤ 63) : ∃ (n : Nat) (st1 : Sto), n < 100 ∧ fIt wRng1 (fCons (fBin wAdd (fC (.int 23)) (fCall wLen (fCons (fSl (fVar 0) fNo (fSo (fC (.int 40)))) fNil))) fNil) [some (.rol (l.map W.int)), none, none, none, none, none, none, none, none] [] = .ok ((List.range n).map fun k : Nat => W.int k, none) st1 := by
  have hc := it_4 l hl
  have e0 : wSl (.rol (l.map W.int)) none (some 40) [] = .ok (.ref 0) [.lst (cutL (l.map W.int) none (some 40))] := rfl
  refine ⟨23 + (cutL (l.map W.int) none (some 40)).length, [.lst (cutL (l.map W.int) none (some 40))], by omega, ?_⟩
  unfold fIt
  rw [it_5 (it_3 e0), An.bind_ok]
  exact it_2 _ hc
theorem law_ok (l : List Int) (hl : l.length ≤ 63) : ∃ st, f_law [.rol (l.map W.int)] [] = .ok (.bl true) st := by
  have hs := items_ok l hl
  obtain ⟨n, st1, hn, e1⟩ := hs
  obtain ⟨f1, f2, f3, f4, f5, f6, f7, f8, st2, hr⟩ := loop_ok hl (List.range n) (fun k hk => by have := List.mem_range.mp hk; omega) none none none none none none none none st1
  have hb : b_law [some (.rol (l.map W.int)), none, none, none, none, none, none, none, none] [] = .rt (.bl true) st2 := by
    rw [law_text, fSeq_nx (env1 := [some (.rol (l.map W.int)), f1, f2, f3, f4, f5, f6, f7, f8]) (st1 := st2) (by simp only [fFor, e1, An.toS_ok]; exact hr)]
    simp only [fRet, fC, An.toS_ok]
  have hst : Sw.start 9 [.rol (l.map W.int)] = [some (.rol (l.map W.int)), none, none, none, none, none, none, none, none] := by
    unfold Sw.start
    simp [List.replicate]
  have hraw : fRun 9 b_law [.rol (l.map W.int)] [] = .ok (.bl true) st2 := fRun_rt hst hb
  have hsh : Shut ([] : Sto).length [] st2 := ⟨Nat.zero_le _, fun i o hi => absurd hi (Nat.not_lt_zero i)⟩
  exact ⟨_, clean_eq hraw hsh rfl⟩
end Lw

namespace Lw
open PySem PySem.Spec PyProof.Rows L2 Sw
theorem fin_ok {P : Program} {w : World} {K : PySem.W.Frag} {h : Heap} {mg : Str → Option Value} {fa : Addr} (KX : K.In h) (G : h.Ns mainGlobals mg) (c : SaysB chk dl K) (hmg : mg ("law" : Str) = some (.ref fa)) :
    ∃ (K : PySem.W.Frag) (fd : FuncData) (sp : Sp), K.In h ∧ (∀ (s : Shared) (u : Value), BindsTo s fd ⟨[u], []⟩ [("script", u)]) ∧
        (∀ (H : Hp) (a : Addr) (ns : List Int), ns.length ≤ 63 → Only H → SqL K H a (ns.map V.int) → sp [.ref a] H (fun v _ => v = .bl true) fun _ _ _ => False) ∧
        ∀ base : Heap, K.In base → base.Ns mainGlobals mg → FnOk P w K mg base (L2.CX P w) 4 fa fd ["script"] sp := by
  obtain ⟨fd, F⟩ := c.def_ 7 rfl
  have ga : mg ("law" : Str) = some (.ref (He.ga K "law")) := gloB_ok KX G (He.ba c.checked).1 (by decide +kernel)
  have e := hmg.symm.trans ga
  cases e
  have b := FunD.bindsA (ps := ["script"]) F fun _ _ _ _ _ _ us hl => match us, hl with | [_], _ => rfl
  refine ⟨K, fd, spF ⟨K, mg⟩ 1 f_law, KX, fun s u => b s [u] rfl, fun H a ns hl hO hS => sp_law hO hS (law_ok ns hl), fun base _ _ => ?_⟩
  obtain ⟨T⟩ := tx_of (P := P) (w := w) (base := base) KX G c
  exact ok_law_fd T F
end Lw
open PySem PySem.W PySem.Calls PyProof.Rows
set_option maxHeartbeats 0
theorem PySem.Challenge.cw_lodgewalk_k95_errors_by_themselves_holds : PySem.Challenge.rw_lodgewalk_k95_errors_by_themselves.Holds := by
  w_on; o_law
  refine HandSHeadRun.head_any (r := Lw.R) (q := view Lw.R.prog [33]) (H := Lw.hk) (ob := Lw.ob) (M := 6000) (loose := Lw.looseL) (d := HandSHeadRun.topDef Lw.R.prog 33) (kwd := []) Lw.ob_eq
    (by kernel_rfl) (fun s => by kernel_rfl) Lw.run (by kernel_rfl) (by kernel_rfl) (by kernel_rfl) (by rfl) (by first | assumption | decide +kernel) (by decide +kernel) ⟨rfl, rfl, rfl, rfl, rfl, by decide +kernel⟩ ?hw ?hc
  case hw => w_witness2
  case hc =>
    refine Sw.walk_ofW (l := PySem.Challenge.rw_lodgewalk_k95_errors_by_themselves) (n := 63) (k := 4) (x := "script") rfl (by decide) (by kernel_rfl) ⟨rfl, by decide, by decide⟩ ?F
    intro w mg fa h Y G hmg0
    obtain ⟨K, KX, c⟩ := Y
    have hmg : mg ("law" : PySem.Str) = some (.ref fa) := by
      have e : (HandSHeadRun.topDef Lw.R.prog 33).name = ("law" : PySem.Str) := by kernel_rfl
      rw [← e]
      exact hmg0
    exact Lw.fin_ok KX G c hmg
