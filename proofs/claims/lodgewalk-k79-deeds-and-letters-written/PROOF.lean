import PyProof.Rows.All
import Wide.All
import OpenK.AllK
import Wide.FinOn
import HandS.ForMost
import HandS.ForExc
import HandS.CallSlots
import HandS.TupAny
import HandS.TupMul
import HandS.Wide
import HandS.Flow
import HandS.IsInst
import HandS.Deep
import HandS.Style
import HandS.Defaults
import HandS.IntHex
import HandS.RaiseMore
import HandS.RevRange
import KE.GoesEnum
import HandS.Iter
import HandS.Zip
import HandS.Conv
import HandS.SortInts
import HandS.ExcIs
import HandS.ExcValue
import HandS.ExcInit
import HandS.ExcField
import HandS.TryOnly
import HandS.ClsMeth
import HandS.Head0
import HandS.Head1
import HandS.Head2
import HandS.HeadEnd
import HandS.HeadHook1
import HandS.HeadHook2
import KE.KUnpack
import PyProof.CollectIter
import HandS.Text
import HandS.Codes
import HandS.MapJoin
import HandS.SetFor
import HandS.More
import HandS.NoneIn
import HandS.HeadHook3
import KE.KUnpackStar
import HandS.Strs
import PySem.Challenge.RW_lodgewalk_k79_deeds_and_letters_written
set_option Elab.async false
set_option linter.all false
set_option maxRecDepth 100000
set_option maxHeartbeats 4000000
/-! Sw1: plain values, a plain store, and the readings of HandS by plain functions over them. -/
namespace Sw
open PySem PySem.Spec PyProof.Rows L2

/-! ### plain values, plain objects -/
inductive W where
  | non | bl (b : Bool) | int (i : Int) | str (x : Str) | tup (l : List W) | rol (l : List W) | ref (n : Nat) | gl (x : Str) | ty (n : String)
abbrev Flds := List (Str × W)
inductive Ob where
  | lst (l : List W) | dct (l : List (Key × W)) | ins (C : Str) (fs : Flds) | exc (C : Str) (fs : Flds)
abbrev Sto := List Ob
abbrev En := List (Option W)

/-- what the module's names hold -/
structure Gx where
  K : PySem.W.Frag
  mg : Str → Option Value

/-- a list that nobody changes -/
def Rol (K : PySem.W.Frag) (H : Hp) (a : Addr) (xs : List V) : Prop :=
  (∃ o, H a = some (.frz o (.lst xs))) ∨
    ∃ (o : Obj) (its : Array Value) (n : Nat), K.lookup a = some o ∧ o.cls = .type "list" ∧ o.dict = none ∧ o.data = .seq its n ∧ its.size ≤ sizeLine ∧ Vals xs its.toList
theorem Rol.sq {K : PySem.W.Frag} {H : Hp} {a : Addr} {xs : List V} (h : Rol K H a xs) : SqL K H a xs := by
  rcases h with h | h
  · exact .inl (.inr h)
  · exact .inr h

mutual
inductive Rep (G : Gx) (r : List Addr) (H : Hp) : W → V → Prop
  | non : Rep G r H .non .non
  | bl (b : Bool) : Rep G r H (.bl b) (.bl b)
  | int (i : Int) : Rep G r H (.int i) (.int i)
  | str (x : Str) : Rep G r H (.str x) (.str x)
  | ty (n : String) : Rep G r H (.ty n) (.ty n)
  | tup {l : List W} {a : Addr} {vs : List V} (h : SqT G.K H a vs) (k : RepL G r H l vs) : Rep G r H (.tup l) (.ref a)
  | rol {l : List W} {a : Addr} {vs : List V} (h : Rol G.K H a vs) (k : RepL G r H l vs) : Rep G r H (.rol l) (.ref a)
  | ref {n : Nat} {a : Addr} (h : r[n]? = some a) : Rep G r H (.ref n) (.ref a)
  | gl {x : Str} {a : Addr} (h : G.mg x = some (.ref a)) : Rep G r H (.gl x) (.ref a)
inductive RepL (G : Gx) (r : List Addr) (H : Hp) : List W → List V → Prop
  | nil : RepL G r H [] []
  | cons {w : W} {v : V} {ws : List W} {vs : List V} (h : Rep G r H w v) (k : RepL G r H ws vs) : RepL G r H (w :: ws) (v :: vs)
end

/-- what never changes -/
def Stay (H H' : Hp) : Prop := ∀ a, (∀ xs, H a = some (.tup xs) → H' a = some (.tup xs)) ∧ (∀ o u, H a = some (.frz o u) → H' a = some (.frz o u))
theorem Stay.refl (H : Hp) : Stay H H := fun _ => ⟨fun _ h => h, fun _ _ h => h⟩
theorem Stay.trans {H H1 H2 : Hp} (a : Stay H H1) (b : Stay H1 H2) : Stay H H2 := fun x => ⟨fun xs h => (b x).1 xs ((a x).1 xs h), fun o u h => (b x).2 o u ((a x).2 o u h)⟩
theorem Stay.new {H : Hp} {p : Addr} {o : HO} (h : H p = none) : Stay H (upd H p o) := fun a => ⟨fun xs e => by rw [upd_ne (ne_of_none e h)]; exact e, fun o' u e => by rw [upd_ne (ne_of_none e h)]; exact e⟩
theorem Stay.lst {H : Hp} {p : Addr} {xs : List V} {o : HO} (h : H p = some (.lst xs)) : Stay H (upd H p o) := fun a =>
  ⟨fun ys e => by rw [upd_ne (ne_of e h (by intro z; cases z))]; exact e, fun o' u e => by rw [upd_ne (ne_of e h (by intro z; cases z))]; exact e⟩
theorem Stay.dK {H : Hp} {p : Addr} {xs : List (Key × V)} {o : HO} (h : H p = some (.dK xs)) : Stay H (upd H p o) := fun a =>
  ⟨fun ys e => by rw [upd_ne (ne_of e h (by intro z; cases z))]; exact e, fun o' u e => by rw [upd_ne (ne_of e h (by intro z; cases z))]; exact e⟩
theorem Stay.ins {H : Hp} {p : Addr} {C dx : Addr} {fs : List (Str × V)} {o : HO} (h : H p = some (.ins C dx fs)) : Stay H (upd H p o) := fun a =>
  ⟨fun ys e => by rw [upd_ne (ne_of e h (by intro z; cases z))]; exact e, fun o' u e => by rw [upd_ne (ne_of e h (by intro z; cases z))]; exact e⟩
theorem Stay.rd {H H' : Hp} (s : Stay H H') {a : Addr} {xs : List V} (h : Rd H a (.tup xs)) : Rd H' a (.tup xs) := by
  rcases h with h | ⟨o, h⟩
  · exact .inl ((s a).1 _ h)
  · exact .inr ⟨o, (s a).2 _ _ h⟩
theorem Stay.sqt {K : PySem.W.Frag} {H H' : Hp} (s : Stay H H') {a : Addr} {xs : List V} (h : SqT K H a xs) : SqT K H' a xs := by
  rcases h with h | h
  · exact .inl (s.rd h)
  · exact .inr h
theorem Stay.rol {K : PySem.W.Frag} {H H' : Hp} (s : Stay H H') {a : Addr} {xs : List V} (h : Rol K H a xs) : Rol K H' a xs := by
  rcases h with ⟨o, h⟩ | h
  · exact .inl ⟨o, (s a).2 _ _ h⟩
  · exact .inr h

structure Grow (r : List Addr) (H : Hp) (r' : List Addr) (H' : Hp) : Prop where
  pre : ∃ t, r' = r ++ t
  stay : Stay H H'
theorem Grow.refl (r : List Addr) (H : Hp) : Grow r H r H := ⟨⟨[], by simp⟩, Stay.refl H⟩
theorem Grow.trans {r r1 r2 : List Addr} {H H1 H2 : Hp} (a : Grow r H r1 H1) (b : Grow r1 H1 r2 H2) : Grow r H r2 H2 := by
  obtain ⟨⟨t, rfl⟩, s⟩ := a
  obtain ⟨⟨u, rfl⟩, s'⟩ := b
  exact ⟨⟨t ++ u, by simp⟩, s.trans s'⟩
theorem Grow.same {r : List Addr} {H H' : Hp} (s : Stay H H') : Grow r H r H' := ⟨⟨[], by simp⟩, s⟩
theorem Grow.one {r : List Addr} {H H' : Hp} {a : Addr} (s : Stay H H') : Grow r H (r ++ [a]) H' := ⟨⟨[a], rfl⟩, s⟩
theorem Grow.at {r r' : List Addr} {H H' : Hp} (g : Grow r H r' H') {n : Nat} {a : Addr} (h : r[n]? = some a) : r'[n]? = some a := by
  obtain ⟨t, rfl⟩ := g.pre
  rw [List.getElem?_append_left (List.getElem?_eq_some_iff.mp h).1]
  exact h
mutual
theorem Rep.grow {G : Gx} {r r' : List Addr} {H H' : Hp} (g : Grow r H r' H') : ∀ {w : W} {v : V}, Rep G r H w v → Rep G r' H' w v
  | _, _, .non => .non
  | _, _, .bl b => .bl b
  | _, _, .int b => .int b
  | _, _, .str b => .str b
  | _, _, .ty b => .ty b
  | _, _, .tup h k => .tup (g.stay.sqt h) (RepL.grow g k)
  | _, _, .rol h k => .rol (g.stay.rol h) (RepL.grow g k)
  | _, _, .ref h => .ref (g.at h)
  | _, _, .gl h => .gl h
theorem RepL.grow {G : Gx} {r r' : List Addr} {H H' : Hp} (g : Grow r H r' H') : ∀ {ws : List W} {vs : List V}, RepL G r H ws vs → RepL G r' H' ws vs
  | _, _, .nil => .nil
  | _, _, .cons h k => .cons (Rep.grow g h) (RepL.grow g k)
end
section
variable {G : Gx} {r : List Addr} {H : Hp}
theorem RepL.length : ∀ {ws : List W} {vs : List V}, RepL G r H ws vs → ws.length = vs.length
  | _, _, .nil => rfl
  | _, _, .cons _ k => by simp [RepL.length k]
theorem RepL.get : ∀ {ws : List W} {vs : List V} {i : Nat} {w : W}, RepL G r H ws vs → ws[i]? = some w → ∃ v, vs[i]? = some v ∧ Rep G r H w v
  | _, _, _, _, .nil, e => by simp at e
  | _, _, 0, _, .cons h _, e => by simp at e; subst e; exact ⟨_, rfl, h⟩
  | _, _, i + 1, _, .cons _ k, e => by
    obtain ⟨v, h1, h2⟩ := RepL.get (i := i) k (by simpa using e)
    exact ⟨v, by simpa using h1, h2⟩
theorem RepL.getV : ∀ {ws : List W} {vs : List V} {i : Nat} {v : V}, RepL G r H ws vs → vs[i]? = some v → ∃ w, ws[i]? = some w ∧ Rep G r H w v
  | _, _, _, _, .nil, e => by simp at e
  | _, _, 0, _, .cons h _, e => by simp at e; subst e; exact ⟨_, rfl, h⟩
  | _, _, i + 1, _, .cons _ k, e => by
    obtain ⟨w, h1, h2⟩ := RepL.getV (i := i) k (by simpa using e)
    exact ⟨w, by simpa using h1, h2⟩
theorem RepL.append : ∀ {ws : List W} {vs : List V} {ws' : List W} {vs' : List V}, RepL G r H ws vs → RepL G r H ws' vs' → RepL G r H (ws ++ ws') (vs ++ vs')
  | _, _, _, _, .nil, k => k
  | _, _, _, _, .cons h k, k' => .cons h (RepL.append k k')
theorem RepL.take : ∀ {ws : List W} {vs : List V} (n : Nat), RepL G r H ws vs → RepL G r H (ws.take n) (vs.take n)
  | _, _, 0, _ => .nil
  | _, _, _ + 1, .nil => .nil
  | _, _, n + 1, .cons h k => .cons h (RepL.take n k)
theorem RepL.drop : ∀ {ws : List W} {vs : List V} (n : Nat), RepL G r H ws vs → RepL G r H (ws.drop n) (vs.drop n)
  | _, _, 0, k => k
  | _, _, _ + 1, .nil => .nil
  | _, _, n + 1, .cons _ k => RepL.drop n k
theorem RepL.set {w : W} {v : V} (h : Rep G r H w v) : ∀ {ws : List W} {vs : List V} (n : Nat), RepL G r H ws vs → RepL G r H (ws.set n w) (vs.set n v)
  | _, _, _, .nil => .nil
  | _, _, 0, .cons _ k => .cons h k
  | _, _, n + 1, .cons h' k => .cons h' (RepL.set h n k)
theorem RepL.reverse : ∀ {ws : List W} {vs : List V}, RepL G r H ws vs → RepL G r H ws.reverse vs.reverse
  | _, _, .nil => .nil
  | _, _, .cons h k => by
    simp only [List.reverse_cons]
    exact RepL.append (RepL.reverse k) (.cons h .nil)
theorem RepL.rep {w : W} {v : V} (h : Rep G r H w v) : ∀ n : Nat, RepL G r H (List.replicate n w) (List.replicate n v)
  | 0 => .nil
  | n + 1 => .cons h (RepL.rep h n)
theorem RepL.flat {ws : List W} {vs : List V} (k : RepL G r H ws vs) : ∀ n : Nat, RepL G r H (List.replicate n ws).flatten (List.replicate n vs).flatten
  | 0 => .nil
  | n + 1 => by
    simp only [List.replicate_succ, List.flatten_cons]
    exact k.append (RepL.flat k n)
theorem repL_ints : ∀ ns : List Int, RepL G r H (ns.map W.int) (ns.map V.int)
  | [] => .nil
  | n :: ns => .cons (.int n) (repL_ints ns)
end

/-- fields, by name -/
inductive RepF (G : Gx) (r : List Addr) (H : Hp) : Flds → List (Str × V) → Prop
  | nil : RepF G r H [] []
  | cons {f : Str} {w : W} {v : V} {fs : Flds} {vs : List (Str × V)} (h : Rep G r H w v) (k : RepF G r H fs vs) : RepF G r H ((f, w) :: fs) ((f, v) :: vs)
/-- a dict's pairs -/
inductive RepD (G : Gx) (r : List Addr) (H : Hp) : List (Key × W) → List (Key × V) → Prop
  | nil : RepD G r H [] []
  | cons {f : Key} {w : W} {v : V} {fs : List (Key × W)} {vs : List (Key × V)} (h : Rep G r H w v) (k : RepD G r H fs vs) : RepD G r H ((f, w) :: fs) ((f, v) :: vs)
theorem RepF.grow {G : Gx} {r r' : List Addr} {H H' : Hp} (g : Grow r H r' H') {fs : Flds} {vs : List (Str × V)} (h : RepF G r H fs vs) : RepF G r' H' fs vs := by
  induction h with
  | nil => exact .nil
  | cons h _ ih => exact .cons (h.grow g) ih
theorem RepD.grow {G : Gx} {r r' : List Addr} {H H' : Hp} (g : Grow r H r' H') {fs : List (Key × W)} {vs : List (Key × V)} (h : RepD G r H fs vs) : RepD G r' H' fs vs := by
  induction h with
  | nil => exact .nil
  | cons h _ ih => exact .cons (h.grow g) ih

/-- an exception object that lies still: its class, and its fields -/
def excAt (cls : Value) (d : Option Addr) (a : Addr) (h : Heap) : Prop := ∃ (o : Obj) (vs : Array Value), h.get? a = some o ∧ o.cls = cls ∧ o.dict = d ∧ o.data = .fields vs
def ObR (G : Gx) (r : List Addr) (H : Hp) (a : Addr) : Ob → Prop
  | .lst ws => ∃ vs, H a = some (.lst vs) ∧ RepL G r H ws vs
  | .dct ws => ∃ vs, H a = some (.dK vs) ∧ RepD G r H ws vs
  | .ins C fs => ∃ Ca dx vs, G.mg C = some (.ref Ca) ∧ H a = some (.ins Ca dx vs) ∧ RepF G r H fs vs
  | .exc C fs => ∃ Ca d, G.mg C = some (.ref Ca) ∧ H a = some (.ext (excAt (.ref Ca) d a)) ∧ ((fs = [] ∧ d = none) ∨ ∃ da vs, d = some da ∧ H da = some (.xd vs) ∧ RepF G r H fs vs)
structure Sim (G : Gx) (r : List Addr) (H : Hp) (st : Sto) : Prop where
  len : r.length = st.length
  nd : r.Nodup
  ob : ∀ (n : Nat) (o : Ob) (a : Addr), st[n]? = some o → r[n]? = some a → ObR G r H a o
def EnR (G : Gx) (r : List Addr) (H : Hp) (env : En) (s : L2.St) : Prop := s.length = env.length ∧ ∀ (i : Nat) (w : W), env[i]? = some (some w) → ∃ v, s[i]? = some (some v) ∧ Rep G r H w v
theorem EnR.grow {G : Gx} {r r' : List Addr} {H H' : Hp} (g : Grow r H r' H') {env : En} {s : L2.St} (h : EnR G r H env s) : EnR G r' H' env s :=
  ⟨h.1, fun i w e => let ⟨v, a, b⟩ := h.2 i w e; ⟨v, a, b.grow g⟩⟩
theorem EnR.set {G : Gx} {r : List Addr} {H : Hp} {env : En} {s : L2.St} (h : EnR G r H env s) {i : Nat} {w : W} {v : V} (q : Rep G r H w v) : EnR G r H (env.set i (some w)) (s.set i (some v)) := by
  refine ⟨by simp [h.1], fun j x e => ?_⟩
  by_cases hj : i = j
  · subst hj
    by_cases hi : i < env.length
    · rw [List.getElem?_set_self hi] at e
      cases e
      exact ⟨v, by rw [List.getElem?_set_self (by rw [h.1]; exact hi)], q⟩
    · rw [List.getElem?_eq_none (by simpa using hi)] at e
      cases e
  · rw [List.getElem?_set_ne hj] at e
    obtain ⟨u, a, b⟩ := h.2 j x e
    exact ⟨u, by rw [List.getElem?_set_ne hj]; exact a, b⟩
theorem EnR.forget {G : Gx} {r : List Addr} {H : Hp} {env : En} {s : L2.St} (h : EnR G r H env s) {i : Nat} : EnR G r H (env.set i none) (s.set i none) := by
  refine ⟨by simp [h.1], fun j x e => ?_⟩
  by_cases hj : i = j
  · subst hj
    by_cases hi : i < env.length
    · rw [List.getElem?_set_self hi] at e
      cases e
    · rw [List.getElem?_eq_none (by simpa using hi)] at e
      cases e
  · rw [List.getElem?_set_ne hj] at e
    obtain ⟨u, a, b⟩ := h.2 j x e
    exact ⟨u, by rw [List.getElem?_set_ne hj]; exact a, b⟩

theorem nd_ix {N : List Addr} (hN : N.Nodup) {i j : Nat} {x : Addr} (a : N[i]? = some x) (b : N[j]? = some x) : i = j := by
  obtain ⟨h1, e1⟩ := List.getElem?_eq_some_iff.mp a
  obtain ⟨h2, e2⟩ := List.getElem?_eq_some_iff.mp b
  exact (List.getElem_inj hN).mp (e1.trans e2.symm)
theorem ObR.there {G : Gx} {r : List Addr} {H : Hp} {a : Addr} {o : Ob} (h : ObR G r H a o) : ∃ u, H a = some u := by
  cases o with
  | lst l => obtain ⟨_, e, _⟩ := h; exact ⟨_, e⟩
  | dct l => obtain ⟨_, e, _⟩ := h; exact ⟨_, e⟩
  | ins C fs => obtain ⟨_, _, _, _, e, _⟩ := h; exact ⟨_, e⟩
  | exc C fs => obtain ⟨_, _, _, e, _⟩ := h; exact ⟨_, e⟩
theorem Sim.has {G : Gx} {r : List Addr} {H : Hp} {st : Sto} (s : Sim G r H st) {n : Nat} {o : Ob} (h : st[n]? = some o) : ∃ a, r[n]? = some a ∧ ObR G r H a o := by
  have hn : n < r.length := by rw [s.len]; exact (List.getElem?_eq_some_iff.mp h).1
  exact ⟨r[n], List.getElem?_eq_getElem hn, s.ob n o _ h (List.getElem?_eq_getElem hn)⟩
theorem Sim.got {G : Gx} {r : List Addr} {H : Hp} {st : Sto} (s : Sim G r H st) {n : Nat} {o : Ob} {a : Addr} (h : st[n]? = some o) (q : r[n]? = some a) : ObR G r H a o := s.ob n o a h q
theorem Sim.fresh {G : Gx} {r : List Addr} {H : Hp} {st : Sto} (s : Sim G r H st) {p : Addr} (h : H p = none) : p ∉ r := fun hm => by
  obtain ⟨n, hn, e⟩ := List.mem_iff_getElem.mp hm
  have hs : n < st.length := by rw [← s.len]; exact hn
  obtain ⟨u, e2⟩ := (s.ob n st[n] p (List.getElem?_eq_getElem hs) (by rw [List.getElem?_eq_getElem hn, e])).there
  rw [h] at e2
  cases e2
/-- objects stay as they are, but for the one at a -/
theorem ObR.keep {G : Gx} {r r' : List Addr} {H H' : Hp} (g : Grow r H r' H') {b : Addr} {o : Ob} (k : ∀ c u, (c = b ∨ ∃ fs, u = HO.xd fs) → H c = some u → H' c = some u) (h : ObR G r H b o) : ObR G r' H' b o := by
  cases o with
  | lst l => obtain ⟨vs, e, q⟩ := h; exact ⟨vs, k b _ (.inl rfl) e, q.grow g⟩
  | dct l => obtain ⟨vs, e, q⟩ := h; exact ⟨vs, k b _ (.inl rfl) e, q.grow g⟩
  | ins C fs => obtain ⟨Ca, dx, vs, m, e, q⟩ := h; exact ⟨Ca, dx, vs, m, k b _ (.inl rfl) e, q.grow g⟩
  | exc C fs =>
    obtain ⟨Ca, d, m, e, q⟩ := h
    refine ⟨Ca, d, m, k b _ (.inl rfl) e, ?_⟩
    rcases q with q | ⟨da, vs, ed, e2, q⟩
    · exact .inl q
    · exact .inr ⟨da, vs, ed, k da _ (.inr ⟨vs, rfl⟩) e2, q.grow g⟩
/-- a new object -/
theorem Sim.new {G : Gx} {r : List Addr} {H H' : Hp} {st : Sto} (s : Sim G r H st) {p : Addr} {o : Ob} (hp : H p = none) (k : ∀ c u, H c = some u → H' c = some u) (h : ObR G (r ++ [p]) H' p o) (sy : Stay H H') : Sim G (r ++ [p]) H' (st ++ [o]) := by
  have g : Grow r H (r ++ [p]) H' := Grow.one sy
  refine ⟨by simp [s.len], ?_, fun n ob a e1 e2 => ?_⟩
  · rw [List.nodup_append]
    refine ⟨s.nd, by simp, fun a ha b hb => ?_⟩
    have e : b = p := by simpa using hb
    subst e
    exact fun z => s.fresh hp (z ▸ ha)
  · by_cases hn : n < st.length
    · rw [List.getElem?_append_left hn] at e1
      rw [List.getElem?_append_left (by rw [s.len]; exact hn)] at e2
      exact (s.ob n ob a e1 e2).keep g fun c u _ e => k c u e
    · have hl : n < (st ++ [o]).length := (List.getElem?_eq_some_iff.mp e1).1
      have en : n = st.length := by simp at hl; omega
      subst en
      rw [List.getElem?_append_right (Nat.le_refl _)] at e1
      rw [List.getElem?_append_right (by rw [s.len]; exact Nat.le_refl _), s.len] at e2
      simp at e1 e2
      subst e1 e2
      exact h
theorem Sim.newU {G : Gx} {r : List Addr} {H : Hp} {st : Sto} (s : Sim G r H st) {p : Addr} {u : HO} {o : Ob} (hp : H p = none) (h : ObR G (r ++ [p]) (upd H p u) p o) : Sim G (r ++ [p]) (upd H p u) (st ++ [o]) :=
  s.new hp (fun c v e => by rw [upd_ne (ne_of_none e hp)]; exact e) h (Stay.new hp)
/-- an object that is changed -/
theorem Sim.put {G : Gx} {r : List Addr} {H : Hp} {st : Sto} (s : Sim G r H st) {n : Nat} {a : Addr} {u u0 : HO} {o : Ob} (hn : r[n]? = some a) (hu : H a = some u0) (hx : ∀ fs, u0 ≠ .xd fs) (sy : Stay H (upd H a u)) (h : ObR G r (upd H a u) a o) : Sim G r (upd H a u) (st.set n o) := by
  have g : Grow r H r (upd H a u) := Grow.same sy
  refine ⟨by simp [s.len], s.nd, fun m ob b e1 e2 => ?_⟩
  by_cases hm : n = m
  · subst hm
    rw [hn] at e2
    cases e2
    have hl : n < st.length := by rw [← s.len]; exact (List.getElem?_eq_some_iff.mp hn).1
    rw [List.getElem?_set_self hl] at e1
    cases e1
    exact h
  · rw [List.getElem?_set_ne hm] at e1
    have hb : b ≠ a := fun z => by
      subst z
      exact hm (nd_ix s.nd hn e2)
    refine (s.ob m ob b e1 e2).keep g fun c v hc e => ?_
    have hca : c ≠ a := by
      rcases hc with rfl | ⟨fs, rfl⟩
      · exact hb
      · intro z
        subst z
        rw [hu] at e
        exact hx fs (Option.some.inj e)
    rw [upd_ne hca]
    exact e
end Sw
/-! Sw2: answers, readings, the frame of the rules. -/
namespace Sw
open PySem PySem.Spec PyProof.Rows L2

inductive An (α : Type) where
  | ok (a : α) (st : Sto) | ex (C : Str) (fs : Flds) (st : Sto) | bad
def An.bind {α β : Type} (m : An α) (k : α → Sto → An β) : An β := match m with
  | .ok a st => k a st
  | .ex C fs st => .ex C fs st
  | .bad => .bad
@[simp] theorem An.bind_ok {α β : Type} (a : α) (st : Sto) (k : α → Sto → An β) : (An.ok a st).bind k = k a st := rfl
@[simp] theorem An.bind_ex {α β : Type} (C : Str) (fs : Flds) (st : Sto) (k : α → Sto → An β) : (An.ex C fs st : An α).bind k = .ex C fs st := rfl
@[simp] theorem An.bind_bad {α β : Type} (k : α → Sto → An β) : (An.bad : An α).bind k = .bad := rfl
/-- what a block ends with -/
inductive SA where
  | nx (env : En) (st : Sto) | rt (w : W) (st : Sto) | bk (env : En) (st : Sto) | ct (env : En) (st : Sto) | ex (C : Str) (fs : Flds) (env : En) (st : Sto) | bad

abbrev gx (X : Cx) : Gx := ⟨X.K, X.mg⟩
def ExR (G : Gx) (r : List Addr) (H : Hp) (C : Str) (fs : Flds) (ca : Value) (d : Option Addr) : Prop :=
  ∃ Ca, ca = Value.ref Ca ∧ G.mg C = some (.ref Ca) ∧ ((fs = [] ∧ d = none) ∨ ∃ da vs, d = some da ∧ H da = some (.xd vs) ∧ RepF G r H fs vs)
def Po (G : Gx) (Wx : WX) (s : L2.St) {α : Type} (P : α → List Addr → Hp → Prop) (r : List Addr) (H : Hp) : An α → Prop
  | .ok a st => ∀ r' H', Grow r H r' H' → Sim G r' H' st → P a r' H'
  | .ex C fs st => ∀ r' H' ca d, Grow r H r' H' → Sim G r' H' st → ExR G r' H' C fs ca d → Wx ca d s H'
  | .bad => False
section
variable {G : Gx} {Wx : WX} {s : L2.St} {α β : Type} {P P' : α → List Addr → Hp → Prop} {r r1 : List Addr} {H H1 : Hp} {m : An α}
theorem Po.imp (h : Po G Wx s P r H m) (k : ∀ a r' H', Grow r H r' H' → P a r' H' → P' a r' H') : Po G Wx s P' r H m := by
  cases m with
  | ok a st => exact fun r' H' g q => k a r' H' g (h r' H' g q)
  | ex C fs st => exact h
  | bad => exact h
theorem Po.grow (g : Grow r H r1 H1) (h : Po G Wx s P r H m) : Po G Wx s P r1 H1 m := by
  cases m with
  | ok a st => exact fun r' H' g' q => h r' H' (g.trans g') q
  | ex C fs st => exact fun r' H' ca d g' q => h r' H' ca d (g.trans g') q
  | bad => exact h
theorem Po.bind {k : α → Sto → An β} {P : β → List Addr → Hp → Prop} (h : Po G Wx s P r H (m.bind k)) : Po G Wx s (fun a r1 H1 => ∃ st1, Sim G r1 H1 st1 ∧ Grow r H r1 H1 ∧ Po G Wx s P r1 H1 (k a st1)) r H m := by
  cases m with
  | ok a st => exact fun r' H' g q => ⟨st, q, g, Po.grow g h⟩
  | ex C fs st => exact h
  | bad => exact h
theorem Po.ok {a : α} {st : Sto} (h : Po G Wx s P r H (.ok a st)) (q : Sim G r H st) : P a r H := h r H (Grow.refl r H) q
end
def SPo (G : Gx) (Wx : WX) (D : Ends) (r : List Addr) (H : Hp) : SA → Prop
  | .nx env st => ∀ r' H' s', Grow r H r' H' → Sim G r' H' st → EnR G r' H' env s' → D.nx s' H'
  | .bk env st => ∀ r' H' s', Grow r H r' H' → Sim G r' H' st → EnR G r' H' env s' → D.bk s' H'
  | .ct env st => ∀ r' H' s', Grow r H r' H' → Sim G r' H' st → EnR G r' H' env s' → D.ct s' H'
  | .rt w st => ∀ r' H' v, Grow r H r' H' → Sim G r' H' st → Rep G r' H' w v → D.rt v H'
  | .ex C fs env st => ∀ r' H' s' ca d, Grow r H r' H' → Sim G r' H' st → EnR G r' H' env s' → ExR G r' H' C fs ca d → Wx ca d s' H'
  | .bad => False
theorem SPo.grow {G : Gx} {Wx : WX} {D : Ends} {r r1 : List Addr} {H H1 : Hp} {a : SA} (g : Grow r H r1 H1) (h : SPo G Wx D r H a) : SPo G Wx D r1 H1 a := by
  cases a with
  | nx env st => exact fun r' H' s' g' => h r' H' s' (g.trans g')
  | bk env st => exact fun r' H' s' g' => h r' H' s' (g.trans g')
  | ct env st => exact fun r' H' s' g' => h r' H' s' (g.trans g')
  | rt w st => exact fun r' H' s' g' => h r' H' s' (g.trans g')
  | ex C fs env st => exact fun r' H' s' ca d g' => h r' H' s' ca d (g.trans g')
  | bad => exact h

/-! ### readings by plain functions -/
abbrev FE := En → Sto → An W
abbrev FT := En → Sto → An Bool
abbrev FA := En → Sto → An (List W)
abbrev FS := En → Sto → SA
def tE (G : Gx) (Wx : WX) (f : FE) : TE := fun s H Q => ∃ env r st, EnR G r H env s ∧ Sim G r H st ∧ Po G Wx s (fun w r' H' => ∀ v, Rep G r' H' w v → Q v H') r H (f env st)
def tT (G : Gx) (Wx : WX) (f : FT) : TT := fun s H Q => ∃ env r st, EnR G r H env s ∧ Sim G r H st ∧ Po G Wx s (fun b _ H' => Q b H') r H (f env st)
def tL (G : Gx) (Wx : WX) (f : FA) : TA := fun s H Q => ∃ env r st, EnR G r H env s ∧ Sim G r H st ∧ Po G Wx s (fun ws r' H' => ∀ vs, RepL G r' H' ws vs → Q vs H') r H (f env st)
def tS (G : Gx) (Wx : WX) (f : FS) : TS := fun D s H => ∃ env r st, EnR G r H env s ∧ Sim G r H st ∧ SPo G Wx D r H (f env st)
theorem _root_.L2.PE.imp {X : Cx} {e : Expr} {t t' : TE} (h : PE X e t) (k : ∀ s H Q, t' s H Q → t s H Q) : PE X e t' := ⟨fun pins s σ H Q I q => h.run pins s σ H Q I (k _ _ _ q)⟩
theorem _root_.L2.PT.imp {X : Cx} {e : Expr} {t t' : TT} (h : PT X e t) (k : ∀ s H Q, t' s H Q → t s H Q) : PT X e t' := ⟨fun pins s σ H Q I q => h.run pins s σ H Q I (k _ _ _ q)⟩
theorem _root_.L2.PW.imp {X : Cx} {e : Expr} {t t' : TT} (h : PW X e t) (k : ∀ s H Q, t' s H Q → t s H Q) : PW X e t' := ⟨fun w pins s σ H Q I q => h.run w pins s σ H Q I (k _ _ _ q)⟩
theorem _root_.L2.PA.imp {X : Cx} {e : List Expr} {t t' : TA} (h : PA X e t) (k : ∀ s H Q, t' s H Q → t s H Q) : PA X e t' := ⟨fun pos pins s σ H Q I q => h.run pos pins s σ H Q I (k _ _ _ q)⟩
theorem _root_.L2.PS.imp {X : Cx} {e : Stmt} {t t' : TS} (h : PS X e t) (k : ∀ D s H, t' D s H → t D s H) : PS X e t' := ⟨fun pins s σ H D I q => h.run pins s σ H D I (k _ _ _ q)⟩
theorem _root_.L2.PSs.imp {X : Cx} {e : List Stmt} {t t' : TS} (h : PSs X e t) (k : ∀ D s H, t' D s H → t D s H) : PSs X e t' := ⟨fun pins s σ H D I q => h.run pins s σ H D I (k _ _ _ q)⟩

section
variable {X : Cx} {Wx : WX} {pos : Pos}

/-! ### names and constants -/
def fVar (i : Nat) : FE := fun env st => match env[i]? with
  | some (some w) => .ok w st
  | _ => .bad
def fC (w : W) : FE := fun _ st => .ok w st
theorem e_var (i : Nat) {x : Str} (hN : X.N[i]? = some x := by rfl) (hv : Vis X.env.scope x := by first | exact Or.inl rfl | exact Or.inr (Or.inl rfl) | exact Or.inr (Or.inr rfl)) (hd : (x == ("__debug__" : Str)) = false := by decide)
    (hcd : (x == ("__classdict__" : Str)) = false := by decide) : PE X (.Name x pos) (tE (gx X) Wx (fVar i)) := (pe_var hN hv hd hcd).imp fun s H Q h => by
  obtain ⟨env, r, st, en, sm, p⟩ := h
  unfold fVar at p
  cases e : env[i]? with
  | none => rw [e] at p; exact p.elim
  | some o =>
    cases o with
    | none => rw [e] at p; exact p.elim
    | some w =>
      rw [e] at p
      obtain ⟨v, h1, h2⟩ := en.2 i w e
      exact ⟨v, h1, Po.ok p sm v h2⟩
theorem e_c {e : Expr} {v : V} {w : W} (h : PE X e (tC v)) (hr : ∀ r H, Rep (gx X) r H w v) : PE X e (tE (gx X) Wx (fC w)) := h.imp fun s H Q q => by
  obtain ⟨env, r, st, en, sm, p⟩ := q
  exact Po.ok p sm v (hr r H)
theorem e_int {i : Int} {j : Nat} : PE X (.Constant (.int i) j pos) (tE (gx X) Wx (fC (.int i))) := e_c pe_int fun _ _ => .int i
theorem e_bl {i : Bool} {j : Nat} : PE X (.Constant (.bool i) j pos) (tE (gx X) Wx (fC (.bl i))) := e_c pe_bl fun _ _ => .bl i
theorem e_non {j : Nat} : PE X (.Constant .none j pos) (tE (gx X) Wx (fC .non)) := e_c pe_non fun _ _ => .non
theorem e_str {i : Str} {j : Nat} : PE X (.Constant (.str i) j pos) (tE (gx X) Wx (fC (.str i))) := e_c pe_str fun _ _ => .str i
/-- a constant of the module; a class, a def as a value -/
theorem e_glob {x : Str} {v : V} {u : Value} {w : W} (hg : Gl X x) (hm : X.mg x = some u) (q : RelV v u) (hr : ∀ r H, Rep (gx X) r H w v) (hd : (x == ("__debug__" : Str)) = false := by decide) : PE X (.Name x pos) (tE (gx X) Wx (fC w)) := e_c (pe_glob hg hm q hd) hr
theorem e_gl {x : Str} {a : Addr} (hg : Gl X x) (hm : X.mg x = some (.ref a)) (hd : (x == ("__debug__" : Str)) = false := by decide) : PE X (.Name x pos) (tE (gx X) Wx (fC (.gl x))) := e_glob (v := .ref a) hg hm rfl (fun _ _ => .gl hm) hd
theorem e_ty {x : Str} {n : String} (hg : Gl X x) (hm : X.mg x = none) (hv : bootBuiltins x = some (.type n)) (hn : x ≠ "__name__" := by decide) (hd : (x == ("__debug__" : Str)) = false := by decide) : PE X (.Name x pos) (tE (gx X) Wx (fC (.ty n))) :=
  e_c (v := .ty n) (pe_bltn hg hm hv rfl hn hd) fun _ _ => .ty n

/-! ### operators -/
/-- r asks no more than g says -/
def OpRf (G : Gx) (r : R2) (g : W → W → Sto → An W) : Prop := ∀ (x y : W) (st : Sto) (l : List Addr) (H : Hp) (vx vy : V) (Q : VK) (Wx : WX) (s : L2.St), Sim G l H st → Rep G l H x vx → Rep G l H y vy →
  Po G Wx s (fun w r' H' => ∀ v, Rep G r' H' w v → Q v H') l H (g x y st) → r vx vy H Q
def fBin (g : W → W → Sto → An W) (fa fb : FE) : FE := fun env st => (fa env st).bind fun x st1 => (fb env st1).bind fun y st2 => g x y st2
theorem bin_imp {G : Gx} {r : R2} {g : W → W → Sto → An W} {fa fb : FE} (hg : OpRf G r g) {s : L2.St} {H : Hp} {Q : VK} (h : tE G Wx (fBin g fa fb) s H Q) : tOp r (tE G Wx fa) (tE G Wx fb) s H Q := by
  obtain ⟨env, l, st, en, sm, p⟩ := h
  refine ⟨env, l, st, en, sm, (Po.bind p).imp fun x l1 H1 g1 ⟨st1, sm1, _, p1⟩ vx rx => ?_⟩
  refine ⟨env, l1, st1, en.grow g1, sm1, (Po.bind p1).imp fun y l2 H2 g2 ⟨st2, sm2, _, p2⟩ vy ry => ?_⟩
  exact hg x y st2 l2 H2 vx vy Q Wx s sm2 (rx.grow g2) ry p2
theorem e_op {op : Operator} {a b : Expr} {r : R2} {g : W → W → Sto → An W} {fa fb : FE} (ho : OpR X (binaryOp op) r) (hg : OpRf (gx X) r g) (ha : PE X a (tE (gx X) Wx fa)) (hb : PE X b (tE (gx X) Wx fb)) : PE X (.BinOp a op b pos) (tE (gx X) Wx (fBin g fa fb)) :=
  (pe_op ho ha hb).imp fun s H Q h => bin_imp hg h
end
end Sw
/-! Sw3: operators. -/
namespace Sw
open PySem PySem.Spec PyProof.Rows L2

/-- the items of a list -/
def getL (st : Sto) : W → Option (List W)
  | .rol l => some l
  | .ref n => match st[n]? with
    | some (.lst l) => some l
    | _ => none
  | _ => none
theorem getL_rep {G : Gx} {r : List Addr} {H : Hp} {st : Sto} {x : W} {v : V} {l : List W} (sm : Sim G r H st) (h : Rep G r H x v) (e : getL st x = some l) : ∃ a vs, v = .ref a ∧ SqL G.K H a vs ∧ RepL G r H l vs := by
  cases h with
  | rol h k =>
    simp only [getL, Option.some.injEq] at e
    subst e
    exact ⟨_, _, rfl, h.sq, k⟩
  | @ref n a h =>
    simp only [getL] at e
    split at e
    · rename_i l' hl
      cases e
      obtain ⟨vs, e2, k⟩ := sm.got hl h
      exact ⟨a, vs, rfl, .inl (.inl e2), k⟩
    · cases e
  | _ => simp [getL] at e
/-- a new list comes to be -/
theorem Po.newL {G : Gx} {Wx : WX} {s : L2.St} {r : List Addr} {H : Hp} {st : Sto} {l : List W} {vs : List V} {Q : VK} (sm : Sim G r H st) (k : RepL G r H l vs)
    (h : Po G Wx s (fun w r' H' => ∀ v, Rep G r' H' w v → Q v H') r H (.ok (.ref st.length) (st ++ [.lst l]))) : ∀ p, H p = none → Q (.ref p) (upd H p (.lst vs)) := fun p hp => by
  have g : Grow r H (r ++ [p]) (upd H p (.lst vs)) := Grow.one (Stay.new hp)
  have s2 : Sim G (r ++ [p]) (upd H p (.lst vs)) (st ++ [.lst l]) := sm.newU hp ⟨vs, upd_same, k.grow g⟩
  exact h _ _ g s2 _ (.ref (by rw [← sm.len, List.getElem?_append_right (Nat.le_refl _)]; simp))
theorem Po.newT {G : Gx} {Wx : WX} {s : L2.St} {r : List Addr} {H : Hp} {st : Sto} {l : List W} {vs : List V} {Q : VK} (sm : Sim G r H st) (k : RepL G r H l vs)
    (h : Po G Wx s (fun w r' H' => ∀ v, Rep G r' H' w v → Q v H') r H (.ok (.tup l) st)) : ∀ p, H p = none → Q (.ref p) (upd H p (.tup vs)) := fun p hp => by
  have g : Grow r H r (upd H p (.tup vs)) := Grow.same (Stay.new hp)
  have s2 : Sim G r (upd H p (.tup vs)) st := by
    refine ⟨sm.len, sm.nd, fun n o a e1 e2 => (sm.ob n o a e1 e2).keep g fun c u _ e => ?_⟩
    rw [upd_ne (ne_of_none e hp)]
    exact e
  exact h _ _ g s2 _ (.tup (.inl (.inl upd_same)) (k.grow g))
theorem Sim.tup {G : Gx} {r : List Addr} {H : Hp} {st : Sto} (sm : Sim G r H st) {p : Addr} {vs : List V} (hp : H p = none) : Sim G r (upd H p (.tup vs)) st :=
  ⟨sm.len, sm.nd, fun n o a e1 e2 => (sm.ob n o a e1 e2).keep (Grow.same (Stay.new hp)) fun c u _ e => by rw [upd_ne (ne_of_none e hp)]; exact e⟩

/-! ### whole numbers -/
def BigN : Nat := 2 ^ 9000
theorem small_big {n : Nat} (h : n ≤ 10 ^ 400) : n < BigN := Nat.lt_of_le_of_lt h (by decide +kernel)
theorem two_big {n k : Nat} (h : n < 2 ^ k) (hk : k ≤ 9000) : n < BigN := Nat.lt_of_lt_of_le h (Nat.pow_le_pow_right (by decide) hk)
theorem big_log {n : Nat} (h : n < BigN) : n.log2 < 9000 := PySem.Flt.log2_lt_of (by decide) h
def wI (f : Int → Int → W) : W → W → Sto → An W
  | .int i, .int j, st => .ok (f i j) st
  | _, _, _ => .bad
def wIc (c : Int → Int → Bool) (f : Int → Int → W) : W → W → Sto → An W
  | .int i, .int j, st => if c i j then .ok (f i j) st else .bad
  | _, _, _ => .bad
theorem rf_I {G : Gx} {g : Int → Int → V} {f : Int → Int → W} (h : ∀ i j r H, Rep G r H (f i j) (g i j)) : OpRf G (rI0 g) (wI f) := by
  intro x y st l H vx vy Q Wx s sm rx ry p
  cases rx <;> cases ry <;> first | exact p.elim | exact ⟨_, _, rfl, rfl, Po.ok p sm _ (h _ _ _ _)⟩
theorem rf_Ic {G : Gx} {C : Int → Int → Prop} {g : Int → Int → V} {c : Int → Int → Bool} {f : Int → Int → W} (hc : ∀ i j, c i j = true → C i j) (h : ∀ i j, c i j = true → ∀ r H, Rep G r H (f i j) (g i j)) : OpRf G (rI C g) (wIc c f) := by
  intro x y st l H vx vy Q Wx s sm rx ry p
  cases rx <;> cases ry <;> first | exact p.elim | skip
  rename_i i j
  simp only [wIc] at p
  by_cases hk : c i j = true
  · rw [if_pos hk] at p
    exact ⟨_, _, rfl, rfl, hc i j hk, Po.ok p sm _ (h i j hk _ _)⟩
  · rw [if_neg hk] at p
    exact p.elim
def wSub : W → W → Sto → An W := wI fun i j => .int (i - j)
theorem rf_sub {G : Gx} : OpRf G (rI0 fun i j => .int (i - j)) wSub := rf_I fun _ _ _ _ => .int _
def cDiv (_ j : Int) : Bool := decide (0 < j ∧ j.natAbs < BigN)
def wFdiv : W → W → Sto → An W := wIc cDiv fun i j => .int (i / j)
theorem rf_fdiv {G : Gx} : OpRf G (rI CDivW fun i j => .int (i / j)) wFdiv := rf_Ic (fun i j h => by
  have h' := of_decide_eq_true h
  exact ⟨h'.1, big_log h'.2⟩) fun _ _ _ _ _ => .int _
def cMod (_ j : Int) : Bool := decide (0 < j)
def wMod : W → W → Sto → An W := wIc cMod fun i j => .int (i % j)
theorem rf_mod {G : Gx} : OpRf G (rI (fun _ j => 0 < j) fun i j => .int (i % j)) wMod := rf_Ic (fun i j h => of_decide_eq_true h) fun _ _ _ _ _ => .int _
def cPow (i j : Int) : Bool := decide (0 ≤ j ∧ j ≤ 100 ∧ i.natAbs < 2 ^ 300)
def wPow : W → W → Sto → An W := wIc cPow fun i j => .int (i ^ j.toNat)
def CPowW (i j : Int) : Prop := 0 ≤ j ∧ (Builtin.Int.intBits i : Int) * j ≤ 2 ^ 27
theorem op_powW {X : Cx} : OpR X (binaryOp .Pow) (rI CPowW fun i j => .int (i ^ j.toNat)) := opI fun _ _ _ _ _ _ _ hc q => PyProof.Rows.pow_int hc.1 hc.2 q
def cMul (i j : Int) : Bool := decide (i.natAbs < BigN ∧ j.natAbs < BigN)
def wAnd : W → W → Sto → An W := wI fun i j => .int (Builtin.bitAnd i j)
theorem rf_and {G : Gx} : OpRf G (rI0 fun i j => .int (Builtin.bitAnd i j)) wAnd := rf_I fun _ _ _ _ => .int _
def wOr : W → W → Sto → An W := wI fun i j => .int (Builtin.bitOr i j)
theorem rf_or {G : Gx} : OpRf G (rI0 fun i j => .int (Builtin.bitOr i j)) wOr := rf_I fun _ _ _ _ => .int _
theorem rf_pow {G : Gx} : OpRf G (rI CPowW fun i j => .int (i ^ j.toNat)) wPow := rf_Ic (fun i j h => by
  have h' := of_decide_eq_true h
  refine ⟨h'.1, ?_⟩
  have hb : Builtin.Int.intBits i ≤ 300 := PyProof.Rows.intBits_le h'.2.2
  have h1 : (Builtin.Int.intBits i : Int) * j ≤ 300 * j := Int.mul_le_mul_of_nonneg_right (by omega) h'.1
  omega) fun _ _ _ _ _ => .int _

/-! ### x + y -/
def rCatL (K : PySem.W.Frag) : R2 := fun x y H Q => ∃ l b xs zs, x = .ref l ∧ y = .ref b ∧ SqL K H l xs ∧ SqL K H b zs ∧ xs.length + zs.length ≤ sizeLine ∧ ∀ p, H p = none → Q (.ref p) (upd H p (.lst (xs ++ zs)))
theorem op_catL {X : Cx} : OpR X (binaryOp .Add) (rCatL X.K) := by
  intro pins s σ H x y v u Q I rx ry h
  obtain ⟨l, b, xs, zs, rfl, rfl, hH, hB, hz, q⟩ := h
  cases rx
  cases ry
  obtain ⟨its, r, ⟨⟨cls, dd, data, sl⟩, n, ho, hc, hn, hd⟩, z⟩ := I.list hH
  obtain ⟨its2, r2, ⟨⟨cls2, dd2, data2, sl2⟩, n2, ho2, hc2, hn2, hd2⟩, z2⟩ := I.list hB
  simp only at hc hd hc2 hd2
  subst hc hd hc2 hd2
  have e : its.toArray ++ its2.toArray = (its ++ its2).toArray := by simp
  have hl := r.length
  have hl2 := r2.length
  refine concat_meets ⟨_, ho, rfl⟩ ⟨_, ho2, rfl⟩ noFill_list_add seq_list_add PySem.F.slot_list_add PySem.F.entry_list_add (PySem.F.args_list_add_2 _ _) (list_addW l b its.toArray its2.toArray n n2 dd dd2 sl sl2 (by simp; omega)) ⟨ho, ho2, ?_⟩
  rw [e]
  exact ⟨.ref _, _, I.lnew (t' := s.toks) (r.append r2) (by rw [List.length_append]; omega), rfl, q _ I.fresh⟩
def wAdd : W → W → Sto → An W
  | .int i, .int j, st => .ok (.int (i + j)) st
  | .str i, .str j, st => if i.length + j.length ≤ sizeLine then .ok (.str (i ++ j)) st else .bad
  | .tup a, .tup b, st => if a.length + b.length ≤ sizeLine then .ok (.tup (a ++ b)) st else .bad
  | x, y, st => match getL st x, getL st y with
    | some a, some b => if a.length + b.length ≤ sizeLine then .ok (.ref st.length) (st ++ [.lst (a ++ b)]) else .bad
    | _, _ => .bad
def rAddW (K : PySem.W.Frag) : R2 := fun x y H Q => rI0 (fun i j => .int (i + j)) x y H Q ∨ (∃ i j, x = .str i ∧ y = .str j ∧ i.length + j.length ≤ sizeLine ∧ Q (.str (i ++ j)) H) ∨ rCatA K x y H Q ∨ rCatL K x y H Q
theorem op_addW {X : Cx} : OpR X (binaryOp .Add) (rAddW X.K) := op_add.or (op_add_str.or (op_catA.or op_catL))
theorem ite_bad {α : Type} {c : Prop} {inst : Decidable c} {G : Gx} {Wx : WX} {s : L2.St} {P : α → List Addr → Hp → Prop} {r : List Addr} {H : Hp} {m : An α} (p : Po G Wx s P r H (if c then m else .bad)) : c ∧ Po G Wx s P r H m := by
  by_cases h : c
  · rw [if_pos h] at p
    exact ⟨h, p⟩
  · rw [if_neg h] at p
    exact p.elim
theorem rf_catL {G : Gx} {x y : W} {st : Sto} {l : List Addr} {H : Hp} {vx vy : V} {Q : VK} {Wx : WX} {s : L2.St} (sm : Sim G l H st) (rx : Rep G l H x vx) (ry : Rep G l H y vy)
    (p : Po G Wx s (fun w r' H' => ∀ v, Rep G r' H' w v → Q v H') l H (match getL st x, getL st y with
      | some a, some b => if a.length + b.length ≤ sizeLine then .ok (.ref st.length) (st ++ [.lst (a ++ b)]) else .bad
      | _, _ => .bad)) : rCatL G.K vx vy H Q := by
  cases ex : getL st x with
  | none => simp only [ex] at p; exact p.elim
  | some a =>
    cases ey : getL st y with
    | none => simp only [ex, ey] at p; exact p.elim
    | some b =>
      simp only [ex, ey] at p
      obtain ⟨hz, p⟩ := ite_bad p
      obtain ⟨ax, xs, rfl, hx, kx⟩ := getL_rep sm rx ex
      obtain ⟨ay, ys, rfl, hy, ky⟩ := getL_rep sm ry ey
      exact ⟨ax, ay, xs, ys, rfl, rfl, hx, hy, by rw [← kx.length, ← ky.length]; exact hz, Po.newL sm (kx.append ky) p⟩
theorem rf_add {G : Gx} : OpRf G (rAddW G.K) wAdd := by
  intro x y st l H vx vy Q Wx s sm rx ry p
  cases rx with
  | int i =>
    cases ry with
    | int j => exact .inl ⟨i, j, rfl, rfl, Po.ok p sm _ (.int _)⟩
    | _ => exact p.elim
  | str i =>
    cases ry with
    | str j =>
      obtain ⟨hz, p⟩ := ite_bad p
      exact .inr (.inl ⟨i, j, rfl, rfl, hz, Po.ok p sm _ (.str _)⟩)
    | _ => exact p.elim
  | @tup la a xs ha ka =>
    cases ry with
    | @tup lb b ys hb kb =>
      obtain ⟨hz, p⟩ := ite_bad p
      refine .inr (.inr (.inl ⟨a, b, xs, ys, rfl, rfl, ha, hb, by rw [← ka.length, ← kb.length]; exact hz, fun e => ?_, fun e1 e2 => ?_, fun _ _ => Po.newT sm (ka.append kb) p⟩))
      · subst e
        cases ka
        exact Po.ok p sm _ (.tup hb kb)
      · subst e2
        cases kb
        exact Po.ok p sm _ (.tup ha (by rw [List.append_nil]; exact ka))
    | _ => exact p.elim
  | rol h k => exact .inr (.inr (.inr (rf_catL sm (.rol h k) ry (by cases ry <;> exact p))))
  | ref h => exact .inr (.inr (.inr (rf_catL sm (.ref h) ry (by cases ry <;> exact p))))
  | _ => cases ry <;> exact p.elim

/-! ### x * y -/
def wMul : W → W → Sto → An W
  | .int i, .int j, st => if (i.natAbs < BigN ∧ j.natAbs < BigN) ∨ j.natAbs < 2 ^ 60 then .ok (.int (i * j)) st else .bad
  | .tup a, .int k, st => if a ≠ [] ∧ 2 ≤ k ∧ k ≤ 1000 ∧ a.length ≤ 1000 then .ok (.tup (List.replicate k.toNat a).flatten) st else .bad
  | .ref n, .int k, st => match st[n]? with
    | some (.lst a) => if 0 ≤ k ∧ k ≤ 1000 ∧ a.length ≤ 1000 then .ok (.ref st.length) (st ++ [.lst (List.replicate k.toNat a).flatten]) else .bad
    | _ => .bad
  | _, _, _ => .bad
def rMulW (K : PySem.W.Frag) : R2 := fun x y H Q => rI IntMulOk (fun i j => .int (i * j)) x y H Q ∨ rRepT K x y H Q ∨ rRep x y H Q
theorem op_mulI {X : Cx} : OpR X (binaryOp .Mult) (rI IntMulOk fun i j => .int (i * j)) := opI fun _ _ _ _ _ _ _ hc q => mul_int q hc
theorem op_mulA {X : Cx} : OpR X (binaryOp .Mult) (rMulW X.K) := op_mulI.or (op_repT.or op_rep)
theorem rf_mul {G : Gx} : OpRf G (rMulW G.K) wMul := by
  intro x y st l H vx vy Q Wx s sm rx ry p
  cases rx with
  | int i =>
    cases ry with
    | int j =>
      obtain ⟨hz, p⟩ := ite_bad p
      refine .inl ⟨i, j, rfl, rfl, ?_, Po.ok p sm _ (.int _)⟩
      rcases hz with hz | hz
      · have h1 := big_log hz.1
        have h2 := big_log hz.2
        exact CMulW.ok (show i.natAbs.log2 + j.natAbs.log2 < 1000000 by omega)
      · exact IntMulOk.of_right (Nat.le_trans (PyProof.Rows.intBits_le hz) (by decide))
    | _ => exact p.elim
  | @tup la a xs ha ka =>
    cases ry with
    | int k =>
      obtain ⟨hz, p⟩ := ite_bad p
      refine .inr (.inl ⟨a, k, xs, rfl, rfl, ha, fun e => ?_, hz.2.1, hz.2.2.1, by rw [← ka.length]; exact hz.2.2.2, Po.newT sm (ka.flat _) p⟩)
      subst e
      cases ka
      exact hz.1 rfl
    | _ => exact p.elim
  | @ref n a h =>
    cases ry with
    | int k =>
      simp only [wMul] at p
      split at p
      · rename_i la e
        obtain ⟨hz, p⟩ := ite_bad p
        obtain ⟨vs, e2, kk⟩ := sm.got e h
        refine .inr (.inr ⟨a, k, vs, rfl, rfl, e2, by omega, by omega, ?_, Po.newL sm (kk.flat _) p⟩)
        rw [← kk.length]
        have h1 : la.length * k.toNat ≤ 1000 * 1000 := Nat.mul_le_mul hz.2.2 (by omega)
        exact Nat.le_trans h1 (by decide)
      · exact p.elim
    | _ => exact p.elim
  | _ => cases ry <;> exact p.elim

end Sw
/-! Sw4: truth, tests, comparisons. -/
namespace Sw
open PySem PySem.Spec PyProof.Rows L2

/-! ### truth -/
def truW (st : Sto) : W → Option Bool
  | .non => some false
  | .bl b => some b
  | .int i => some (i != 0)
  | .str y => if y.length ≤ sizeLine then some ((y.length : Int) != 0) else none
  | .tup l => some (!l.isEmpty)
  | .rol l => some (!l.isEmpty)
  | .ref n => match st[n]? with
    | some (.lst l) => some (!l.isEmpty)
    | some (.dct l) => some (!l.isEmpty)
    | _ => none
  | _ => none
theorem RepL.empty {G : Gx} {r : List Addr} {H : Hp} {ws : List W} {vs : List V} (k : RepL G r H ws vs) : (!ws.isEmpty) = !vs.isEmpty := by cases k <;> rfl
theorem RepD.empty {G : Gx} {r : List Addr} {H : Hp} {ws : List (Key × W)} {vs : List (Key × V)} (k : RepD G r H ws vs) : (!ws.isEmpty) = !vs.isEmpty := by cases k <;> rfl
theorem truW_rep {G : Gx} {r : List Addr} {H : Hp} {st : Sto} {x : W} {v : V} {b : Bool} (sm : Sim G r H st) (h : Rep G r H x v) (e : truW st x = some b) : TruV G.K v H b := by
  cases h with
  | non => cases e; rfl
  | bl c => cases e; rfl
  | int c => cases e; rfl
  | str c =>
    simp only [truW] at e
    split at e
    · rename_i hz
      cases e
      exact ⟨hz, rfl⟩
    · cases e
  | ty n => cases e
  | tup h k =>
    cases e
    exact .inr (.inl ⟨_, h, k.empty⟩)
  | rol h k =>
    cases e
    exact .inl ⟨_, h.sq, k.empty⟩
  | gl h => cases e
  | ref h =>
    simp only [truW] at e
    split at e
    · rename_i l hl
      cases e
      obtain ⟨vs, e2, k⟩ := sm.got hl h
      exact .inl ⟨vs, .inl (.inl e2), k.empty⟩
    · rename_i l hl
      cases e
      obtain ⟨vs, e2, k⟩ := sm.got hl h
      exact .inr (.inr ⟨vs, e2, k.empty⟩)
    · cases e
def optB {α : Type} (o : Option α) (st : Sto) : An α := match o with
  | some b => .ok b st
  | none => .bad
@[simp] theorem optB_some {α : Type} (b : α) (st : Sto) : optB (some b) st = .ok b st := rfl
@[simp] theorem optB_none {α : Type} (st : Sto) : optB (none : Option α) st = .bad := rfl
theorem Po.optB {α : Type} {G : Gx} {Wx : WX} {s : L2.St} {P : α → List Addr → Hp → Prop} {r : List Addr} {H : Hp} {o : Option α} {st : Sto} (p : Po G Wx s P r H (optB o st)) (sm : Sim G r H st) : ∃ b, o = some b ∧ P b r H := by
  cases o with
  | none => exact p.elim
  | some b => exact ⟨b, rfl, Po.ok p sm⟩
/-- a value's truth as a test -/
def fTru (f : FE) : FT := fun env st => (f env st).bind fun x st1 => optB (truW st1 x) st1
section
variable {X : Cx} {Wx : WX} {pos : Pos} {a b c : Expr} {fa fb fc : FE} {ta tb : FT} {rest : List Expr}
theorem t_tru (h : PE X a (tE (gx X) Wx fa)) (he : ∀ whole, isTrue a X.env whole = (do let v ← whole; standAt a.pos; holding [v] (truthy v)) := by intro _; rfl) : PT X a (tT (gx X) Wx (fTru fa)) :=
  (pt_truth h he).imp fun s H Q h => by
    obtain ⟨env, l, st, en, sm, p⟩ := h
    refine ⟨env, l, st, en, sm, (Po.bind p).imp fun x l1 H1 g1 ⟨st1, sm1, _, p1⟩ vx rx => ?_⟩
    obtain ⟨k, e, q⟩ := Po.optB p1 sm1
    exact ⟨k, truW_rep sm1 rx e, q⟩
def fNotT (f : FT) : FT := fun env st => (f env st).bind fun x st1 => .ok (!x) st1
theorem t_not (h : PT X a (tT (gx X) Wx ta)) : PT X (.UnaryOp .Not a pos) (tT (gx X) Wx (fNotT ta)) := (pt_not h).imp fun s H Q h => by
  obtain ⟨env, l, st, en, sm, p⟩ := h
  exact ⟨env, l, st, en, sm, (Po.bind p).imp fun x l1 H1 g1 ⟨st1, sm1, _, p1⟩ => Po.ok p1 sm1⟩
def fAndT (f g : FT) : FT := fun env st => (f env st).bind fun x st1 => if x = true then g env st1 else .ok false st1
def fOrT (f g : FT) : FT := fun env st => (f env st).bind fun x st1 => if x = true then .ok true st1 else g env st1
theorem t_and1 (h : PT X a (tT (gx X) Wx ta)) : PW X (.BoolOp .And [a] pos) (tT (gx X) Wx ta) := pw_and1 h
theorem t_or1 (h : PT X a (tT (gx X) Wx ta)) : PW X (.BoolOp .Or [a] pos) (tT (gx X) Wx ta) := pw_or1 h
theorem t_and (h : PT X a (tT (gx X) Wx ta)) (h2 : PW X (.BoolOp .And (b :: rest) pos) (tT (gx X) Wx tb)) : PW X (.BoolOp .And (a :: b :: rest) pos) (tT (gx X) Wx (fAndT ta tb)) := (pw_and h h2).imp fun s H Q h => by
  obtain ⟨env, l, st, en, sm, p⟩ := h
  refine ⟨env, l, st, en, sm, (Po.bind p).imp fun x l1 H1 g1 ⟨st1, sm1, _, p1⟩ => ?_⟩
  cases x with
  | true => exact iteT ⟨env, l1, st1, en.grow g1, sm1, by simpa using p1⟩
  | false => exact iteF (Po.ok p1 sm1)
theorem t_or (h : PT X a (tT (gx X) Wx ta)) (h2 : PW X (.BoolOp .Or (b :: rest) pos) (tT (gx X) Wx tb)) : PW X (.BoolOp .Or (a :: b :: rest) pos) (tT (gx X) Wx (fOrT ta tb)) := (pw_or h h2).imp fun s H Q h => by
  obtain ⟨env, l, st, en, sm, p⟩ := h
  refine ⟨env, l, st, en, sm, (Po.bind p).imp fun x l1 H1 g1 ⟨st1, sm1, _, p1⟩ => ?_⟩
  cases x with
  | true => exact iteT (Po.ok p1 sm1)
  | false => exact iteF ⟨env, l1, st1, en.grow g1, sm1, by simpa using p1⟩
/-! ### and, or, not as values; a if t else b -/
def fOr (f g : FE) : FE := fun env st => (f env st).bind fun x st1 => (optB (truW st1 x) st1).bind fun k _ => if k = true then .ok x st1 else g env st1
def fAnd (f g : FE) : FE := fun env st => (f env st).bind fun x st1 => (optB (truW st1 x) st1).bind fun k _ => if k = true then g env st1 else .ok x st1
def fNot (f : FE) : FE := fun env st => (f env st).bind fun x st1 => (optB (truW st1 x) st1).bind fun k _ => .ok (.bl (!k)) st1
theorem e_one {op : BoolOp} (h : PE X a (tE (gx X) Wx fa)) : PE X (.BoolOp op [a] pos) (tE (gx X) Wx fa) := pe_one h
theorem e_or (h : PE X a (tE (gx X) Wx fa)) (h2 : PE X (.BoolOp .Or (b :: rest) pos) (tE (gx X) Wx fb)) : PE X (.BoolOp .Or (a :: b :: rest) pos) (tE (gx X) Wx (fOr fa fb)) := (pe_orT h h2).imp fun s H Q h => by
  obtain ⟨env, l, st, en, sm, p⟩ := h
  refine ⟨env, l, st, en, sm, (Po.bind p).imp fun x l1 H1 g1 ⟨st1, sm1, _, p1⟩ vx rx => ?_⟩
  cases e : truW st1 x with
  | none => rw [e] at p1; exact p1.elim
  | some k =>
    rw [e] at p1
    refine ⟨k, truW_rep sm1 rx e, ?_⟩
    cases k with
    | true => exact iteT (Po.ok p1 sm1 vx rx)
    | false => exact iteF ⟨env, l1, st1, en.grow g1, sm1, by simpa using p1⟩
theorem e_and (h : PE X a (tE (gx X) Wx fa)) (h2 : PE X (.BoolOp .And (b :: rest) pos) (tE (gx X) Wx fb)) : PE X (.BoolOp .And (a :: b :: rest) pos) (tE (gx X) Wx (fAnd fa fb)) := (pe_andT h h2).imp fun s H Q h => by
  obtain ⟨env, l, st, en, sm, p⟩ := h
  refine ⟨env, l, st, en, sm, (Po.bind p).imp fun x l1 H1 g1 ⟨st1, sm1, _, p1⟩ vx rx => ?_⟩
  cases e : truW st1 x with
  | none => rw [e] at p1; exact p1.elim
  | some k =>
    rw [e] at p1
    refine ⟨k, truW_rep sm1 rx e, ?_⟩
    cases k with
    | true => exact iteT ⟨env, l1, st1, en.grow g1, sm1, by simpa using p1⟩
    | false => exact iteF (Po.ok p1 sm1 vx rx)
theorem e_not (h : PE X a (tE (gx X) Wx fa)) : PE X (.UnaryOp .Not a pos) (tE (gx X) Wx (fNot fa)) := (pe_notT h).imp fun s H Q h => by
  obtain ⟨env, l, st, en, sm, p⟩ := h
  refine ⟨env, l, st, en, sm, (Po.bind p).imp fun x l1 H1 g1 ⟨st1, sm1, _, p1⟩ vx rx => ?_⟩
  cases e : truW st1 x with
  | none => rw [e] at p1; exact p1.elim
  | some k =>
    rw [e] at p1
    exact ⟨k, truW_rep sm1 rx e, Po.ok p1 sm1 _ (.bl _)⟩
def fIf (t : FT) (f g : FE) : FE := fun env st => (t env st).bind fun x st1 => if x = true then f env st1 else g env st1
theorem e_if (ht : PT X c (tT (gx X) Wx ta)) (h : PE X a (tE (gx X) Wx fa)) (h2 : PE X b (tE (gx X) Wx fb)) : PE X (.IfExp c a b pos) (tE (gx X) Wx (fIf ta fa fb)) := (pe_ifExp ht h h2).imp fun s H Q h => by
  obtain ⟨env, l, st, en, sm, p⟩ := h
  refine ⟨env, l, st, en, sm, (Po.bind p).imp fun x l1 H1 g1 ⟨st1, sm1, _, p1⟩ => ?_⟩
  cases x with
  | true => exact iteT ⟨env, l1, st1, en.grow g1, sm1, by simpa using p1⟩
  | false => exact iteF ⟨env, l1, st1, en.grow g1, sm1, by simpa using p1⟩
/-! ### unary minus -/
def fNeg (f : FE) : FE := fun env st => (f env st).bind fun x st1 => match x with
  | .int i => .ok (.int (-i)) st1
  | _ => .bad
theorem e_neg (h : PE X a (tE (gx X) Wx fa)) : PE X (.UnaryOp .USub a pos) (tE (gx X) Wx (fNeg fa)) := (pe_un un_neg h).imp fun s H Q h => by
  obtain ⟨env, l, st, en, sm, p⟩ := h
  refine ⟨env, l, st, en, sm, (Po.bind p).imp fun x l1 H1 g1 ⟨st1, sm1, _, p1⟩ vx rx => ?_⟩
  cases rx with
  | int i => exact ⟨i, rfl, Po.ok p1 sm1 _ (.int _)⟩
  | _ => exact p1.elim

/-! ### comparisons: g gives a truth -/
def OpRb (G : Gx) (r : R2) (g : W → W → Sto → Option Bool) : Prop := ∀ (x y : W) (st : Sto) (l : List Addr) (H : Hp) (vx vy : V) (Q : VK) (k : Bool), Sim G l H st → Rep G l H x vx → Rep G l H y vy → g x y st = some k → Q (.bl k) H → r vx vy H Q
def fCmp (g : W → W → Sto → Option Bool) (fa fb : FE) : FT := fun env st => (fa env st).bind fun x st1 => (fb env st1).bind fun y st2 => optB (g x y st2) st2
def fCmpE (g : W → W → Sto → Option Bool) (fa fb : FE) : FE := fun env st => (fa env st).bind fun x st1 => (fb env st1).bind fun y st2 => (optB (g x y st2) st2).bind fun k _ => .ok (.bl k) st2
theorem t_cmp {op : CmpOp} {r : R2} {g : W → W → Sto → Option Bool} (ho : OpR X (compareOp op) r) (hg : OpRb (gx X) r g) (ha : PE X a (tE (gx X) Wx fa)) (hb : PE X b (tE (gx X) Wx fb)) (hm : behindInMarks op b = false) : PT X (.Compare a [op] [b] pos) (tT (gx X) Wx (fCmp g fa fb)) :=
  (pt_cmpR ho ha hb hm).imp fun s H Q h => by
    obtain ⟨env, l, st, en, sm, p⟩ := h
    refine ⟨env, l, st, en, sm, (Po.bind p).imp fun x l1 H1 g1 ⟨st1, sm1, _, p1⟩ vx rx => ?_⟩
    refine ⟨env, l1, st1, en.grow g1, sm1, (Po.bind p1).imp fun y l2 H2 g2 ⟨st2, sm2, _, p2⟩ vy ry => ?_⟩
    obtain ⟨k, e, q⟩ := Po.optB p2 sm2
    exact hg x y st2 l2 H2 vx vy _ k sm2 (rx.grow g2) ry e ⟨k, rfl, q⟩
theorem e_cmp {op : CmpOp} {r : R2} {g : W → W → Sto → Option Bool} (ho : OpR X (compareOp op) r) (hg : OpRb (gx X) r g) (ha : PE X a (tE (gx X) Wx fa)) (hb : PE X b (tE (gx X) Wx fb)) (hm : behindInMarks op b = false) : PE X (.Compare a [op] [b] pos) (tE (gx X) Wx (fCmpE g fa fb)) :=
  (pe_cmpR ho ha hb hm).imp fun s H Q h => by
    obtain ⟨env, l, st, en, sm, p⟩ := h
    refine ⟨env, l, st, en, sm, (Po.bind p).imp fun x l1 H1 g1 ⟨st1, sm1, _, p1⟩ vx rx => ?_⟩
    refine ⟨env, l1, st1, en.grow g1, sm1, (Po.bind p1).imp fun y l2 H2 g2 ⟨st2, sm2, _, p2⟩ vy ry => ?_⟩
    cases e : g x y st2 with
    | none => rw [e] at p2; exact p2.elim
    | some k =>
      rw [e] at p2
      exact hg x y st2 l2 H2 vx vy _ k sm2 (rx.grow g2) ry e (Po.ok p2 sm2 _ (.bl k))
/-- a op b op' c -/
def fChn (g g' : W → W → Sto → Option Bool) (fa fb fc : FE) : FT := fun env st => (fa env st).bind fun x st1 => (fb env st1).bind fun y st2 => (optB (g x y st2) st2).bind fun k _ =>
  if k = true then (fc env st2).bind fun z st3 => optB (g' y z st3) st3 else .ok false st2
def fChnE (g g' : W → W → Sto → Option Bool) (fa fb fc : FE) : FE := fun env st => (fa env st).bind fun x st1 => (fb env st1).bind fun y st2 => (optB (g x y st2) st2).bind fun k _ =>
  if k = true then (fc env st2).bind fun z st3 => (optB (g' y z st3) st3).bind fun k _ => .ok (.bl k) st3 else .ok (.bl false) st2
theorem t_chn {op op' : CmpOp} {r r' : R2} {g g' : W → W → Sto → Option Bool} (ho : OpR X (compareOp op) r) (hg : OpRb (gx X) r g) (ho' : OpR X (compareOp op') r') (hg' : OpRb (gx X) r' g') (ha : PE X a (tE (gx X) Wx fa)) (hb : PE X b (tE (gx X) Wx fb)) (hc : PE X c (tE (gx X) Wx fc))
    (hm : lastMarks [op, op'] [b, c] = false := by with_unfolding_all rfl) : PT X (.Compare a [op, op'] [b, c] pos) (tT (gx X) Wx (fChn g g' fa fb fc)) :=
  (pt_chain ho ho' ha hb hc hm).imp fun s H Q h => by
    obtain ⟨env, l, st, en, sm, p⟩ := h
    refine ⟨env, l, st, en, sm, (Po.bind p).imp fun x l1 H1 g1 ⟨st1, sm1, _, p1⟩ vx rx => ?_⟩
    refine ⟨env, l1, st1, en.grow g1, sm1, (Po.bind p1).imp fun y l2 H2 g2 ⟨st2, sm2, _, p2⟩ vy ry => ?_⟩
    cases e : g x y st2 with
    | none => rw [e] at p2; exact p2.elim
    | some k =>
      rw [e] at p2
      refine hg x y st2 l2 H2 vx vy _ k sm2 (rx.grow g2) ry e ⟨k, rfl, ?_⟩
      cases k with
      | false => exact iteF ⟨false, rfl, Po.ok p2 sm2⟩
      | true =>
        simp only [optB_some, An.bind_ok, if_true] at p2
        refine iteT ⟨env, l2, st2, (en.grow g1).grow g2, sm2, (Po.bind p2).imp fun z l3 H3 g3 ⟨st3, sm3, _, p3⟩ vz rz => ?_⟩
        obtain ⟨k, e, q⟩ := Po.optB p3 sm3
        exact hg' y z st3 l3 H3 vy vz _ k sm3 (ry.grow g3) rz e ⟨k, rfl, q⟩
theorem e_chn {op op' : CmpOp} {r r' : R2} {g g' : W → W → Sto → Option Bool} (ho : OpR X (compareOp op) r) (hg : OpRb (gx X) r g) (ho' : OpR X (compareOp op') r') (hg' : OpRb (gx X) r' g') (ha : PE X a (tE (gx X) Wx fa)) (hb : PE X b (tE (gx X) Wx fb)) (hc : PE X c (tE (gx X) Wx fc))
    (hm : lastMarks [op, op'] [b, c] = false := by with_unfolding_all rfl) : PE X (.Compare a [op, op'] [b, c] pos) (tE (gx X) Wx (fChnE g g' fa fb fc)) :=
  (pe_chain ho ho' ha hb hc hm).imp fun s H Q h => by
    obtain ⟨env, l, st, en, sm, p⟩ := h
    refine ⟨env, l, st, en, sm, (Po.bind p).imp fun x l1 H1 g1 ⟨st1, sm1, _, p1⟩ vx rx => ?_⟩
    refine ⟨env, l1, st1, en.grow g1, sm1, (Po.bind p1).imp fun y l2 H2 g2 ⟨st2, sm2, _, p2⟩ vy ry => ?_⟩
    cases e : g x y st2 with
    | none => rw [e] at p2; exact p2.elim
    | some k =>
      rw [e] at p2
      refine hg x y st2 l2 H2 vx vy _ k sm2 (rx.grow g2) ry e ⟨k, rfl, ?_⟩
      cases k with
      | false => exact iteF (Po.ok p2 sm2 _ (.bl _))
      | true =>
        simp only [optB_some, An.bind_ok, if_true] at p2
        refine iteT ⟨env, l2, st2, (en.grow g1).grow g2, sm2, (Po.bind p2).imp fun z l3 H3 g3 ⟨st3, sm3, _, p3⟩ vz rz => ?_⟩
        cases e : g' y z st3 with
        | none => rw [e] at p3; exact p3.elim
        | some k =>
          rw [e] at p3
          exact hg' y z st3 l3 H3 vy vz _ k sm3 (ry.grow g3) rz e (Po.ok p3 sm3 _ (.bl k))
end

/-! ### <, <=, >, >= of whole numbers -/
def wIb (f : Int → Int → Bool) : W → W → Sto → Option Bool
  | .int i, .int j, _ => some (f i j)
  | _, _, _ => none
theorem rb_I {G : Gx} {f : Int → Int → Bool} : OpRb G (rI0 fun i j => .bl (f i j)) (wIb f) := by
  intro x y st l H vx vy Q k sm rx ry e q
  cases rx <;> cases ry <;> first | cases e | skip
  exact ⟨_, _, rfl, rfl, q⟩
def wLt : W → W → Sto → Option Bool := wIb fun i j => decide (i < j)
def wLe : W → W → Sto → Option Bool := wIb fun i j => decide (i ≤ j)
def wGt : W → W → Sto → Option Bool := wIb fun i j => decide (j < i)
def wGe : W → W → Sto → Option Bool := wIb fun i j => decide (j ≤ i)

/-! ### is None -/
def wIsN : W → W → Sto → Option Bool
  | .non, .non, _ => some true
  | _, .non, _ => some false
  | _, _, _ => none
def wNotN : W → W → Sto → Option Bool := fun x y st => (wIsN x y st).map (!·)
theorem wIsN_rep {G : Gx} {l : List Addr} {H : Hp} {x y : W} {vx vy : V} {k : Bool} {st : Sto} (rx : Rep G l H x vx) (ry : Rep G l H y vy) (e : wIsN x y st = some k) : vy = .non ∧ k = decide (vx = .non) := by
  cases ry <;> cases rx <;> first | (cases e; exact ⟨rfl, by simp⟩) | cases e
theorem rb_isN {G : Gx} : OpRb G (fun x y H Q => y = .non ∧ Q (.bl (decide (x = .non))) H) wIsN := by
  intro x y st l H vx vy Q k sm rx ry e q
  obtain ⟨h1, h2⟩ := wIsN_rep rx ry e
  exact ⟨h1, by rw [← h2]; exact q⟩
theorem rb_notN {G : Gx} : OpRb G (fun x y H Q => y = .non ∧ Q (.bl (!decide (x = .non))) H) wNotN := by
  intro x y st l H vx vy Q k sm rx ry e q
  unfold wNotN at e
  cases e2 : wIsN x y st with
  | none => rw [e2] at e; cases e
  | some k' =>
    rw [e2] at e
    cases e
    obtain ⟨h1, h2⟩ := wIsN_rep rx ry e2
    exact ⟨h1, by rw [← h2]; exact q⟩

/-! ### ==, != -/
def toD (st : Sto) : Nat → W → Option PyData
  | 0, _ => none
  | k + 1, x => match x with
    | .non => some .none
    | .bl b => some (.bool b)
    | .int i => some (.int i)
    | .str y => if PyData.canLay0 (.str y) = true then some (.str y) else none
    | .tup l => (l.mapM (toD st k)).map .tuple
    | .rol l => (l.mapM (toD st k)).map .list
    | .ref n => match st[n]? with
      | some (.lst l) => (l.mapM (toD st k)).map .list
      | _ => none
    | _ => none
theorem mapM_some {α β : Type} {f : α → Option β} : ∀ {l : List α} {m : List β}, l.mapM f = some m → ∀ {P : List α → List β → Prop}, P [] [] → (∀ a b l m, f a = some b → P l m → P (a :: l) (b :: m)) → P l m
  | [], m, h, P, h0, _ => by
    simp at h
    subst h
    exact h0
  | a :: l, m, h, P, h0, h1 => by
    rw [List.mapM_cons] at h
    cases e : f a with
    | none => rw [e] at h; cases h
    | some b =>
      rw [e] at h
      cases e2 : l.mapM f with
      | none => simp [e2] at h
      | some m' =>
        simp [e2] at h
        subst h
        exact h1 a b l m' e (mapM_some e2 h0 h1)
theorem toD_ok {G : Gx} {r : List Addr} {H : Hp} {st : Sto} (sm : Sim G r H st) : ∀ (k : Nat) {x : W} {v : V} {d : PyData}, toD st k x = some d → Rep G r H x v → Dp G.K H v d ∧ d.canLay0 = true ∧ d.depth ≤ k
  | 0, x, v, d, e, _ => by simp [toD] at e
  | k + 1, x, v, d, e, h => by
    have all : ∀ {l : List W} {vs : List V} {ds : List PyData}, l.mapM (toD st k) = some ds → RepL G r H l vs → DpAll G.K H vs ds ∧ PyData.canLayAll0 ds = true ∧ PyData.depthAll ds ≤ k := fun {l vs ds} e q => by
      refine mapM_some e (P := fun l ds => ∀ vs, RepL G r H l vs → DpAll G.K H vs ds ∧ PyData.canLayAll0 ds = true ∧ PyData.depthAll ds ≤ k) (fun vs q => ?_) (fun a b l m ea ih vs q => ?_) vs q
      · cases q
        exact ⟨.nil, by simp [PyData.canLayAll0], by simp [PyData.depthAll]⟩
      · cases q with
        | cons q1 q2 =>
          obtain ⟨h1, h2, h3⟩ := toD_ok sm k ea q1
          obtain ⟨i1, i2, i3⟩ := ih _ q2
          exact ⟨.cons h1 i1, by simp [PyData.canLayAll0, h2, i2], by simp only [PyData.depthAll]; omega⟩
    cases h with
    | non => cases e; exact ⟨.non, by simp [PyData.canLay0], by simp [PyData.depth]⟩
    | bl b => cases e; exact ⟨.bl b, by simp [PyData.canLay0], by simp [PyData.depth]⟩
    | int b => cases e; exact ⟨.int b, by simp [PyData.canLay0], by simp [PyData.depth]⟩
    | str b =>
      simp only [toD] at e
      split at e
      · rename_i hc
        cases e
        exact ⟨.str b, hc, by simp [PyData.depth]⟩
      · cases e
    | tup h q =>
      simp only [toD] at e
      obtain ⟨ds, e1, rfl⟩ := Option.map_eq_some_iff.mp e
      obtain ⟨h1, h2, h3⟩ := all e1 q
      exact ⟨.tup h h1, by simpa [PyData.canLay0] using h2, by simp only [PyData.depth]; omega⟩
    | rol h q =>
      simp only [toD] at e
      obtain ⟨ds, e1, rfl⟩ := Option.map_eq_some_iff.mp e
      obtain ⟨h1, h2, h3⟩ := all e1 q
      exact ⟨.lst h.sq h1, by simpa [PyData.canLay0] using h2, by simp only [PyData.depth]; omega⟩
    | ref h =>
      simp only [toD] at e
      split at e
      · rename_i l hl
        obtain ⟨ds, e1, rfl⟩ := Option.map_eq_some_iff.mp e
        obtain ⟨vs, e2, q⟩ := sm.got hl h
        obtain ⟨h1, h2, h3⟩ := all e1 q
        exact ⟨.lst (.inl (.inl e2)) h1, by simpa [PyData.canLay0] using h2, by simp only [PyData.depth]; omega⟩
      · cases e
    | ty n => simp [toD] at e
    | gl h => simp [toD] at e
theorem toD_shaped {d : PyData} (h : d.canLay0 = true) (k : d.depth ≤ 64) : SeqAt.shaped d = true := by
  unfold SeqAt.shaped
  rw [h, decide_eq_true k]
  rfl
def eqW (st : Sto) : W → W → Option Bool
  | .int i, .int j => some (decide (i = j))
  | .str i, .str j => some (decide (i = j))
  | x, y => (toD st 64 x).bind fun d => (toD st 64 y).map fun e => PyData.eqv d e
def wEq : W → W → Sto → Option Bool := fun x y st => eqW st x y
def wNe : W → W → Sto → Option Bool := fun x y st => (eqW st x y).map (!·)
def rEqW (K : PySem.W.Frag) : R2 := fun x y H Q => rEq x y H Q ∨ rEqD K x y H Q
def rNeW (K : PySem.W.Frag) : R2 := fun x y H Q => rNe x y H Q ∨ rNeD K x y H Q
theorem op_eqW {X : Cx} (hu : X.A.units + 64 < cLine) : OpR X (compareOp .Eq) (rEqW X.K) := op_eq.or (op_eqD hu)
theorem op_neW {X : Cx} (hu : X.A.units + 64 < cLine) : OpR X (compareOp .NotEq) (rNeW X.K) := op_ne.or (op_neD hu)
theorem eqW_rep {G : Gx} {r : List Addr} {H : Hp} {st : Sto} (sm : Sim G r H st) {x y : W} {vx vy : V} {k : Bool} (rx : Rep G r H x vx) (ry : Rep G r H y vy) (e : eqW st x y = some k) :
    (scal vx vy = true ∧ k = decide (vx = vy)) ∨ ∃ d d', Dp G.K H vx d ∧ Dp G.K H vy d' ∧ SeqAt.shaped d = true ∧ SeqAt.shaped d' = true ∧ k = PyData.eqv d d' := by
  have deep : ((toD st 64 x).bind fun d => (toD st 64 y).map fun e => PyData.eqv d e) = some k → (scal vx vy = true ∧ k = decide (vx = vy)) ∨ ∃ d d', Dp G.K H vx d ∧ Dp G.K H vy d' ∧ SeqAt.shaped d = true ∧ SeqAt.shaped d' = true ∧ k = PyData.eqv d d' := fun e => by
    obtain ⟨d, e1, e⟩ := Option.bind_eq_some_iff.mp e
    obtain ⟨d', e2, e⟩ := Option.map_eq_some_iff.mp e
    obtain ⟨h1, h2, h3⟩ := toD_ok sm 64 e1 rx
    obtain ⟨i1, i2, i3⟩ := toD_ok sm 64 e2 ry
    exact .inr ⟨d, d', h1, i1, toD_shaped h2 h3, toD_shaped i2 i3, e.symm⟩
  cases rx with
  | int i =>
    cases ry with
    | int j => cases e; exact .inl ⟨rfl, by simp⟩
    | _ => exact deep e
  | str i =>
    cases ry with
    | str j => cases e; exact .inl ⟨rfl, by simp⟩
    | _ => exact deep e
  | _ => exact deep e
theorem rb_eq {G : Gx} : OpRb G (rEqW G.K) wEq := by
  intro x y st l H vx vy Q k sm rx ry e q
  rcases eqW_rep sm rx ry e with ⟨h1, rfl⟩ | ⟨d, d', h1, h2, h3, h4, rfl⟩
  · exact .inl ⟨h1, q⟩
  · exact .inr ⟨d, d', h1, h2, h3, h4, q⟩
theorem rb_ne {G : Gx} : OpRb G (rNeW G.K) wNe := by
  intro x y st l H vx vy Q k sm rx ry e q
  unfold wNe at e
  obtain ⟨k', e1, rfl⟩ := Option.map_eq_some_iff.mp e
  rcases eqW_rep sm rx ry e1 with ⟨h1, rfl⟩ | ⟨d, d', h1, h2, h3, h4, rfl⟩
  · exact .inl ⟨h1, q⟩
  · exact .inr ⟨d, d', h1, h2, h3, h4, q⟩

/-! ### in, not in: a list or tuple of flat things, one sign in a text -/
def flatW : W → Bool
  | .non => true | .bl _ => true | .int _ => true | .str _ => true
  | _ => false
def eqFW : W → W → Bool
  | .non, .non => true
  | .bl a, .bl b => a == b
  | .bl a, .int b => (if a then 1 else 0) == b
  | .int a, .bl b => a == (if b then 1 else 0)
  | .int a, .int b => a == b
  | .str a, .str b => a == b
  | _, _ => false
def inFW (x : W) (xs : List W) : Bool := xs.any fun y => eqFW y x
/-- the items of a list or a tuple -/
def getS (st : Sto) : W → Option (List W)
  | .tup l => some l
  | x => getL st x
def wIn : W → W → Sto → Option Bool
  | x, .str z, _ => match x with
    | .str i => match i.cps.toList with
      | [c] => some (decide (c ∈ z.cps.toList))
      | _ => none
    | _ => none
  | x, y, st => match getS st y with
    | some l => if flatW x = true ∧ l.all flatW = true then some (inFW x l) else none
    | none => none
def wNotIn : W → W → Sto → Option Bool := fun x y st => (wIn x y st).map (!·)
theorem flat_rep {G : Gx} {r : List Addr} {H : Hp} {x : W} {v : V} (h : Rep G r H x v) : flatV v = flatW x := by cases h <;> rfl
theorem flats_rep {G : Gx} {r : List Addr} {H : Hp} : ∀ {l : List W} {vs : List V}, RepL G r H l vs → vs.all flatV = l.all flatW
  | _, _, .nil => rfl
  | _, _, .cons h k => by rw [List.all_cons, List.all_cons, flat_rep h, flats_rep k]
theorem eqF_rep {G : Gx} {r : List Addr} {H : Hp} {x y : W} {v u : V} (h : Rep G r H x v) (k : Rep G r H y u) : eqV v u = eqFW x y := by cases h <;> cases k <;> rfl
theorem inF_rep {G : Gx} {r : List Addr} {H : Hp} {x : W} {v : V} (h : Rep G r H x v) : ∀ {l : List W} {vs : List V}, RepL G r H l vs → inV v vs = inFW x l
  | _, _, .nil => rfl
  | _, _, .cons q k => by
    have ih := inF_rep h k
    unfold inV inFW at *
    rw [List.any_cons, List.any_cons, eqF_rep q h, ih]
def rInW (K : PySem.W.Frag) : R2 := fun x y H Q => rIn K false x y H Q ∨ ∃ (c : Nat) (z : Str), x = .str ⟨#[c]⟩ ∧ y = .str z ∧ Q (.bl (decide (c ∈ z.cps.toList))) H
def rNotInW (K : PySem.W.Frag) : R2 := fun x y H Q => rIn K true x y H Q ∨ ∃ (c : Nat) (z : Str), x = .str ⟨#[c]⟩ ∧ y = .str z ∧ Q (.bl (!decide (c ∈ z.cps.toList))) H
theorem op_inW {X : Cx} : OpR X (compareOp .In) (rInW X.K) := op_in_seq.or op_in_sign
theorem op_notInW {X : Cx} : OpR X (compareOp .NotIn) (rNotInW X.K) := op_notIn_seq.or op_notIn_sign
theorem wIn_rep {G : Gx} {r : List Addr} {H : Hp} {st : Sto} (sm : Sim G r H st) {x y : W} {vx vy : V} {k : Bool} (rx : Rep G r H x vx) (ry : Rep G r H y vy) (e : wIn x y st = some k) :
    (∃ p xs, vy = .ref p ∧ (SqL G.K H p xs ∨ SqT G.K H p xs) ∧ flatV vx = true ∧ xs.all flatV = true ∧ k = inV vx xs) ∨ ∃ (c : Nat) (z : Str), vx = .str ⟨#[c]⟩ ∧ vy = .str z ∧ k = decide (c ∈ z.cps.toList) := by
  have sq : ∀ {l : List W}, getS st y = some l → ∃ p xs, vy = .ref p ∧ (SqL G.K H p xs ∨ SqT G.K H p xs) ∧ RepL G r H l xs := fun {l} e => by
    cases ry with
    | tup h q => cases e; exact ⟨_, _, rfl, .inr h, q⟩
    | rol h q => obtain ⟨a, vs, e1, h, q⟩ := getL_rep sm (.rol h q) e; exact ⟨a, vs, e1, .inl h, q⟩
    | ref h => obtain ⟨a, vs, e1, h, q⟩ := getL_rep sm (.ref h) e; exact ⟨a, vs, e1, .inl h, q⟩
    | _ => simp [getS, getL] at e
  have gen : (match getS st y with | some l => if flatW x = true ∧ l.all flatW = true then some (inFW x l) else none | none => none) = some k →
      ∃ p xs, vy = .ref p ∧ (SqL G.K H p xs ∨ SqT G.K H p xs) ∧ flatV vx = true ∧ xs.all flatV = true ∧ k = inV vx xs := fun e => by
    cases e1 : getS st y with
    | none => rw [e1] at e; cases e
    | some l =>
      simp only [e1] at e
      obtain ⟨p, xs, h1, h2, q⟩ := sq e1
      split at e
      · rename_i hc
        cases e
        exact ⟨p, xs, h1, h2, by rw [flat_rep rx]; exact hc.1, by rw [flats_rep q]; exact hc.2, (inF_rep rx q).symm⟩
      · cases e
  cases ry with
  | str z =>
    cases rx with
    | str i =>
      simp only [wIn] at e
      split at e
      · rename_i c hc
        cases e
        have ei : i = ⟨#[c]⟩ := ext_toList (by rw [hc])
        subst ei
        exact .inr ⟨c, z, rfl, rfl, rfl⟩
      · cases e
    | _ => cases e
  | tup h q => exact .inl (gen e)
  | rol h q => exact .inl (gen e)
  | ref h => exact .inl (gen e)
  | _ => simp [wIn, getS, getL] at e
theorem rb_in {G : Gx} : OpRb G (rInW G.K) wIn := by
  intro x y st l H vx vy Q k sm rx ry e q
  rcases wIn_rep sm rx ry e with ⟨p, xs, h1, h2, h3, h4, rfl⟩ | ⟨c, z, h1, h2, rfl⟩
  · exact .inl ⟨p, xs, h1, h2, h3, h4, q⟩
  · exact .inr ⟨c, z, h1, h2, q⟩
theorem rb_notIn {G : Gx} : OpRb G (rNotInW G.K) wNotIn := by
  intro x y st l H vx vy Q k sm rx ry e q
  unfold wNotIn at e
  obtain ⟨k', e1, rfl⟩ := Option.map_eq_some_iff.mp e
  rcases wIn_rep sm rx ry e1 with ⟨p, xs, h1, h2, h3, h4, rfl⟩ | ⟨c, z, h1, h2, rfl⟩
  · exact .inl ⟨p, xs, h1, h2, h3, h4, q⟩
  · exact .inr ⟨c, z, h1, h2, q⟩
end Sw
/-! Sw5: displays, places, slices, calls. -/
namespace Sw
open PySem PySem.Spec PyProof.Rows L2

section
variable {X : Cx} {Wx : WX} {pos : Pos} {a b c e : Expr} {fa fb fc : FE} {ta tb : FT} {es : List Expr}
/-! ### argument lists, displays -/
def fNil : FA := fun _ st => .ok [] st
def fCons (f : FE) (g : FA) : FA := fun env st => (f env st).bind fun w st1 => (g env st1).bind fun ws st2 => .ok (w :: ws) st2
theorem a_nil : PA X [] (tL (gx X) Wx fNil) := pa_nil.imp fun s H Q h => by
  obtain ⟨env, l, st, en, sm, p⟩ := h
  exact Po.ok p sm _ .nil
theorem a_cons {g : FA} (h : PE X e (tE (gx X) Wx fa)) (h2 : PA X es (tL (gx X) Wx g)) (hs : starEach (e :: es) X.env = (false, eval e X.env) :: starEach es X.env := by rfl) : PA X (e :: es) (tL (gx X) Wx (fCons fa g)) := (pa_cons h h2 hs).imp fun s H Q h => by
  obtain ⟨env, l, st, en, sm, p⟩ := h
  refine ⟨env, l, st, en, sm, (Po.bind p).imp fun x l1 H1 g1 ⟨st1, sm1, _, p1⟩ vx rx => ?_⟩
  refine ⟨env, l1, st1, en.grow g1, sm1, (Po.bind p1).imp fun y l2 H2 g2 ⟨st2, sm2, _, p2⟩ vy ry => ?_⟩
  exact Po.ok p2 sm2 _ (.cons (rx.grow g2) ry)
def fTup (f : FA) : FE := fun env st => (f env st).bind fun ws st1 => if ws.length ≤ 1000 then .ok (.tup ws) st1 else .bad
def fLst (f : FA) : FE := fun env st => (f env st).bind fun ws st1 => if ws.length ≤ 1000 then .ok (.ref st1.length) (st1 ++ [.lst ws]) else .bad
theorem line1000 {n : Nat} (h : n ≤ 1000) : n ≤ sizeLine := Nat.le_trans h (by decide)
theorem e_tup {f : FA} {k : Nat} (h : PA X es (tL (gx X) Wx f)) : PE X (.Tuple es k pos) (tE (gx X) Wx (fTup f)) := (pe_tup h).imp fun s H Q h => by
  obtain ⟨env, l, st, en, sm, p⟩ := h
  refine ⟨env, l, st, en, sm, (Po.bind p).imp fun x l1 H1 g1 ⟨st1, sm1, _, p1⟩ vx rx => ?_⟩
  obtain ⟨hz, p1⟩ := ite_bad p1
  exact ⟨by rw [← rx.length]; exact line1000 hz, Po.newT sm1 rx p1⟩
theorem e_lst {f : FA} (h : PA X es (tL (gx X) Wx f)) : PE X (.List es pos) (tE (gx X) Wx (fLst f)) := (pe_lst h).imp fun s H Q h => by
  obtain ⟨env, l, st, en, sm, p⟩ := h
  refine ⟨env, l, st, en, sm, (Po.bind p).imp fun x l1 H1 g1 ⟨st1, sm1, _, p1⟩ vx rx => ?_⟩
  obtain ⟨hz, p1⟩ := ite_bad p1
  exact ⟨by rw [← rx.length]; exact line1000 hz, Po.newL sm1 rx p1⟩

/-! ### x[i] -/
def wIx : W → W → Sto → Option W
  | .str z, .int i, _ => if z.length ≤ sizeLine then (atI z.cps.toList i).map fun c => .str ⟨#[c]⟩ else none
  | x, .int i, st => (getS st x).bind fun l => atI l i
  | _, _, _ => none
theorem getS_rep {G : Gx} {r : List Addr} {H : Hp} {st : Sto} {x : W} {v : V} {l : List W} (sm : Sim G r H st) (h : Rep G r H x v) (e : getS st x = some l) : ∃ p xs, v = .ref p ∧ (SqL G.K H p xs ∨ SqT G.K H p xs) ∧ RepL G r H l xs := by
  cases h with
  | tup h q => cases e; exact ⟨_, _, rfl, .inr h, q⟩
  | rol h q => obtain ⟨a, vs, e1, h, q⟩ := getL_rep sm (.rol h q) e; exact ⟨a, vs, e1, .inl h, q⟩
  | ref h => obtain ⟨a, vs, e1, h, q⟩ := getL_rep sm (.ref h) e; exact ⟨a, vs, e1, .inl h, q⟩
  | _ => simp [getS, getL] at e
theorem atI_rep {G : Gx} {r : List Addr} {H : Hp} {l : List W} {vs : List V} {i : Int} {w : W} (q : RepL G r H l vs) (e : atI l i = some w) : ∃ v, atI vs i = some v ∧ Rep G r H w v := by
  unfold atI at e ⊢
  rw [← q.length]
  cases h : ixN l.length i with
  | none => rw [h] at e; cases e
  | some j =>
    rw [h] at e
    obtain ⟨v, h1, h2⟩ := q.get (show l[j]? = some w from e)
    exact ⟨v, h1, h2⟩
def wIxA : W → W → Sto → An W := fun x y st => optB (wIx x y st) st
theorem rf_ix {G : Gx} : OpRf G (rIx G.K) wIxA := by
  intro x y st l H vx vy Q Wx s sm rx ry p
  obtain ⟨w, e, q⟩ := Po.optB p sm
  cases ry with
  | int i =>
    have gen : (getS st x).bind (fun l => atI l i) = some w → rIx G.K vx (.int i) H Q := fun e => by
      obtain ⟨l', e1, e2⟩ := Option.bind_eq_some_iff.mp e
      obtain ⟨p', xs, rfl, h1, k⟩ := getS_rep sm rx e1
      obtain ⟨v, h2, h3⟩ := atI_rep k e2
      rcases h1 with h1 | h1
      · exact .inl ⟨p', xs, i, v, rfl, rfl, h1, h2, q v h3⟩
      · exact .inr (.inl ⟨p', xs, i, v, rfl, rfl, h1, h2, q v h3⟩)
    cases rx with
    | str z =>
      simp only [wIx] at e
      split at e
      · rename_i hz
        obtain ⟨c, e1, rfl⟩ := Option.map_eq_some_iff.mp e
        exact .inr (.inr ⟨z, i, c, rfl, rfl, hz, e1, q _ (.str _)⟩)
      · cases e
    | _ => exact gen e
  | _ => cases rx <;> cases e
theorem e_ix (ha : PE X a (tE (gx X) Wx fa)) (hb : PE X b (tE (gx X) Wx fb)) (hs : PlainIx b := by exact fun _ _ => rfl) : PE X (.Subscript a b pos) (tE (gx X) Wx (fBin wIxA fa fb)) := (pe_ix ix_seq ha hb hs).imp fun s H Q h => bin_imp rf_ix h

/-! ### x[i:j] -/
abbrev FO := En → Sto → An (Option Int)
def tO (G : Gx) (Wx : WX) (f : FO) : TO := fun s H Q => ∃ env r st, EnR G r H env s ∧ Sim G r H st ∧ Po G Wx s (fun o _ H' => Q o H') r H (f env st)
theorem _root_.L2.PO.imp {X : Cx} {e : Option Expr} {t t' : TO} (h : PO X e t) (k : ∀ s H Q, t' s H Q → t s H Q) : PO X e t' := ⟨fun pins s σ H Q I q => h.run pins s σ H Q I (k _ _ _ q)⟩
def fNo : FO := fun _ st => .ok none st
def fSo (f : FE) : FO := fun env st => (f env st).bind fun w st1 => match w with
  | .int i => .ok (some i) st1
  | _ => .bad
theorem o_none : PO X none (tO (gx X) Wx fNo) := po_none.imp fun s H Q h => by
  obtain ⟨env, l, st, en, sm, p⟩ := h
  exact Po.ok p sm
theorem o_some (h : PE X a (tE (gx X) Wx fa)) : PO X (some a) (tO (gx X) Wx (fSo fa)) := (po_some h).imp fun s H Q h => by
  obtain ⟨env, l, st, en, sm, p⟩ := h
  refine ⟨env, l, st, en, sm, (Po.bind p).imp fun x l1 H1 g1 ⟨st1, sm1, _, p1⟩ vx rx => ?_⟩
  cases rx with
  | int i => exact ⟨i, rfl, Po.ok p1 sm1⟩
  | _ => exact p1.elim
def cutL {α : Type} (xs : List α) (lo hi : Option Int) : List α := (xs.drop (HT.sIx xs.length 0 lo)).take (HT.sIx xs.length xs.length hi - HT.sIx xs.length 0 lo)
theorem cut_rep {G : Gx} {r : List Addr} {H : Hp} {l : List W} {vs : List V} (lo hi : Option Int) (q : RepL G r H l vs) : RepL G r H (cutL l lo hi) (cutV vs lo hi) := by
  unfold cutL cutV
  rw [q.length]
  exact (q.drop _).take _
def wSl : W → Option Int → Option Int → Sto → An W
  | .str z, lo, hi, st => if z.length ≤ sizeLine then .ok (.str (cutS z lo hi)) st else .bad
  | .tup l, lo, hi, st => .ok (.tup (cutL l lo hi)) st
  | x, lo, hi, st => match getL st x with
    | some l => .ok (.ref st.length) (st ++ [.lst (cutL l lo hi)])
    | none => .bad
def fSl (f : FE) (lo hi : FO) : FE := fun env st => (f env st).bind fun x st1 => (lo env st1).bind fun l st2 => (hi env st2).bind fun h st3 => wSl x l h st3
def rSlW (K : PySem.W.Frag) : V → Option Int → Option Int → Hp → VK → Prop := fun x lo hi H Q => rSlL K x lo hi H Q ∨ rSlA K x lo hi H Q ∨ rSlS x lo hi H Q
theorem sl_W : SlR X (rSlW X.K) := sl_list.or (sl_tupA.or sl_str)
theorem e_sl {lo hi : Option Expr} {flo fhi : FO} {p2 : Pos} (h : PE X a (tE (gx X) Wx fa)) (hl : PO X lo (tO (gx X) Wx flo)) (hh : PO X hi (tO (gx X) Wx fhi)) : PE X (.Subscript a (.Slice lo hi none p2) pos) (tE (gx X) Wx (fSl fa flo fhi)) := (pe_slice sl_W h hl hh).imp fun s H Q h => by
  obtain ⟨env, l, st, en, sm, p⟩ := h
  refine ⟨env, l, st, en, sm, (Po.bind p).imp fun x l1 H1 g1 ⟨st1, sm1, _, p1⟩ vx rx => ?_⟩
  refine ⟨env, l1, st1, en.grow g1, sm1, (Po.bind p1).imp fun lo l2 H2 g2 ⟨st2, sm2, _, p2⟩ => ?_⟩
  refine ⟨env, l2, st2, (en.grow g1).grow g2, sm2, (Po.bind p2).imp fun hi l3 H3 g3 ⟨st3, sm3, _, p3⟩ => ?_⟩
  have rx := (rx.grow g2).grow g3
  have gen : Po (gx X) Wx s (fun w r' H' => ∀ v, Rep (gx X) r' H' w v → Q v H') l3 H3 (match getL st3 x with | some l => .ok (.ref st3.length) (st3 ++ [.lst (cutL l lo hi)]) | none => .bad) → rSlW X.K vx lo hi H3 Q := fun p3 => by
    cases e : getL st3 x with
    | none => rw [e] at p3; exact p3.elim
    | some l =>
      rw [e] at p3
      obtain ⟨a, vs, rfl, h, k⟩ := getL_rep sm3 rx e
      exact .inl ⟨a, vs, rfl, h, Po.newL sm3 (cut_rep lo hi k) p3⟩
  cases rx with
  | str z =>
    obtain ⟨hz, p3⟩ := ite_bad p3
    exact .inr (.inr ⟨z, rfl, hz, Po.ok p3 sm3 _ (.str _)⟩)
  | @tup l' a vs h k =>
    refine .inr (.inl ⟨a, vs, rfl, h, fun e => ?_, fun _ => Po.newT sm3 (cut_rep lo hi k) p3⟩)
    have ec : cutL l' lo hi = l' := by
      unfold cutL
      rw [k.length, e.1, e.2, List.drop_zero, Nat.sub_zero]
      exact List.take_of_length_le (Nat.le_of_eq k.length)
    refine Po.ok p3 sm3 _ (.tup h ?_)
    rw [ec]
    exact k
  | _ => exact gen p3
/-- x[::-1] -/
def fRev (f : FE) : FE := fun env st => (f env st).bind fun x st1 => match getL st1 x with
  | some l => .ok (.ref st1.length) (st1 ++ [.lst l.reverse])
  | none => .bad
theorem e_rev {k : Nat} {p1 p2 p3 : Pos} (h : PE X a (tE (gx X) Wx fa)) : PE X (.Subscript a (.Slice none none (some (.UnaryOp .USub (.Constant (.int 1) k p1) p2)) p3) pos) (tE (gx X) Wx (fRev fa)) := (pe_revL h).imp fun s H Q h => by
  obtain ⟨env, l, st, en, sm, p⟩ := h
  refine ⟨env, l, st, en, sm, (Po.bind p).imp fun x l1 H1 g1 ⟨st1, sm1, _, p1⟩ vx rx => ?_⟩
  cases e : getL st1 x with
  | none => rw [e] at p1; exact p1.elim
  | some l =>
    rw [e] at p1
    obtain ⟨a, vs, rfl, h, k⟩ := getL_rep sm1 rx e
    exact ⟨a, vs, rfl, h, Po.newL sm1 k.reverse p1⟩

/-! ### calls of built-ins -/
def CaRf (G : Gx) (r : List V → Hp → VK → Prop) (g : List W → Sto → An W) : Prop := ∀ (ws : List W) (st : Sto) (l : List Addr) (H : Hp) (vs : List V) (Q : VK) (Wx : WX) (s : L2.St), Sim G l H st → RepL G l H ws vs →
  Po G Wx s (fun w r' H' => ∀ v, Rep G r' H' w v → Q v H') l H (g ws st) → r vs H Q
def fCall (g : List W → Sto → An W) (f : FA) : FE := fun env st => (f env st).bind g
theorem cb_imp {G : Gx} {r : List V → Hp → VK → Prop} {g : List W → Sto → An W} {f : FA} (hg : CaRf G r g) {s : L2.St} {H : Hp} {Q : VK} (h : tE G Wx (fCall g f) s H Q) : tCB r (tL G Wx f) s H Q := by
  obtain ⟨env, l, st, en, sm, p⟩ := h
  exact ⟨env, l, st, en, sm, (Po.bind p).imp fun x l1 H1 g1 ⟨st1, sm1, _, p1⟩ vx rx => hg x st1 l1 H1 vx Q Wx s sm1 rx p1⟩
theorem e_cb {x : Str} {p : Pos} {id : String} {r : List V → Hp → VK → Prop} {g : List W → Sto → An W} {f : FA} (hc : CallR X (.builtin id) r) (hr : CaRf (gx X) r g) (hg : Gl X x) (hm : X.mg x = none) (hv : bootBuiltins x = some (.builtin id)) (ha : PA X (e :: es) (tL (gx X) Wx f)) (hn : x ≠ "__name__" := by decide) (hdb : (x == ("__debug__" : Str)) = false := by decide)
    (he : starEach (e :: es) X.env = (false, eval e X.env) :: starEach es X.env := by rfl) (hpl : (backTo pos (starEach es X.env)).any (·.1) = false := by rfl) : PE X (.Call (.Name x p) (e :: es) [] pos) (tE (gx X) Wx (fCall g f)) := (pe_callB hc hg hm hv ha hn hdb he hpl).imp fun s H Q h => cb_imp hr h
theorem e_ct {x : Str} {p : Pos} {T : String} {r : List V → Hp → VK → Prop} {g : List W → Sto → An W} {f : FA} (hc : CallR X (.type T) r) (hr : CaRf (gx X) r g) (hg : Gl X x) (hm : X.mg x = none) (hv : bootBuiltins x = some (.type T)) (ha : PA X (e :: es) (tL (gx X) Wx f)) (hn : x ≠ "__name__" := by decide) (hdb : (x == ("__debug__" : Str)) = false := by decide)
    (he : starEach (e :: es) X.env = (false, eval e X.env) :: starEach es X.env := by rfl) (hpl : (backTo pos (starEach es X.env)).any (·.1) = false := by rfl) : PE X (.Call (.Name x p) (e :: es) [] pos) (tE (gx X) Wx (fCall g f)) := (pe_callTy hc hg hm hv ha hn hdb he hpl).imp fun s H Q h => cb_imp hr h
end

/-- len -/
def wLen : List W → Sto → An W
  | [.str z], st => if z.length ≤ sizeLine then .ok (.int z.length) st else .bad
  | [.ref n], st => match st[n]? with
    | some (.lst l) => .ok (.int l.length) st
    | some (.dct l) => .ok (.int l.length) st
    | _ => .bad
  | [.tup l], st => .ok (.int l.length) st
  | [.rol l], st => .ok (.int l.length) st
  | _, _ => .bad
def rLenW (K : PySem.W.Frag) : List V → Hp → VK → Prop := fun xs H Q => (∃ p ys, xs = [.ref p] ∧ (SqL K H p ys ∨ SqT K H p ys) ∧ Q (.int ys.length) H) ∨ (∃ z, xs = [.str z] ∧ z.length ≤ sizeLine ∧ Q (.int z.length) H) ∨ ∃ d kvs, xs = [.ref d] ∧ H d = some (.dK kvs) ∧ Q (.int kvs.length) H
theorem RepD.length {G : Gx} {r : List Addr} {H : Hp} {ws : List (Key × W)} {vs : List (Key × V)} (k : RepD G r H ws vs) : ws.length = vs.length := by
  induction k with
  | nil => rfl
  | cons _ _ ih => simp [ih]
theorem rf_len {G : Gx} : CaRf G (rLenW G.K) wLen := by
  intro ws st l H vs Q Wx s sm rx p
  cases rx with
  | nil => exact p.elim
  | cons h k =>
    cases k with
    | cons h2 k2 => cases h <;> exact p.elim
    | nil =>
      cases h with
      | str z =>
        obtain ⟨hz, p⟩ := ite_bad p
        exact .inr (.inl ⟨z, rfl, hz, Po.ok p sm _ (.int _)⟩)
      | tup h k => exact .inl ⟨_, _, rfl, .inr h, by rw [← k.length]; exact Po.ok p sm _ (.int _)⟩
      | rol h k => exact .inl ⟨_, _, rfl, .inl h.sq, by rw [← k.length]; exact Po.ok p sm _ (.int _)⟩
      | ref h =>
        simp only [wLen] at p
        split at p
        · rename_i l' e
          obtain ⟨vs, e2, k⟩ := sm.got e h
          exact .inl ⟨_, _, rfl, .inl (.inl (.inl e2)), by rw [← k.length]; exact Po.ok p sm _ (.int _)⟩
        · rename_i l' e
          obtain ⟨vs, e2, k⟩ := sm.got e h
          exact .inr (.inr ⟨_, _, rfl, e2, by rw [← k.length]; exact Po.ok p sm _ (.int _)⟩)
        · exact p.elim
      | _ => exact p.elim
section
variable {X : Cx}
theorem cr_lenW : CallR X (.builtin "len") (rLenW X.K) := call_len_seq.or (call_len_str.or fun pins s σ H xs us Q I r h => by
  obtain ⟨d, kvs, e, h1, q⟩ := h
  exact call_lenD pins s σ H xs us Q I r ⟨d, kvs, e, h1, q⟩)
end
/-- all, any: truths in a list -/
def getB : List W → Option (List Bool)
  | [] => some []
  | .bl b :: l => (getB l).map (b :: ·)
  | _ => none
theorem getB_rep {G : Gx} {r : List Addr} {H : Hp} : ∀ {l : List W} {vs : List V} {bs : List Bool}, RepL G r H l vs → getB l = some bs → vs = bs.map V.bl
  | _, _, _, .nil, e => by cases e; rfl
  | _, _, _, .cons h k, e => by
    cases h with
    | bl b =>
      simp only [getB] at e
      obtain ⟨bs', e1, rfl⟩ := Option.map_eq_some_iff.mp e
      rw [getB_rep k e1]
      rfl
    | _ => simp [getB] at e
def wBl (f : List Bool → Bool) : List W → Sto → An W
  | [x], st => (optB ((getL st x).bind getB) st).bind fun bs _ => .ok (.bl (f bs)) st
  | _, _ => .bad
def wAll : List W → Sto → An W := wBl fun bs => bs.all id
def wAny : List W → Sto → An W := wBl fun bs => bs.any id
theorem wBl_ok {G : Gx} {f : List Bool → Bool} {ws : List W} {st : Sto} {l : List Addr} {H : Hp} {vs : List V} {Q : VK} {Wx : WX} {s : L2.St} (sm : Sim G l H st) (rx : RepL G l H ws vs)
    (p : Po G Wx s (fun w r' H' => ∀ v, Rep G r' H' w v → Q v H') l H (wBl f ws st)) : ∃ (a : Addr) (bs : List Bool), vs = [V.ref a] ∧ SqL G.K H a (bs.map V.bl) ∧ Q (.bl (f bs)) H := by
  cases rx with
  | nil => exact p.elim
  | cons h k =>
    cases k with
    | cons h2 k2 => exact p.elim
    | nil =>
      rename_i w v
      simp only [wBl] at p
      cases e : (getL st w).bind getB with
      | none => rw [e] at p; exact p.elim
      | some bs =>
        rw [e] at p
        obtain ⟨l', e1, e2⟩ := Option.bind_eq_some_iff.mp e
        obtain ⟨a, vs, rfl, h1, k⟩ := getL_rep sm h e1
        have ev := getB_rep k e2
        subst ev
        exact ⟨a, bs, rfl, h1, Po.ok p sm _ (.bl _)⟩
theorem rf_all {G : Gx} : CaRf G (rAll G.K) wAll := fun ws st l H vs Q Wx s sm rx p => wBl_ok sm rx p
theorem rf_any {G : Gx} : CaRf G (rAny G.K) wAny := fun ws st l H vs Q Wx s sm rx p => wBl_ok sm rx p
/-- whole numbers in a list -/
def getI : List W → Option (List Int)
  | [] => some []
  | .int b :: l => (getI l).map (b :: ·)
  | _ => none
theorem getI_rep {G : Gx} {r : List Addr} {H : Hp} : ∀ {l : List W} {vs : List V} {bs : List Int}, RepL G r H l vs → getI l = some bs → vs = bs.map V.int
  | _, _, _, .nil, e => by cases e; rfl
  | _, _, _, .cons h k, e => by
    cases h with
    | int b =>
      simp only [getI] at e
      obtain ⟨bs', e1, rfl⟩ := Option.map_eq_some_iff.mp e
      rw [getI_rep k e1]
      rfl
    | _ => simp [getI] at e
theorem getI_map : ∀ ns : List Int, getI (ns.map W.int) = some ns
  | [] => rfl
  | n :: ns => by simp [getI, getI_map ns]
/-- the greatest -/
def maxI : List Int → Int
  | [] => 0
  | [x] => x
  | x :: y :: l => max x (maxI (y :: l))
theorem maxI_mem : ∀ {l : List Int}, l ≠ [] → maxI l ∈ l ∧ ∀ y ∈ l, y ≤ maxI l
  | [], h => absurd rfl h
  | [x], _ => ⟨by simp [maxI], by simp [maxI]⟩
  | x :: y :: l, _ => by
    obtain ⟨h1, h2⟩ := maxI_mem (l := y :: l) (by simp)
    simp only [maxI]
    refine ⟨?_, fun z hz => ?_⟩
    · by_cases h : x ≤ maxI (y :: l)
      · rw [Int.max_eq_right h]
        exact List.mem_cons_of_mem _ h1
      · rw [Int.max_eq_left (by omega)]
        exact List.mem_cons_self
    · rcases List.mem_cons.mp hz with e | hz
      · subst e; exact Int.le_max_left _ _
      · exact Int.le_trans (h2 z hz) (Int.le_max_right _ _)
def wMax : List W → Sto → An W
  | [x], st => (optB ((getL st x).bind getI) st).bind fun ns _ => if ns ≠ [] then .ok (.int (maxI ns)) st else .bad
  | [.int i, .int j], st => .ok (.int (if j > i then j else i)) st
  | _, _ => .bad
def rMaxW (K : PySem.W.Frag) : List V → Hp → VK → Prop := fun vs H Q => rMax K vs H Q ∨ ∃ i j, vs = [.int i, .int j] ∧ Q (.int (if j > i then j else i)) H
theorem rf_max {G : Gx} : CaRf G (rMaxW G.K) wMax := by
  intro ws st l H vs Q Wx s sm rx p
  cases rx with
  | nil => exact p.elim
  | cons h k =>
    cases k with
    | cons h2 k2 =>
      cases k2 with
      | nil => cases h <;> cases h2 <;> first | exact p.elim | exact .inr ⟨_, _, rfl, Po.ok p sm _ (.int _)⟩
      | cons _ _ => cases h <;> cases h2 <;> exact p.elim
    | nil =>
      rename_i w v
      simp only [wMax] at p
      cases e : (getL st w).bind getI with
      | none => rw [e] at p; exact p.elim
      | some ns =>
        rw [e] at p
        obtain ⟨hz, p⟩ := ite_bad p
        obtain ⟨l', e1, e2⟩ := Option.bind_eq_some_iff.mp e
        obtain ⟨a, vs, rfl, h1, k⟩ := getL_rep sm h e1
        have ev := getI_rep k e2
        subst ev
        refine .inl ⟨a, ns, rfl, h1, List.length_pos_iff.mpr hz, fun m hm hle => ?_⟩
        obtain ⟨i1, i2⟩ := maxI_mem hz
        have em : m = maxI ns := Int.le_antisymm (i2 m hm) (hle _ i1)
        rw [em]
        exact Po.ok p sm _ (.int _)
theorem cr_maxW {X : Cx} (hc : X.calm = true) : CallR X (.builtin "max") (rMaxW X.K) := (cr_max hc).or (call_max2 hc)
def wMin2 : List W → Sto → An W
  | [.int i, .int j], st => .ok (.int (if j < i then j else i)) st
  | _, _ => .bad
theorem rf_min {G : Gx} : CaRf G (fun xs H Q => ∃ i j, xs = [.int i, .int j] ∧ Q (.int (if j < i then j else i)) H) wMin2 := by
  intro ws st l H vs Q Wx s sm rx p
  cases rx with
  | nil => exact p.elim
  | cons h k =>
    cases k with
    | nil => cases h <;> exact p.elim
    | cons h2 k2 =>
      cases k2 with
      | nil => cases h <;> cases h2 <;> first | exact p.elim | exact ⟨_, _, rfl, Po.ok p sm _ (.int _)⟩
      | cons _ _ => cases h <;> cases h2 <;> exact p.elim
def wAbs : List W → Sto → An W
  | [.int i], st => .ok (.int (if i < 0 then -i else i)) st
  | _, _ => .bad
theorem rf_abs {G : Gx} : CaRf G (fun xs H Q => ∃ i, xs = [.int i] ∧ Q (.int (if i < 0 then -i else i)) H) wAbs := by
  intro ws st l H vs Q Wx s sm rx p
  cases rx with
  | nil => exact p.elim
  | cons h k =>
    cases k with
    | nil => cases h <;> first | exact p.elim | exact ⟨_, rfl, Po.ok p sm _ (.int _)⟩
    | cons _ _ => cases h <;> exact p.elim
def wInt : List W → Sto → An W
  | [.int i], st => .ok (.int i) st
  | [.bl k], st => .ok (.int (if k then 1 else 0)) st
  | _, _ => .bad
theorem rf_int {G : Gx} : CaRf G (fun xs H Q => (∃ i, xs = [.int i] ∧ Q (.int i) H) ∨ ∃ k, xs = [.bl k] ∧ Q (.int (if k then 1 else 0)) H) wInt := by
  intro ws st l H vs Q Wx s sm rx p
  cases rx with
  | nil => exact p.elim
  | cons h k =>
    cases k with
    | nil => cases h <;> first | exact p.elim | exact .inl ⟨_, rfl, Po.ok p sm _ (.int _)⟩ | exact .inr ⟨_, rfl, Po.ok p sm _ (.int _)⟩
    | cons _ _ => cases h <;> exact p.elim
def wStr : List W → Sto → An W
  | [.int i], st => if i.natAbs < 10 ^ 400 then .ok (.str (toString i)) st else .bad
  | _, _ => .bad
theorem rf_str {G : Gx} : CaRf G (fun xs H Q => ∃ i, xs = [.int i] ∧ i.natAbs.log2 < 1920 ∧ Q (.str (toString i)) H) wStr := by
  intro ws st l H vs Q Wx s sm rx p
  cases rx with
  | nil => exact p.elim
  | cons h k =>
    cases k with
    | nil =>
      cases h with
      | int i =>
        obtain ⟨hz, p⟩ := ite_bad p
        have hb : i.natAbs < 2 ^ 1920 := Nat.lt_of_lt_of_le hz (by decide +kernel)
        exact ⟨_, rfl, PySem.Flt.log2_lt_of (by decide) hb, Po.ok p sm _ (.str _)⟩
      | _ => exact p.elim
    | cons _ _ => cases h <;> exact p.elim
/-- list(x), tuple(x) -/
def wList : List W → Sto → An W
  | [x], st => match getS st x with
    | some l => .ok (.ref st.length) (st ++ [.lst l])
    | none => .bad
  | _, _ => .bad
def wTuple : List W → Sto → An W
  | [.tup l], st => .ok (.tup l) st
  | [x], st => match getL st x with
    | some l => .ok (.tup l) st
    | none => .bad
  | _, _ => .bad
theorem rf_list {G : Gx} : CaRf G (fun xs H Q => ∃ p ys, xs = [.ref p] ∧ (SqL G.K H p ys ∨ SqT G.K H p ys) ∧ ∀ l, H l = none → Q (.ref l) (upd H l (.lst ys))) wList := by
  intro ws st l H vs Q Wx s sm rx p
  cases rx with
  | nil => exact p.elim
  | cons h k =>
    cases k with
    | cons _ _ => exact p.elim
    | nil =>
      rename_i w v
      simp only [wList] at p
      split at p
      · rename_i l' e
        obtain ⟨a, xs, rfl, h1, k⟩ := getS_rep sm h e
        exact ⟨a, xs, rfl, h1, Po.newL sm k p⟩
      · exact p.elim
theorem rf_tuple {G : Gx} : CaRf G (fun xs H Q => ∃ p ys, xs = [.ref p] ∧ ((SqL G.K H p ys ∧ ∀ l, H l = none → Q (.ref l) (upd H l (.tup ys))) ∨ (SqT G.K H p ys ∧ Q (.ref p) H))) wTuple := by
  intro ws st l H vs Q Wx s sm rx p
  cases rx with
  | nil => exact p.elim
  | cons h k =>
    cases k with
    | cons _ _ => cases h <;> exact p.elim
    | nil =>
      have gen : ∀ {w : W} {v : V}, Rep G l H w v → Po G Wx s (fun w r' H' => ∀ v, Rep G r' H' w v → Q v H') l H (match getL st w with | some l => .ok (.tup l) st | none => .bad) → ∃ p ys, [v] = [.ref p] ∧ ((SqL G.K H p ys ∧ ∀ l, H l = none → Q (.ref l) (upd H l (.tup ys))) ∨ (SqT G.K H p ys ∧ Q (.ref p) H)) := fun {w v} h p => by
        split at p
        · rename_i l' e
          obtain ⟨a, xs, rfl, h1, k⟩ := getL_rep sm h e
          exact ⟨a, xs, rfl, .inl ⟨h1, Po.newT sm k p⟩⟩
        · exact p.elim
      cases h with
      | tup h k => exact ⟨_, _, rfl, .inr ⟨h, Po.ok p sm _ (.tup h k)⟩⟩
      | rol h k => exact gen (.rol h k) p
      | ref h => exact gen (.ref h) p
      | _ => exact p.elim
end Sw
/-! Sw6: statements, targets, loops, comprehensions. -/
namespace Sw
open PySem PySem.Spec PyProof.Rows L2

def An.toS {α : Type} (m : An α) (env : En) (k : α → Sto → SA) : SA := match m with
  | .ok a st => k a st
  | .ex C fs st => .ex C fs env st
  | .bad => .bad
@[simp] theorem An.toS_ok {α : Type} (a : α) (st : Sto) (env : En) (k : α → Sto → SA) : (An.ok a st).toS env k = k a st := rfl
@[simp] theorem An.toS_ex {α : Type} (C : Str) (fs : Flds) (st : Sto) (env : En) (k : α → Sto → SA) : (An.ex C fs st : An α).toS env k = .ex C fs env st := rfl
@[simp] theorem An.toS_bad {α : Type} (env : En) (k : α → Sto → SA) : (An.bad : An α).toS env k = .bad := rfl
theorem SPo.toS {G : Gx} {Wx : WX} {D : Ends} {s : L2.St} {α : Type} {m : An α} {env : En} {k : α → Sto → SA} {r : List Addr} {H : Hp} (en : EnR G r H env s) (h : SPo G Wx D r H (m.toS env k)) :
    Po G Wx s (fun a r1 H1 => ∃ st1, Sim G r1 H1 st1 ∧ Grow r H r1 H1 ∧ SPo G Wx D r1 H1 (k a st1)) r H m := by
  cases m with
  | ok a st => exact fun r' H' g q => ⟨st, q, g, SPo.grow g h⟩
  | ex C fs st => exact fun r' H' ca d g q x => h r' H' s ca d g q (en.grow g) x
  | bad => exact h

section
variable {X : Cx} {Wx : WX} {pos : Pos} {a b c e : Expr} {fa fb fc : FE} {ta tb : FT} {es : List Expr} {sa sb : FS} {st1 : Stmt} {rest body orelse : List Stmt}
/-! ### blocks -/
def fNext : FS := fun env st => .nx env st
def fSeq (f g : FS) : FS := fun env st => match f env st with
  | .nx env1 st1 => g env1 st1
  | o => o
theorem s_nil : PSs X [] (tS (gx X) Wx fNext) := pss_nil.imp fun D s H h => by
  obtain ⟨env, l, st, en, sm, p⟩ := h
  exact p l H s (Grow.refl l H) sm en
theorem s_one (h : PS X st1 (tS (gx X) Wx sa)) : PSs X [st1] (tS (gx X) Wx sa) := pss_one h
theorem s_cons (h : PS X st1 (tS (gx X) Wx sa)) (h2 : PSs X rest (tS (gx X) Wx sb)) : PSs X (st1 :: rest) (tS (gx X) Wx (fSeq sa sb)) := (pss_cons h h2).imp fun D s H h => by
  obtain ⟨env, l, st, en, sm, p⟩ := h
  refine ⟨env, l, st, en, sm, ?_⟩
  unfold fSeq at p
  cases e : sa env st with
  | nx env1 st1 =>
    rw [e] at p
    exact fun r' H' s' g sm' en' => ⟨env1, r', st1, en', sm', SPo.grow g p⟩
  | rt w st => rw [e] at p; exact p
  | bk env st => rw [e] at p; exact p
  | ct env st => rw [e] at p; exact p
  | ex C fs env st => rw [e] at p; exact p
  | bad => rw [e] at p; exact p
theorem s_pass : PS X (.Pass pos) (tS (gx X) Wx fNext) := ps_pass.imp fun D s H h => by
  obtain ⟨env, l, st, en, sm, p⟩ := h
  exact p l H s (Grow.refl l H) sm en
theorem s_doc {x : Str} {j : Nat} {p1 : Pos} : PS X (.Expr (.Constant (.str x) j p1) pos) (tS (gx X) Wx fNext) := ps_doc.imp fun D s H h => by
  obtain ⟨env, l, st, en, sm, p⟩ := h
  exact p l H s (Grow.refl l H) sm en
def fBrk : FS := fun env st => .bk env st
def fCnt : FS := fun env st => .ct env st
theorem s_break : PS X (.Break pos) (tS (gx X) Wx fBrk) := ps_break.imp fun D s H h => by
  obtain ⟨env, l, st, en, sm, p⟩ := h
  exact p l H s (Grow.refl l H) sm en
theorem s_continue : PS X (.Continue pos) (tS (gx X) Wx fCnt) := ps_continue.imp fun D s H h => by
  obtain ⟨env, l, st, en, sm, p⟩ := h
  exact p l H s (Grow.refl l H) sm en
def fDrop (f : FE) : FS := fun env st => (f env st).toS env fun _ st1 => .nx env st1
def fRet (f : FE) : FS := fun env st => (f env st).toS env fun w st1 => .rt w st1
def fRetN : FS := fun _ st => .rt .non st
theorem s_expr (h : PE X e (tE (gx X) Wx fa)) (hs : swapsWith e none pos.line X.env = pure false := by rfl) : PS X (.Expr e pos) (tS (gx X) Wx (fDrop fa)) := (ps_expr h hs).imp fun D s H h => by
  obtain ⟨env, l, st, en, sm, p⟩ := h
  exact ⟨env, l, st, en, sm, (SPo.toS en p).imp fun x l1 H1 g1 ⟨st1, sm1, _, p1⟩ vx rx => p1 l1 H1 s (Grow.refl l1 H1) sm1 (en.grow g1)⟩
theorem s_ret (h : PE X e (tE (gx X) Wx fa)) : PS X (.Return (some e) pos) (tS (gx X) Wx (fRet fa)) := (ps_ret h).imp fun D s H h => by
  obtain ⟨env, l, st, en, sm, p⟩ := h
  exact ⟨env, l, st, en, sm, (SPo.toS en p).imp fun x l1 H1 g1 ⟨st1, sm1, _, p1⟩ vx rx => p1 l1 H1 vx (Grow.refl l1 H1) sm1 rx⟩
theorem s_retN : PS X (.Return none pos) (tS (gx X) Wx fRetN) := ps_retN.imp fun D s H h => by
  obtain ⟨env, l, st, en, sm, p⟩ := h
  exact p l H .non (Grow.refl l H) sm .non
def fIfS (t : FT) (f g : FS) : FS := fun env st => (t env st).toS env fun k st1 => if k = true then f env st1 else g env st1
theorem s_if (h : PT X c (tT (gx X) Wx ta)) (h1 : PSs X body (tS (gx X) Wx sa)) (h2 : PSs X orelse (tS (gx X) Wx sb)) : PS X (.If c body orelse pos) (tS (gx X) Wx (fIfS ta sa sb)) := (ps_if h h1 h2).imp fun D s H h => by
  obtain ⟨env, l, st, en, sm, p⟩ := h
  refine ⟨env, l, st, en, sm, (SPo.toS en p).imp fun x l1 H1 g1 ⟨st1, sm1, _, p1⟩ => ?_⟩
  cases x with
  | true => exact iteT ⟨env, l1, st1, en.grow g1, sm1, by simpa using p1⟩
  | false => exact iteF ⟨env, l1, st1, en.grow g1, sm1, by simpa using p1⟩

/-! ### targets -/
abbrev FG := W → En → Sto → SA
abbrev W0 : WX := fun _ _ _ _ => False
def nxE (Q : L2.St → Hp → Prop) : Ends := { nx := Q, rt := fun _ _ => False }
def tG (G : Gx) (f : FG) : TG := fun v s H Q => ∃ w env r st, Rep G r H w v ∧ EnR G r H env s ∧ Sim G r H st ∧ SPo G W0 (nxE Q) r H (f w env st)
theorem _root_.L2.PG.imp {X : Cx} {e : Expr} {t t' : TG} (h : PG X e t) (k : ∀ v s H Q, t' v s H Q → t v s H Q) : PG X e t' := ⟨fun pins s σ H v u Q I r q => h.run pins s σ H v u Q I r (k _ _ _ _ q)⟩
theorem _root_.L2.PGs.imp {X : Cx} {e : List Expr} {t t' : TGs} (h : PGs X e t) (k : ∀ v s H Q, t' v s H Q → t v s H Q) : PGs X e t' := ⟨fun pins s σ H v u Q I r q => h.run pins s σ H v u Q I r (k _ _ _ _ q)⟩
def gN (i : Nat) : FG := fun w env st => .nx (env.set i (some w)) st
theorem g_name {i : Nat} {x : Str} (hN : X.N.Nodup) (hi : X.N[i]? = some x := by rfl) (hx : Loc X.env.scope x := by first | exact Or.inl rfl | exact Or.inr rfl) (hf : X.fn x = true ∨ X.env.scope.names.lookup x = some .local := by first | exact .inl rfl | exact .inr rfl | assumption) : PG X (.Name x pos) (tG (gx X) (gN i)) := (pg_name hN hi hx hf).imp fun v s H Q h => by
  obtain ⟨w, env, r, st, rw', en, sm, p⟩ := h
  exact p r H _ (Grow.refl r H) sm (en.set rw')
abbrev FGs := List W → En → Sto → SA
def tGs (G : Gx) (f : FGs) : TGs := fun vs s H Q => ∃ ws env r st, RepL G r H ws vs ∧ EnR G r H env s ∧ Sim G r H st ∧ SPo G W0 (nxE Q) r H (f ws env st)
def gsNil : FGs := fun ws env st => match ws with
  | [] => .nx env st
  | _ => .bad
def gsCons (g : FG) (gs : FGs) : FGs := fun ws env st => match ws with
  | w :: ws => match g w env st with
    | .nx env1 st1 => gs ws env1 st1
    | _ => .bad
  | [] => .bad
theorem gs_nil : PGs X [] (tGs (gx X) gsNil) := pgs_nil.imp fun vs s H Q h => by
  obtain ⟨ws, env, r, st, rw', en, sm, p⟩ := h
  cases rw' with
  | nil => exact ⟨rfl, p r H s (Grow.refl r H) sm en⟩
  | cons _ _ => exact p.elim
theorem gs_cons {f : FG} {g : FGs} (h1 : PG X e (tG (gx X) f)) (h2 : PGs X es (tGs (gx X) g)) (hs : (assignEach (e :: es) X.env).map (·.2) = assign e X.env :: (assignEach es X.env).map (·.2) := by rfl) : PGs X (e :: es) (tGs (gx X) (gsCons f g)) := (pgs_cons h1 h2 hs).imp fun vs s H Q h => by
  obtain ⟨ws, env, r, st, rw', en, sm, p⟩ := h
  cases rw' with
  | nil => exact p.elim
  | cons q k =>
    refine ⟨_, _, rfl, _, env, r, st, q, en, sm, ?_⟩
    simp only [gsCons] at p
    split at p
    · rename_i env1 st1 e1
      rw [e1]
      exact fun r' H' s' g sm' en' => ⟨_, env1, r', st1, k.grow g, en', sm', SPo.grow g p⟩
    · exact p.elim
def gTupW (n : Nat) (gs : FGs) : FG := fun w env st => match w with
  | .tup l => if l.length = n then gs l env st else .bad
  | _ => .bad
theorem g_tup {k : Nat} {g : FGs} {n : Nat} (h : PGs X es (tGs (gx X) g)) (hc : X.calm = true := by rfl) (hn : (assignEach es X.env).length = n := by rfl) (hst : (assignEach es X.env).findIdx? (·.1) = none := by rfl) : PG X (.Tuple es k pos) (tG (gx X) (gTupW n g)) := (pg_tup hc h hn hst).imp fun v s H Q h => by
  obtain ⟨w, env, r, st, rw', en, sm, p⟩ := h
  cases rw' with
  | @tup l a vs h k =>
    simp only [gTupW] at p
    split at p
    · rename_i hl
      exact ⟨a, vs, rfl, h, by rw [← k.length]; exact hl, l, env, r, st, k, en, sm, p⟩
    · exact p.elim
  | _ => exact p.elim
/-- x[i] = w -/
def wSet (o i w : W) (st : Sto) : Option Sto := match o, i with
  | .ref n, .int k => match st[n]? with
    | some (.lst l) => (ixN l.length k).map fun j => st.set n (.lst (l.set j w))
    | _ => none
  | _, _ => none
def gSubW (fo fi : FE) : FG := fun w env st => match (fo env st).bind fun o st1 => (fi env st1).bind fun i st2 => optB ((wSet o i w st2)) st2 with
  | .ok st' _ => .nx env st'
  | _ => .bad
theorem wSet_rep {G : Gx} {r : List Addr} {H : Hp} {st st' : Sto} (sm : Sim G r H st) {o i w : W} {vo vi v : V} (ro : Rep G r H o vo) (ri : Rep G r H i vi) (rw' : Rep G r H w v) (e : wSet o i w st = some st') {Q : Hp → Prop}
    (q : ∀ H', Stay H H' → Sim G r H' st' → Q H') : rSetL vo vi v H Q := by
  cases ro with
  | @ref n a h =>
    cases ri with
    | int k =>
      simp only [wSet] at e
      split at e
      · rename_i l hl
        obtain ⟨j, e1, rfl⟩ := Option.map_eq_some_iff.mp e
        obtain ⟨vs, e2, kk⟩ := sm.got hl h
        have sy : Stay H (upd H a (.lst (vs.set j v))) := Stay.lst e2
        refine ⟨a, vs, k, j, rfl, rfl, e2, by rw [← kk.length]; exact e1, q _ sy (sm.put h e2 (fun _ z => by cases z) sy ⟨_, upd_same, ?_⟩)⟩
        exact (RepL.set rw' j kk).grow (Grow.same sy)
      · cases e
    | _ => cases e
  | _ => cases e
theorem g_sub (ho : PE X a (tE (gx X) Wx fa)) (hi : PE X b (tE (gx X) Wx fb))
    (ha : ∀ v, assign (.Subscript a b pos) X.env v = (do
      let ov ← holding [v] (eval a X.env)
      let iv ← holding [v, ov] (eval b X.env)
      standAt pos
      holding [v, ov, iv] (setItem ov iv v)
      release [v, ov, iv] []) := by intro _; rfl) : PG X (.Subscript a b pos) (tG (gx X) (gSubW fa fb)) := (pg_sub ho hi set_list ha).imp fun v s H Q h => by
  obtain ⟨w, env, r, st, rw', en, sm, p⟩ := h
  unfold gSubW at p
  cases e1 : fa env st with
  | ex C fs st1 => rw [e1] at p; exact p.elim
  | bad => rw [e1] at p; exact p.elim
  | ok o st1 =>
    rw [e1] at p
    cases e2 : fb env st1 with
    | ex C fs st2 => simp only [An.bind_ok, e2, An.bind_ex] at p; exact p.elim
    | bad => simp only [An.bind_ok, e2, An.bind_bad] at p; exact p.elim
    | ok i st2 =>
      simp only [An.bind_ok, e2] at p
      cases e3 : wSet o i w st2 with
      | none => simp only [e3, optB_none] at p; exact p.elim
      | some st' =>
        simp only [e3, optB_some] at p
        refine ⟨env, r, st, en, sm, ?_⟩
        rw [e1]
        intro r1 H1 g1 sm1 vo ro
        refine ⟨env, r1, st1, en.grow g1, sm1, ?_⟩
        rw [e2]
        intro r2 H2 g2 sm2 vi ri
        exact wSet_rep sm2 (ro.grow g2) ri ((rw'.grow g1).grow g2) e3 fun H' sy sm' => p r2 H' s ((g1.trans g2).trans (Grow.same sy)) sm' (((en.grow g1).grow g2).grow (Grow.same sy))
def fAsg (f : FE) (g : FG) : FS := fun env st => (f env st).toS env fun w st1 => match g w env st1 with
  | .nx env2 st2 => .nx env2 st2
  | _ => .bad
theorem s_asg {g : FG} {tg : Expr} (h : PE X e (tE (gx X) Wx fa)) (hg : PG X tg (tG (gx X) g)) (hs : swapsWithSole [tg] e pos.line X.env = pure false := by rfl) (hw : swappedStores [tg] e X.env = pure none := by rfl)
    (h1 : (assignEach [tg] X.env).map (·.2) = [assign tg X.env] := by rfl) : PS X (.Assign [tg] e pos) (tS (gx X) Wx (fAsg fa g)) := (ps_asg h hg hs hw h1).imp fun D s H h => by
  obtain ⟨env, l, st, en, sm, p⟩ := h
  refine ⟨env, l, st, en, sm, (SPo.toS en p).imp fun x l1 H1 g1 ⟨st1, sm1, _, p1⟩ vx rx => ?_⟩
  refine ⟨x, env, l1, st1, rx, en.grow g1, sm1, ?_⟩
  split at p1
  · rename_i e1
    rw [e1]
    exact p1
  · exact p1.elim
def fSet (i : Nat) (f : FE) : FS := fun env st => (f env st).toS env fun w st1 => .nx (env.set i (some w)) st1
theorem s_set {i : Nat} {x : Str} {p' : Pos} (hN : X.N.Nodup) (h : PE X e (tE (gx X) Wx fa)) (hi : X.N[i]? = some x := by rfl) (hx : Loc X.env.scope x := by first | exact Or.inl rfl | exact Or.inr rfl) (hs : swapsWith e (some (.Name x p')) pos.line X.env = pure false := by rfl) (hf : X.fn x = true ∨ X.env.scope.names.lookup x = some .local := by first | exact .inl rfl | exact .inr rfl | assumption) :
    PS X (.Assign [.Name x p'] e pos) (tS (gx X) Wx (fSet i fa)) := (ps_set hN hi hx h hs hf).imp fun D s H h => by
  obtain ⟨env, l, st, en, sm, p⟩ := h
  exact ⟨env, l, st, en, sm, (SPo.toS en p).imp fun x l1 H1 g1 ⟨st1, sm1, _, p1⟩ vx rx => p1 l1 H1 _ (Grow.refl l1 H1) sm1 ((en.grow g1).set rx)⟩
/-- x op= e -/
def fAug (i : Nat) (g : W → W → Sto → An W) (f : FE) : FS := fun env st => (fVar i env st).toS env fun x st0 => ((f env st0).bind fun y st1 => g x y st1).toS env fun z st2 => .nx (env.set i (some z)) st2
theorem s_aug {i : Nat} {x : Str} {p' : Pos} {op : Operator} {r : R2} {g : W → W → Sto → An W} (hN : X.N.Nodup) (ho : OpR X (inplaceOp op) r) (hg : OpRf (gx X) r g) (h : PE X e (tE (gx X) Wx fa)) (hi : X.N[i]? = some x := by rfl) (hx : Loc X.env.scope x := by first | exact Or.inl rfl | exact Or.inr rfl)
    (hf : X.fn x = true ∨ X.env.scope.names.lookup x = some .local := by first | exact .inl rfl | exact .inr rfl | assumption) : PS X (.AugAssign (.Name x p') op e pos) (tS (gx X) Wx (fAug i g fa)) := (ps_aug (ti := r) hN hi hx h ho hf).imp fun D s H h => by
  obtain ⟨env, l, st, en, sm, p⟩ := h
  unfold fAug fVar at p
  cases e1 : env[i]? with
  | none => rw [e1] at p; exact p.elim
  | some o =>
    cases o with
    | none => rw [e1] at p; exact p.elim
    | some w =>
      rw [e1] at p
      obtain ⟨v, h1, h2⟩ := en.2 i w e1
      refine ⟨v, h1, env, l, st, en, sm, (Po.bind (SPo.toS en p)).imp fun y l1 H1 g1 ⟨st1, sm1, _, p1⟩ vy ry => ?_⟩
      refine hg w y st1 l1 H1 v vy _ Wx s sm1 (h2.grow g1) ry (p1.imp fun z l2 H2 g2 ⟨st2, sm2, _, p2⟩ vz rz => ?_)
      exact p2 l2 H2 _ (Grow.refl l2 H2) sm2 (((en.grow g1).grow g2).set rz)
end
end Sw
/-! SwE: enumerate of a tuple. -/
namespace PySem
theorem sw_enum_new1 {v : Value} {o : Obj} {H : Heap → Prop} (B : Begins v o H) :
    Meets (Builtin.«enumerate.__new__» ⟨[.type "enumerate", v], []⟩) (fun _ R s => H s.heap ∧
      R (.ok (.ret (.ref (s.heap.push o).objs.size))) { s with heap := (s.heap.push o).push { cls := .type "enumerate", data := .fields #[.none, .bool false, .ref s.heap.objs.size, rawInt 0, .none, .none] } }) :=
  .of_wp fun prog w A R s h => by
    obtain ⟨hp, g, d, tk, os⟩ := s; obtain ⟨h1, h⟩ := h
    have hsub := sub_enumerate
    have q1 : ∀ {A' : Around} {E : Value → Shared → Prop} {Q : Value → Shared → Prop}, Q (.ref hp.objs.size) ⟨hp.push o, g, d, tk, os⟩ → wpAny (model prog w) A' (pyIter v) Q E ⟨hp, g, d, tk, os⟩ :=
      fun q => B.iter prog w _ _ ⟨hp, g, d, tk, os⟩ _ h1 q
    wp_walk using q1
    refine wpAny_stack_any fun st => wpAny_pure ?_
    split
    · rename_i c _ _ _ _ _
      cases (c == Value.type "enumerate")
      · wp_walk using q1
        exact ⟨_, rfl, h⟩
      · wp_walk using q1
        exact ⟨_, rfl, h⟩
    · wp_walk using q1
      exact ⟨_, rfl, h⟩
section
variable {prog : Program} {w : World} {A : Around} {E : Value → Shared → Prop} {s : Shared}
theorem sw_enum_begins {v : Value} {o : Obj} {H : Heap → Prop} {Q : Value → Shared → Prop} (B : Begins v o H) (h1 : H s.heap)
    (h : ∀ h', IsEnum h' (s.heap.objs.size + 1) s.heap.objs.size 0 .none → h'.get? s.heap.objs.size = some o → h'.objs.size = s.heap.objs.size + 2 →
      (∀ b o, s.heap.get? b = some o → h'.get? b = some o) → Q (.ref (s.heap.objs.size + 1)) { s with heap := h' }) :
    wpAny (model prog w) A (call (.type "enumerate") [v]) Q E s := by
  refine callType_new F.called_enumerate (by decide) (F.typeCall_enumerate_1 _) (F.newCall_enumerate_1 _) (fun obj => F.args_object_init_2 obj _) F.entry_enumerate_new
    (sw_enum_new1 B) ⟨h1, ?_⟩
  have hz : (s.heap.push o).objs.size = s.heap.objs.size + 1 := Heap.size_push ..
  show _ ∧ _
  rw [hz]
  have he : IsEnum ((s.heap.push o).push { cls := .type "enumerate", data := .fields #[.none, .bool false, .ref s.heap.objs.size, rawInt 0, .none, .none] }) (s.heap.objs.size + 1) s.heap.objs.size 0 .none := by
    have := Heap.get?_push_size (s.heap.push o) (o := { cls := .type "enumerate", data := .fields #[.none, .bool false, .ref s.heap.objs.size, rawInt 0, .none, .none] }) rfl
    rw [hz] at this; exact this
  refine ⟨⟨_, he, rfl⟩, h _ he (Heap.get?_push_of_some _ (Heap.get?_push_size _ B.free)) (by rw [Heap.size_push, hz]) fun b o x => Heap.get?_push_of_some _ (Heap.get?_push_of_some _ x)⟩
end
end PySem
namespace Sw
open PySem PySem.Spec PyProof.Rows L2
/-- enumerate of the tuple at a -/
def IteT (K : PySem.W.Frag) (a : Addr) : It :=
  ⟨fun i H => ∃ (xs : List V) (x : V), SqT K H a xs ∧ xs[i]? = some x, fun i H v H' => ∃ T x, v = .ref T ∧ H T = none ∧ H' = upd H T (.tup [.int (i : Nat), x]) ∧ ∀ xs, SqT K H a xs → xs[i]? = some x, fun i H => ∃ xs : List V, SqT K H a xs ∧ xs.length = i⟩
theorem ne_tupIter {h : Heap} {a it : Addr} {items : Array Value} {i : Nat} (ht : IsTup h a items) (hit : h.IsTupleIter it a i) : a ≠ it := fun z => by
  obtain ⟨o, e1, c1, _⟩ := ht
  obtain ⟨o2, e2, c2, _⟩ := hit
  rw [z, e2] at e1
  cases e1
  rw [c1] at c2
  exact absurd (Value.type.inj c2) (by decide)
theorem ne_tupEnum {h : Heap} {a e it : Addr} {items : Array Value} {i : Int} {old : Value} (ht : IsTup h a items) (he : IsEnum h e it i old) : e ≠ a := fun z => by
  obtain ⟨o, e1, c1, _⟩ := ht
  have he' : h.get? e = some _ := he
  rw [z, e1] at he'
  cases he'
  exact absurd (Value.type.inj c1) (by decide)
theorem turn_enumT {P : Program} {w : World} {K : PySem.W.Frag} {elts : List Expr} {kk : Nat} {tpos : Pos} (a e it : Addr) :
    Turn P w K (.Tuple elts kk tpos) (IteT K a) [e, it] e (fun i h => (∃ old, IsEnum h e it ((i : Nat) : Int) old) ∧ h.IsTupleIter it a i ∧ e ≠ it) where
  mem := by simp
  obj := fun i h st b hb => by
    obtain ⟨⟨old, he⟩, ⟨o, ho, hc, hd⟩, _⟩ := st
    have e' : b = e ∨ b = it := by simpa using hb
    rcases e' with z | z
    · rw [z]; exact ⟨_, he, fun v q => nomatch q⟩
    · rw [z]; exact ⟨o, ho, fun v q => by rw [hd] at q; cases q⟩
  keep := fun i h h' st k => let ⟨⟨old, he⟩, hi, hne⟩ := st; ⟨⟨old, k e (by simp) _ he⟩, hi.at fun o q => k it (by simp) o q, hne⟩
  item := by
    intro X hP hw hK hc i pins s σ H E I hf st hg
    subst hP hw hK
    obtain ⟨⟨old, he⟩, hit, hne⟩ := st
    obtain ⟨xs, x, hq, hx⟩ := hg
    obtain ⟨its, rv, p, hz⟩ := I.tuple hq
    have hel : e < s.heap.objs.size := Heap.lt_size he
    have hil : it < s.heap.objs.size := by obtain ⟨_, q, _⟩ := hit; exact Heap.lt_size q
    have hx' : i < its.toArray.size := by
      have h1 := (List.getElem?_eq_some_iff.mp hx).1
      have h2 := rv.length
      simp; omega
    have nai := ne_tupIter p hit
    have nea := ne_tupEnum p he
    refine wpAny_pyNext_enum_itemD (Draws.tuple (show X.A.in1.handled = none from I.ok.hd hc) it a nai its.toArray) he ⟨hit, p⟩ hx' hne (by simp [hne, nea]) fun u h' tk hP ho hit' hT hsz hk => ?_
    obtain ⟨u', hu, ru⟩ := rv.get hx
    have eu : u = u' := by
      have q : its[i]? = some u := by simpa using hP
      rw [hu] at q
      exact (Option.some.inj q).symm
    subst eu
    refine ⟨_, rfl, wpAny_letOwnedTupleGo_enum (s := { s with heap := h', toks := tk + 1 }) ho fun h'' he' sb => ?_⟩
    have hT2 : h''.get? s.heap.objs.size = some { cls := .type "tuple", data := .seq #[.int i tk, u] } := (sb.2 _ (Nat.ne_of_gt hel)).trans hT
    have new : ObjOk X.prog X.w (upd H s.heap.objs.size (.tup [.int (i : Nat), x])) h'' s.heap.objs.size (.tup [.int (i : Nat), x]) :=
      ⟨by show 2 ≤ sizeLine; decide, [.int i tk, u], .cons ⟨_, rfl⟩ (.cons ru .nil), ⟨_, hT2, rfl, _, rfl⟩⟩
    have I1 : Inv X pins σ (upd H s.heap.objs.size (.tup [.int (i : Nat), x])) { s with heap := h'', toks := tk + 1 } :=
      I.turnedNew (ch := [e, it]) (fun b ob hb q => (sb.2 b (fun z => hb (by simp [z]))).trans (hk b ob (fun z => hb (by simp [z])) (fun z => hb (by simp [z])) q)) hf (Nat.le_refl _) new
    refine ⟨.ref s.heap.objs.size, _, I1, rfl, ⟨_, x, rfl, I.hok.fresh (Nat.le_refl _), rfl, fun ys hy => by rw [I.tuple_inj hy hq]; exact hx⟩, ⟨⟨u, ?_⟩, hit'.1.at fun o q => (sb.2 it (Ne.symm hne)).trans q, hne⟩, fun b hb => ?_⟩
    · have e1 : ((i + 1 : Nat) : Int) = (i : Int) + 1 := by omega
      rw [e1]; exact he'
    · have hb' : b < s.heap.objs.size := by
        have e' : b = e ∨ b = it := by simpa using hb
        rcases e' with z | z
        · rw [z]; exact hel
        · rw [z]; exact hil
      rw [upd_ne (Nat.ne_of_lt hb')]
      exact (hf b hb).1
  done := by
    intro X hP hw hK hc i pins s σ H E I hf st hg
    subst hP hw hK
    obtain ⟨⟨old, he⟩, hit, hne⟩ := st
    obtain ⟨xs, hq, hx⟩ := hg
    obtain ⟨its, rv, p, hz⟩ := I.tuple hq
    obtain ⟨f0, f1, f2, f3, f4, f5⟩ := hf it (by simp)
    have hl := rv.length
    have nai := ne_tupIter p hit
    have en : i = its.toArray.size := by simp; omega
    have hit' : s.heap.IsTupleIter it a its.toArray.size := en ▸ hit
    exact wpAny_pyNext_enum_endD (Draws.tuple (show X.A.in1.handled = none from I.ok.hd hc) it a nai its.toArray) he ⟨hit', p⟩ fun h' eb => ⟨rfl, I.turned (t' := s.toks) (fun b o hb q => eb b o hb q) f0 f1 f3 f4 f5⟩
  self := fun A i s Q E st h => let ⟨⟨_, he⟩, _⟩ := st; wpAny_pyIter_enum he h
end Sw
/-! Sw7: what is walked; for, while, comprehensions. -/
namespace Sw
open PySem PySem.Spec PyProof.Rows L2

/-- a list that must stay as it is while it is walked -/
abbrev GD := Option (Nat × List W)
def gdOk (gd : GD) (st : Sto) : Prop := match gd with
  | none => True
  | some (n, l) => st[n]? = some (.lst l)
structure ItR (G : Gx) (J : It) (items : List W) (gd : GD) (r0 : List Addr) (H0 : Hp) : Prop where
  go : ∀ i r H st, Grow r0 H0 r H → Sim G r H st → gdOk gd st → i < items.length → J.go i H
  yld : ∀ i r H st x H' w, Grow r0 H0 r H → Sim G r H st → gdOk gd st → items[i]? = some w → J.yld i H x H' → Stay H H' ∧ Sim G r H' st ∧ Rep G r H' w x
  stop : ∀ r H st, Grow r0 H0 r H → Sim G r H st → gdOk gd st → J.stop items.length H
abbrev FI := En → Sto → An (List W × GD)
def tI (G : Gx) (Wx : WX) (f : FI) : TI := fun s H R => ∃ env r st, EnR G r H env s ∧ Sim G r H st ∧ Po G Wx s (fun p r' H' => ∀ J, ItR G J p.1 p.2 r' H' → R J H') r H (f env st)
theorem _root_.L2.PI.imp {X : Cx} {tg e : Expr} {t t' : TI} (h : PI X tg e t) (k : ∀ s H R, t' s H R → t s H R) : PI X tg e t' := ⟨fun pins s σ H R I q => h.run pins s σ H R I (k _ _ _ q)⟩
/-- a list, a tuple -/
def seqI (st : Sto) : W → Option (List W × GD)
  | .tup l => some (l, none)
  | .rol l => some (l, none)
  | .ref n => match st[n]? with
    | some (.lst l) => some (l, some (n, l))
    | _ => none
  | _ => none
/-- .. a text too -/
def seqJ (st : Sto) : W → Option (List W × GD)
  | .str z => some (z.cps.toList.map fun c => .str ⟨#[c]⟩, none)
  | x => seqI st x
def fSeqI (f : FE) : FI := fun env st => (f env st).bind fun x st1 => optB (seqJ st1 x) st1
theorem itl_rol {G : Gx} {l : List W} {a : Addr} {vs : List V} {r : List Addr} {H : Hp} (h : Rol G.K H a vs) (k : RepL G r H l vs) : ItR G (Itl G.K a) l none r H where
  go := fun i r1 H1 st g sm _ hi => by
    obtain ⟨v, h1, _⟩ := k.get (List.getElem?_eq_getElem hi)
    exact ⟨vs, v, (g.stay.rol h).sq, h1⟩
  yld := fun i r1 H1 st x H' w g sm _ hw y => by
    obtain ⟨e, y⟩ := y
    subst e
    obtain ⟨v, h1, h2⟩ := k.get hw
    have e := y vs (g.stay.rol h).sq
    rw [h1] at e
    cases e
    exact ⟨Stay.refl _, sm, h2.grow g⟩
  stop := fun r1 H1 st g sm _ => ⟨vs, (g.stay.rol h).sq, Nat.le_of_eq k.length.symm⟩
theorem itl_ref {G : Gx} {l : List W} {n : Nat} {a : Addr} {r : List Addr} {H : Hp} (h : r[n]? = some a) : ItR G (Itl G.K a) l (some (n, l)) r H where
  go := fun i r1 H1 st g sm hg hi => by
    obtain ⟨vs, e, k⟩ := sm.got (show st[n]? = some (.lst l) from hg) (g.at h)
    obtain ⟨v, h1, _⟩ := k.get (List.getElem?_eq_getElem hi)
    exact ⟨vs, v, .inl (.inl e), h1⟩
  yld := fun i r1 H1 st x H' w g sm hg hw y => by
    obtain ⟨e, y⟩ := y
    subst e
    obtain ⟨vs, e, k⟩ := sm.got (show st[n]? = some (.lst l) from hg) (g.at h)
    obtain ⟨v, h1, h2⟩ := k.get hw
    have e := y vs (.inl (.inl e))
    rw [h1] at e
    cases e
    exact ⟨Stay.refl _, sm, h2⟩
  stop := fun r1 H1 st g sm hg => by
    obtain ⟨vs, e, k⟩ := sm.got (show st[n]? = some (.lst l) from hg) (g.at h)
    exact ⟨vs, .inl (.inl e), Nat.le_of_eq k.length.symm⟩
theorem itt_tup {G : Gx} {l : List W} {a : Addr} {vs : List V} {r : List Addr} {H : Hp} (h : SqT G.K H a vs) (k : RepL G r H l vs) : ItR G (Itt G.K a) l none r H where
  go := fun i r1 H1 st g sm _ hi => by
    obtain ⟨v, h1, _⟩ := k.get (List.getElem?_eq_getElem hi)
    exact ⟨vs, v, g.stay.sqt h, h1⟩
  yld := fun i r1 H1 st x H' w g sm _ hw y => by
    obtain ⟨e, y⟩ := y
    subst e
    obtain ⟨v, h1, h2⟩ := k.get hw
    have e := y vs (g.stay.sqt h)
    rw [h1] at e
    cases e
    exact ⟨Stay.refl _, sm, h2.grow g⟩
  stop := fun r1 H1 st g sm _ => ⟨vs, g.stay.sqt h, Nat.le_of_eq k.length.symm⟩
section
variable {X : Cx} {Wx : WX} {pos : Pos} {a b c e tg : Expr} {fa fb fc : FE} {ta tb : FT} {es : List Expr} {sa sb : FS} {body : List Stmt}
theorem its_str {G : Gx} {z : Str} {r : List Addr} {H : Hp} : ItR G (Its z) (z.cps.toList.map fun c => .str ⟨#[c]⟩) none r H where
  go := fun i r1 H1 st g sm _ hi => by
    show i < z.cps.size
    simpa using hi
  yld := fun i r1 H1 st x H' w g sm _ hw y => by
    obtain ⟨e, c, hc, rfl⟩ := y
    subst e
    rw [List.getElem?_map, Array.getElem?_toList, hc] at hw
    cases hw
    exact ⟨Stay.refl _, sm, .str _⟩
  stop := fun r1 H1 st g sm _ => by
    show z.cps.size ≤ _
    simp
theorem i_seq (h : PE X e (tE (gx X) Wx fa)) : PI X tg e (tI (gx X) Wx (fSeqI fa)) := by
  refine ⟨fun pins s σ H R I h1 => ?_⟩
  obtain ⟨env, l, st, en, sm, p⟩ := h1
  refine thn (h.run pins s σ H (fun x H1 => (∃ a, x = .ref a ∧ (∃ xs, SqL X.K H1 a xs) ∧ R (Itl X.K a) H1) ∨ (∃ a, x = .ref a ∧ (∃ xs, SqT X.K H1 a xs) ∧ R (Itt X.K a) H1) ∨ ∃ z, x = .str z ∧ R (Its z) H1) I
    ⟨env, l, st, en, sm, (Po.bind p).imp fun x l1 H1 g1 ⟨st1, sm1, _, p1⟩ vx rx => ?_⟩) fun v s1 ⟨x, H1, I1, r1, q1⟩ => ?_
  · obtain ⟨⟨l', gd⟩, e1, q⟩ := Po.optB p1 sm1
    cases rx with
    | @tup l2 a vs h k =>
      cases e1
      exact .inr (.inl ⟨a, rfl, ⟨vs, h⟩, q _ (itt_tup h k)⟩)
    | str z =>
      cases e1
      exact .inr (.inr ⟨z, rfl, q _ its_str⟩)
    | @rol l2 a vs h k =>
      cases e1
      exact .inl ⟨a, rfl, ⟨vs, h.sq⟩, q _ (itl_rol h k)⟩
    | @ref n a h =>
      simp only [seqJ, seqI] at e1
      split at e1
      · rename_i l2 e2
        cases e1
        obtain ⟨vs, e3, k⟩ := sm1.got e2 h
        exact .inl ⟨a, rfl, ⟨vs, .inl (.inl e3)⟩, q _ (itl_ref h)⟩
      · cases e1
    | _ => cases e1
  · have fresh : ∀ b ∈ [s1.heap.objs.size], FpOk X pins H1 b := fun b hb => by
      have e : b = s1.heap.objs.size := by simpa using hb
      subst e
      exact I1.fpOk (Nat.le_refl _) (I1.hok.fresh (Nat.le_refl _))
    rcases q1 with ⟨a, e, ⟨xs, hq⟩, q⟩ | ⟨a, e, ⟨xs, hq⟩, q⟩ | ⟨z, e, q⟩
    · subst e
      cases r1
      obtain ⟨its, rv, p, hz⟩ := I1.list hq
      refine wpAny_pyIter_list p.isList ?_
      exact ⟨s1.heap.objs.size, [s1.heap.objs.size], _, _, H1, rfl, I1.kept (t' := s1.toks) fun b o e => Heap.get?_push_of_some _ e, turn_list a _, ⟨_, Heap.get?_push_size _ rfl, rfl, rfl⟩, fresh, q⟩
    · subst e
      cases r1
      obtain ⟨its, rv, p, hz⟩ := I1.tuple hq
      refine wpAny_pyIter_tuple (show s1.heap.IsTuple a its.toArray from p) ?_
      exact ⟨s1.heap.objs.size, [s1.heap.objs.size], _, _, H1, rfl, I1.kept (t' := s1.toks) fun b o e => Heap.get?_push_of_some _ e, turn_tuple a _, ⟨_, Heap.get?_push_size _ rfl, rfl, rfl⟩, fresh, q⟩
    · subst e
      obtain ⟨t, rfl⟩ := r1
      cases ha : z.cps.all (· < 128)
      · refine wpAny_pyIter_wide ha ?_
        exact ⟨s1.heap.objs.size, [s1.heap.objs.size], _, _, H1, rfl, I1.kept (t' := s1.toks) fun b o e => Heap.get?_push_of_some _ e, turn_str _ z t "str_iterator" (.inr rfl), ⟨_, Heap.get?_push_size _ rfl, rfl, rfl⟩, fresh, q⟩
      · refine wpAny_pyIter_ascii ha ?_
        exact ⟨s1.heap.objs.size, [s1.heap.objs.size], _, _, H1, rfl, I1.kept (t' := s1.toks) fun b o e => Heap.get?_push_of_some _ e, turn_str _ z t "str_ascii_iterator" (.inl rfl), ⟨_, Heap.get?_push_size _ rfl, rfl, rfl⟩, fresh, q⟩
/-- range(n), range(a, b) -/
def rngW (a b : Int) : List W := (List.range (b - a).toNat).map fun i => .int (a + (i : Nat))
theorem rngW_at {a b : Int} {i : Nat} (h : i < (b - a).toNat) : (rngW a b)[i]? = some (.int (a + (i : Nat))) := by
  unfold rngW
  rw [List.getElem?_map, List.getElem?_range h]
  rfl
theorem rngW_length {a b : Int} : (rngW a b).length = (b - a).toNat := by simp [rngW]
theorem itr_rng {G : Gx} {a b : Int} {r : List Addr} {H : Hp} : ItR G (Itr a (b - a).toNat) (rngW a b) none r H where
  go := fun i r1 H1 st g sm _ hi => by rw [rngW_length] at hi; exact hi
  yld := fun i r1 H1 st x H' w g sm _ hw y => by
    obtain ⟨e, y⟩ := y
    subst e y
    have hi : i < (b - a).toNat := by have := (List.getElem?_eq_some_iff.mp hw).1; rwa [rngW_length] at this
    rw [rngW_at hi] at hw
    cases hw
    exact ⟨Stay.refl _, sm, .int _⟩
  stop := fun r1 H1 st g sm _ => by rw [rngW_length]; exact Nat.le_refl _
def okR (a b : Int) : Prop := -(2 ^ 62) ≤ a ∧ a < 2 ^ 62 ∧ -(2 ^ 62) ≤ b ∧ b < 2 ^ 62
@[irreducible] def okB (a b : Int) : Bool := decide (-(2 ^ 62) ≤ a ∧ a < 2 ^ 62 ∧ -(2 ^ 62) ≤ b ∧ b < 2 ^ 62)
theorem okB_iff {a b : Int} : okB a b = true ↔ okR a b := by
  unfold okB okR
  exact decide_eq_true_iff
instance (a b : Int) : Decidable (okR a b) := decidable_of_iff _ okB_iff
def wRng1 : List W → Sto → An (List W × GD)
  | [.int b], st => if okR 0 b then .ok (rngW 0 b, none) st else .bad
  | _, _ => .bad
def wRng2 : List W → Sto → An (List W × GD)
  | [.int a, .int b], st => if okR a b then .ok (rngW a b, none) st else .bad
  | _, _ => .bad
def fIt (g : List W → Sto → An (List W × GD)) (f : FA) : FI := fun env st => (f env st).bind g
theorem one_int {G : Gx} {r : List Addr} {H : Hp} {ws : List W} {vs : List V} (k : RepL G r H ws vs) : (∃ i, ws = [.int i] ∧ vs = [.int i]) ∨ ∀ i, ws ≠ [.int i] := by
  cases k with
  | nil => exact .inr (fun i z => by cases z)
  | cons h k =>
    cases k with
    | nil => cases h <;> first | exact .inl ⟨_, rfl, rfl⟩ | exact .inr (fun i z => by cases z)
    | cons _ _ => exact .inr (fun i z => by cases z)
theorem two_int {G : Gx} {r : List Addr} {H : Hp} {ws : List W} {vs : List V} (k : RepL G r H ws vs) : (∃ i j, ws = [.int i, .int j] ∧ vs = [.int i, .int j]) ∨ ∀ i j, ws ≠ [.int i, .int j] := by
  cases k with
  | nil => exact .inr (fun i j z => by cases z)
  | cons h k =>
    cases k with
    | nil => exact .inr (fun i j z => by cases z)
    | cons h2 k =>
      cases k with
      | nil => cases h <;> cases h2 <;> first | exact .inl ⟨_, _, rfl, rfl⟩ | exact .inr (fun i j z => by cases z)
      | cons _ _ => exact .inr (fun i j z => by cases z)
theorem i_rng1 {f : FA} {p : Pos} (hg : Gl X "range") (hm : X.mg "range" = none) (ha : PA X [a] (tL (gx X) Wx f)) (hs : starEach [a] X.env = [(false, eval a X.env)] := by rfl) : PI X tg (.Call (.Name "range" p) [a] [] pos) (tI (gx X) Wx (fIt wRng1 f)) := (pi_range1 hg hm ha hs).imp fun s H R h => by
  obtain ⟨env, l, st, en, sm, p⟩ := h
  refine ⟨env, l, st, en, sm, (Po.bind p).imp fun x l1 H1 g1 ⟨st1, sm1, _, p1⟩ vx rx => ?_⟩
  rcases one_int rx with ⟨j, rfl, rfl⟩ | hn
  · obtain ⟨hk, p1⟩ := ite_bad p1
    refine ⟨j, rfl, hk.2.2.1, hk.2.2.2, ?_⟩
    have := Po.ok p1 sm1 _ (itr_rng (G := gx X) (a := 0) (b := j) (r := l1) (H := H1))
    rwa [Int.sub_zero] at this
  · unfold wRng1 at p1
    split at p1
    · exact absurd rfl (hn _)
    · exact p1.elim
theorem i_rng2 {f : FA} {p : Pos} (hg : Gl X "range") (hm : X.mg "range" = none) (ha : PA X [a, b] (tL (gx X) Wx f)) (hs : starEach [a, b] X.env = [(false, eval a X.env), (false, eval b X.env)] := by rfl) (hs2 : starEach [b] X.env = [(false, eval b X.env)] := by rfl) : PI X tg (.Call (.Name "range" p) [a, b] [] pos) (tI (gx X) Wx (fIt wRng2 f)) := (pi_range2 hg hm ha hs hs2).imp fun s H R h => by
  obtain ⟨env, l, st, en, sm, p⟩ := h
  refine ⟨env, l, st, en, sm, (Po.bind p).imp fun x l1 H1 g1 ⟨st1, sm1, _, p1⟩ vx rx => ?_⟩
  rcases two_int rx with ⟨i, j, rfl, rfl⟩ | hn
  · obtain ⟨hk, p1⟩ := ite_bad p1
    exact ⟨i, j, rfl, hk, Po.ok p1 sm1 _ itr_rng⟩
  · unfold wRng2 at p1
    split at p1
    · exact absurd rfl (hn _ _)
    · exact p1.elim
/-- reversed(range(n)) -/
def wRevR : W → Sto → An (List W × GD)
  | .int b, st => if okR 0 b then .ok ((rngW 0 b).reverse, none) st else .bad
  | _, _ => .bad
def fI1 (g : W → Sto → An (List W × GD)) (f : FE) : FI := fun env st => (f env st).bind g
theorem rev_at {b : Int} {i : Nat} (h : i < (b - 0).toNat) : (rngW 0 b).reverse[i]? = some (.int (0 + (((b - 0).toNat : Nat) : Int) - 1 + (i : Nat) * (-1))) := by
  have hl : (rngW 0 b).length = (b - 0).toNat := rngW_length
  rw [List.getElem?_reverse (by rw [hl]; exact h), rngW_at (by rw [hl]; omega)]
  rw [hl]
  congr 2
  omega
theorem i_revr {p p2 q : Pos} (hg : Gl X "reversed") (hm : X.mg "reversed" = none) (hg2 : Gl X "range") (hm2 : X.mg "range" = none) (ha : PE X a (tE (gx X) Wx fa)) (na : starEach [a] X.env = (false, eval a X.env) :: starEach [] X.env := by rfl)
    (hs : starEach [.Call (.Name "range" p2) [a] [] q] X.env = (false, eval (.Call (.Name "range" p2) [a] [] q) X.env) :: starEach [] X.env := by rfl) : PI X tg (.Call (.Name "reversed" p) [.Call (.Name "range" p2) [a] [] q] [] pos) (tI (gx X) Wx (fI1 wRevR fa)) := (pi_revR hg hm (prg_1 hg2 hm2 ha na) hs).imp fun s H R h => by
  obtain ⟨env, l, st, en, sm, p⟩ := h
  refine ⟨env, l, st, en, sm, (Po.bind p).imp fun x l1 H1 g1 ⟨st1, sm1, _, p1⟩ vx rx => ?_⟩
  cases rx with
  | int b =>
    obtain ⟨hk, p1⟩ := ite_bad p1
    refine ⟨b, rfl, by decide, by decide, hk.2.2.1, hk.2.2.2, Po.ok p1 sm1 _ ?_⟩
    refine ⟨fun i r1 H1 st g sm _ hi => ?_, fun i r1 H1 st x H' w g sm _ hw y => ?_, fun r1 H1 st g sm _ => ?_⟩
    · rw [List.length_reverse, rngW_length] at hi
      exact hi
    · obtain ⟨e, y⟩ := y
      subst e y
      have hi : i < (b - 0).toNat := by have := (List.getElem?_eq_some_iff.mp hw).1; rwa [List.length_reverse, rngW_length] at this
      rw [rev_at hi] at hw
      cases hw
      exact ⟨Stay.refl _, sm, .int _⟩
    · show (b - 0).toNat ≤ _
      rw [List.length_reverse, rngW_length]
      exact Nat.le_refl _
  | _ => exact p1.elim
/-- enumerate(x), zip(x, y) -/
def enumW : Nat → List W → List W
  | _, [] => []
  | k, x :: l => .tup [.int (k : Nat), x] :: enumW (k + 1) l
theorem enumW_at : ∀ {l : List W} {k i : Nat} {x : W}, l[i]? = some x → (enumW k l)[i]? = some (.tup [.int ((k + i : Nat) : Int), x])
  | [], _, _, _, h => by simp at h
  | x :: l, k, 0, y, h => by simp at h; subst h; rfl
  | x :: l, k, i + 1, y, h => by
    have := enumW_at (l := l) (k := k + 1) (i := i) (by simpa using h)
    simp only [enumW, List.getElem?_cons_succ]
    rw [this, show k + 1 + i = k + (i + 1) by omega]
theorem enumW_length : ∀ {l : List W} {k : Nat}, (enumW k l).length = l.length
  | [], _ => rfl
  | x :: l, k => by simp [enumW, enumW_length (l := l)]
theorem new_pair {G : Gx} {r : List Addr} {H : Hp} {st : Sto} {T : Addr} {x y : V} {w u : W} (sm : Sim G r H st) (hT : H T = none) (h1 : Rep G r H w x) (h2 : Rep G r H u y) : Stay H (upd H T (.tup [x, y])) ∧ Sim G r (upd H T (.tup [x, y])) st ∧ Rep G r (upd H T (.tup [x, y])) (.tup [w, u]) (.ref T) := by
  have g : Grow r H r (upd H T (.tup [x, y])) := Grow.same (Stay.new hT)
  exact ⟨g.stay, sm.tup hT, .tup (.inl (.inl upd_same)) (.cons (h1.grow g) (.cons (h2.grow g) .nil))⟩
theorem ite_list {G : Gx} {l : List W} {gd : GD} {a : Addr} {r : List Addr} {H : Hp} (h : ∀ r1 H1 st, Grow r H r1 H1 → Sim G r1 H1 st → gdOk gd st → ∃ vs, SqL G.K H1 a vs ∧ RepL G r1 H1 l vs) : ItR G (Ite G.K a) (enumW 0 l) gd r H where
  go := fun i r1 H1 st g sm hg hi => by
    obtain ⟨vs, q, k⟩ := h r1 H1 st g sm hg
    rw [enumW_length] at hi
    obtain ⟨v, h1, _⟩ := k.get (List.getElem?_eq_getElem hi)
    exact ⟨vs, v, q, h1⟩
  yld := fun i r1 H1 st x H' w g sm hg hw y => by
    obtain ⟨T, x', e, hT, eH, y⟩ := y
    subst e eH
    obtain ⟨vs, q, k⟩ := h r1 H1 st g sm hg
    have hi : i < l.length := by have := (List.getElem?_eq_some_iff.mp hw).1; rwa [enumW_length] at this
    rw [enumW_at (List.getElem?_eq_getElem hi)] at hw
    cases hw
    obtain ⟨v, h1, h2⟩ := k.get (List.getElem?_eq_getElem hi)
    have e := y vs q
    rw [h1] at e
    cases e
    rw [Nat.zero_add]
    exact new_pair sm hT (.int _) h2
  stop := fun r1 H1 st g sm hg => by
    obtain ⟨vs, q, k⟩ := h r1 H1 st g sm hg
    exact ⟨vs, q, by rw [enumW_length, k.length]; exact Nat.le_refl _⟩
theorem ite_tup {G : Gx} {l : List W} {gd : GD} {a : Addr} {r : List Addr} {H : Hp} (h : ∀ r1 H1 st, Grow r H r1 H1 → Sim G r1 H1 st → gdOk gd st → ∃ vs, SqT G.K H1 a vs ∧ RepL G r1 H1 l vs) : ItR G (IteT G.K a) (enumW 0 l) gd r H where
  go := fun i r1 H1 st g sm hg hi => by
    obtain ⟨vs, q, k⟩ := h r1 H1 st g sm hg
    rw [enumW_length] at hi
    obtain ⟨v, h1, _⟩ := k.get (List.getElem?_eq_getElem hi)
    exact ⟨vs, v, q, h1⟩
  yld := fun i r1 H1 st x H' w g sm hg hw y => by
    obtain ⟨T, x', e, hT, eH, y⟩ := y
    subst e eH
    obtain ⟨vs, q, k⟩ := h r1 H1 st g sm hg
    have hi : i < l.length := by have := (List.getElem?_eq_some_iff.mp hw).1; rwa [enumW_length] at this
    rw [enumW_at (List.getElem?_eq_getElem hi)] at hw
    cases hw
    obtain ⟨v, h1, h2⟩ := k.get (List.getElem?_eq_getElem hi)
    have e := y vs q
    rw [h1] at e
    cases e
    rw [Nat.zero_add]
    exact new_pair sm hT (.int _) h2
  stop := fun r1 H1 st g sm hg => by
    obtain ⟨vs, q, k⟩ := h r1 H1 st g sm hg
    exact ⟨vs, q, by rw [enumW_length, k.length]⟩
/-- what seqI tells stands while the guard stands -/
theorem seqI_stands {G : Gx} {r : List Addr} {H : Hp} {st : Sto} {x : W} {v : V} {l : List W} {gd : GD} (sm : Sim G r H st) (h : Rep G r H x v) (e : seqI st x = some (l, gd)) :
    (∃ a, v = .ref a ∧ (∃ vs, SqT G.K H a vs) ∧ ∀ r1 H1 st, Grow r H r1 H1 → Sim G r1 H1 st → gdOk gd st → ∃ vs, SqT G.K H1 a vs ∧ RepL G r1 H1 l vs) ∨
    (∃ a, v = .ref a ∧ (∃ vs, SqL G.K H a vs) ∧ ∀ r1 H1 st, Grow r H r1 H1 → Sim G r1 H1 st → gdOk gd st → ∃ vs, SqL G.K H1 a vs ∧ RepL G r1 H1 l vs) := by
  cases h with
  | @tup l2 a vs h k =>
    cases e
    exact .inl ⟨a, rfl, ⟨vs, h⟩, fun r1 H1 st g _ _ => ⟨vs, g.stay.sqt h, k.grow g⟩⟩
  | @rol l2 a vs h k =>
    cases e
    exact .inr ⟨a, rfl, ⟨vs, h.sq⟩, fun r1 H1 st g _ _ => ⟨vs, (g.stay.rol h).sq, k.grow g⟩⟩
  | @ref n a h =>
    simp only [seqI] at e
    split at e
    · rename_i l2 e2
      cases e
      obtain ⟨vs, e3, k⟩ := sm.got e2 h
      refine .inr ⟨a, rfl, ⟨vs, .inl (.inl e3)⟩, fun r1 H1 st g sm hg => ?_⟩
      obtain ⟨vs, e4, k⟩ := sm.got (show st[n]? = some (.lst l) from hg) (g.at h)
      exact ⟨vs, .inl (.inl e4), k⟩
    · cases e
  | _ => cases e
def wEnum : W → Sto → An (List W × GD) := fun x st => (optB (seqI st x) st).bind fun p _ => .ok (enumW 0 p.1, p.2) st
theorem i_enum {elts : List Expr} {kk : Nat} {tpos p : Pos} (hg : Gl X "enumerate") (hm : X.mg "enumerate" = none) (ha : PE X a (tE (gx X) Wx fa)) (hs : starEach [a] X.env = [(false, eval a X.env)] := by rfl) (hs' : starEach [a] X.env = (false, eval a X.env) :: starEach [] X.env := by rfl) : PI X (.Tuple elts kk tpos) (.Call (.Name "enumerate" p) [a] [] pos) (tI (gx X) Wx (fI1 wEnum fa)) := by
  refine ⟨fun pins s σ H R I h1 => ?_⟩
  obtain ⟨env, l, st, en, sm, p⟩ := h1
  refine Call_ (ld_blt I hg hm boot_enumerate (PyProof.Rows.callWith_type1 (thn ((pa_cons ha pa_nil hs').run pos pins s σ H (fun vs H1 => (∃ a, vs = [.ref a] ∧ (∃ xs, SqL X.K H1 a xs) ∧ R (Ite X.K a) H1) ∨ ∃ a, vs = [.ref a] ∧ (∃ xs, SqT X.K H1 a xs) ∧ R (IteT X.K a) H1) I
    ⟨env, l, st, en, sm, (Po.bind p).imp fun x l1 H1 g1 ⟨st1, sm1, _, p1⟩ vx rx => ?_⟩) fun us s1 ⟨vs, H1, I1, r1, q1⟩ => ?_) hs rfl))
  · unfold wEnum at p1
    cases e1 : seqI st1 x with
    | none => rw [e1] at p1; exact p1.elim
    | some pr =>
      obtain ⟨l', gd⟩ := pr
      rw [e1] at p1
      have q := Po.ok p1 sm1
      rcases seqI_stands sm1 rx e1 with ⟨a, rfl, h1, h2⟩ | ⟨a, rfl, h1, h2⟩
      · exact .inr ⟨a, rfl, h1, q _ (ite_tup h2)⟩
      · exact .inl ⟨a, rfl, h1, q _ (ite_list h2)⟩
  · have fresh : ∀ b ∈ [s1.heap.objs.size + 1, s1.heap.objs.size], FpOk X pins H1 b := fun b hb => by
      have e' : b = s1.heap.objs.size + 1 ∨ b = s1.heap.objs.size := by simpa using hb
      have hle : s1.heap.objs.size ≤ b := by
        rcases e' with z | z
        · rw [z]; exact Nat.le_add_right _ _
        · rw [z]; exact Nat.le_refl _
      exact I1.fpOk hle (I1.hok.fresh hle)
    rcases q1 with ⟨a, e, ⟨xs, hq⟩, q⟩ | ⟨a, e, ⟨xs, hq⟩, q⟩
    · subst e
      cases r1 with
      | cons r rr =>
        cases rr
        cases r
        obtain ⟨its, rv, p', hz⟩ := I1.list hq
        refine call_enumerate_list p'.isList fun h' he hit hsz hk => wpAny_pyIter_enum he ?_
        exact ⟨s1.heap.objs.size + 1, [s1.heap.objs.size + 1, s1.heap.objs.size], _, _, H1, rfl, I1.kept (t' := s1.toks) hk, turn_enum a (s1.heap.objs.size + 1) s1.heap.objs.size, ⟨⟨.none, he⟩, hit, Nat.succ_ne_self _⟩, fresh, q⟩
    · subst e
      cases r1 with
      | cons r rr =>
        cases rr
        cases r
        obtain ⟨its, rv, p', hz⟩ := I1.tuple hq
        refine sw_enum_begins (begins_tuple a its.toArray) p' fun h' he hit hsz hk => wpAny_pyIter_enum he ?_
        exact ⟨s1.heap.objs.size + 1, [s1.heap.objs.size + 1, s1.heap.objs.size], _, _, H1, rfl, I1.kept (t' := s1.toks) hk, turn_enumT a (s1.heap.objs.size + 1) s1.heap.objs.size, ⟨⟨.none, he⟩, ⟨_, hit, rfl, rfl⟩, Nat.succ_ne_self _⟩, fresh, q⟩
end
end Sw
/-! Sw8: for, while, comprehensions. -/
namespace Sw
open PySem PySem.Spec PyProof.Rows L2 RZ
open Classical in
/-- the turns of a for -/
noncomputable def forS (gd : GD) (g : FG) (body : FS) : List W → FS
  | [], env, st => if gdOk gd st then .nx env st else .bad
  | w :: ws, env, st => if gdOk gd st then (match g w env st with
    | .nx env1 st1 => (match body env1 st1 with
      | .nx env2 st2 => forS gd g body ws env2 st2
      | .ct env2 st2 => forS gd g body ws env2 st2
      | .bk env2 st2 => .nx env2 st2
      | o => o)
    | _ => .bad) else .bad
noncomputable def fFor (it : FI) (g : FG) (body : FS) : FS := fun env st => (it env st).toS env fun p st1 => forS p.2 g body p.1 env st1
theorem spo_ite {G : Gx} {Wx : WX} {D : Ends} {r : List Addr} {H : Hp} {c : Prop} {inst : Decidable c} {a : SA} (p : SPo G Wx D r H (if c then a else .bad)) : c ∧ SPo G Wx D r H a := by
  by_cases h : c
  · rw [if_pos h] at p
    exact ⟨h, p⟩
  · rw [if_neg h] at p
    exact p.elim
section
variable {X : Cx} {Wx : WX} {pos : Pos} {a b c e tg : Expr} {fa fb fc : FE} {ta tb : FT} {es : List Expr} {sa sb : FS} {body : List Stmt}
theorem s_for {iter : Expr} {fi : FI} {g : FG} (hp : PassesOwn (model X.prog X.w) X.A X.env X.xe) (hi : PI X tg iter (tI (gx X) Wx fi)) (hg : PG X tg (tG (gx X) g)) (hb : PSs X body (tS (gx X) Wx sa)) (hc : X.calm = true := by rfl)
    (hs : ∀ x, foldedSetIterable iter X.env x = pure x := by intro _; rfl) : PS X (.For tg iter body [] pos) (tS (gx X) Wx (fFor fi g sa)) := (ps_for hp hc hi hg hb hs).imp fun D s H h => by
  obtain ⟨env, l, st, en, sm, p⟩ := h
  refine ⟨env, l, st, en, sm, (SPo.toS en p).imp fun pr l1 H1 g1 ⟨st1, sm1, _, p1⟩ J it => ?_⟩
  obtain ⟨items, gd⟩ := pr
  refine ⟨fun i m σ H => ∃ env r st, m + i = items.length ∧ Grow l1 H1 r H ∧ EnR (gx X) r H env σ ∧ Sim (gx X) r H st ∧ SPo (gx X) Wx D r H (forS gd g sa (items.drop i) env st), ⟨items.length, env, l1, st1, rfl, Grow.refl _ _, en.grow g1, sm1, p1⟩, ?_⟩
  rintro i m σ H ⟨env, r, st, em, gr, en, sm, p⟩
  by_cases hi : i < items.length
  · rw [List.drop_eq_getElem_cons hi] at p
    simp only [forS] at p
    obtain ⟨hgd, p⟩ := spo_ite p
    refine .inr ⟨it.go i r H st gr sm hgd hi, fun σ H => ∃ env r st, Grow l1 H1 r H ∧ EnR (gx X) r H env σ ∧ Sim (gx X) r H st ∧ SPo (gx X) Wx D r H (forS gd g sa (items.drop (i + 1)) env st), fun σ' H' hN => ?_, fun x H' y => ?_⟩
    · obtain ⟨env, r, st, gr, en, sm, p⟩ := hN
      exact ⟨m - 1, by omega, env, r, st, by omega, gr, en, sm, p⟩
    · obtain ⟨sy, sm', rx⟩ := it.yld i r H st x H' items[i] gr sm hgd (List.getElem?_eq_getElem hi) y
      have g2 : Grow r H r H' := Grow.same sy
      refine ⟨items[i], env, r, st, rx, en.grow g2, sm', ?_⟩
      cases eg : g items[i] env st with
      | nx env1 st1 =>
        simp only [eg] at p
        intro r2 H2 σ2 g3 sm2 en2
        refine ⟨env1, r2, st1, en2, sm2, ?_⟩
        have gr2 : Grow l1 H1 r2 H2 := (gr.trans g2).trans g3
        have p := SPo.grow (g2.trans g3) p
        cases eb : sa env1 st1 with
        | nx env2 st2 =>
          simp only [eb] at p
          exact fun r3 H3 σ3 g4 sm3 en3 => ⟨env2, r3, st2, gr2.trans g4, en3, sm3, SPo.grow g4 p⟩
        | ct env2 st2 =>
          simp only [eb] at p
          exact fun r3 H3 σ3 g4 sm3 en3 => ⟨env2, r3, st2, gr2.trans g4, en3, sm3, SPo.grow g4 p⟩
        | bk env2 st2 => simp only [eb] at p; exact p
        | rt w st2 => simp only [eb] at p; exact p
        | ex C fs env2 st2 => simp only [eb] at p; exact p
        | bad => simp only [eb] at p; exact p
      | _ => simp only [eg] at p; exact p.elim
  · have ed : items.drop i = [] := List.drop_eq_nil_of_le (by omega)
    rw [ed] at p
    simp only [forS] at p
    obtain ⟨hgd, p⟩ := spo_ite p
    have ei : i = items.length := by omega
    subst ei
    exact .inl ⟨it.stop r H st gr sm hgd, p r H σ (Grow.refl _ _) sm en⟩
/-- while, of so many turns at most -/
def whS (t : FT) (body : FS) : Nat → FS
  | 0, _, _ => .bad
  | n + 1, env, st => (t env st).toS env fun k st1 => if k = true then (match body env st1 with
    | .nx env2 st2 => whS t body n env2 st2
    | .ct env2 st2 => whS t body n env2 st2
    | .bk env2 st2 => .nx env2 st2
    | o => o) else .nx env st1
theorem s_while {n : Nat} (hp : PassesOwn (model X.prog X.w) X.A X.env X.xe) (hc : PT X c (tT (gx X) Wx ta)) (hb : PSs X body (tS (gx X) Wx sa)) : PS X (.While c body [] pos) (tS (gx X) Wx (whS ta sa n)) := (ps_while hp hc hb).imp fun D s H h => by
  obtain ⟨env, l, st, en, sm, p⟩ := h
  refine ⟨fun m σ H => ∃ env r st, EnR (gx X) r H env σ ∧ Sim (gx X) r H st ∧ SPo (gx X) Wx D r H (whS ta sa m env st), ⟨n, env, l, st, en, sm, p⟩, ?_⟩
  rintro m σ H ⟨env, r, st, en, sm, p⟩
  cases m with
  | zero => exact p.elim
  | succ m =>
    refine ⟨env, r, st, en, sm, (SPo.toS en p).imp fun k r1 H1 g1 ⟨st1, sm1, _, p1⟩ => ?_⟩
    cases k with
    | false => exact iteF (by simp only [Bool.false_eq_true, if_false] at p1; exact p1 r1 H1 σ (Grow.refl _ _) sm1 (en.grow g1))
    | true =>
      simp only [if_true] at p1
      refine iteT ⟨fun σ H => ∃ env r st, EnR (gx X) r H env σ ∧ Sim (gx X) r H st ∧ SPo (gx X) Wx D r H (whS ta sa m env st), fun σ' H' hN => ⟨m, Nat.lt_succ_self m, hN⟩, env, r1, st1, en.grow g1, sm1, ?_⟩
      cases eb : sa env st1 with
      | nx env2 st2 =>
        simp only [eb] at p1
        exact fun r3 H3 σ3 g4 sm3 en3 => ⟨env2, r3, st2, en3, sm3, SPo.grow g4 p1⟩
      | ct env2 st2 =>
        simp only [eb] at p1
        exact fun r3 H3 σ3 g4 sm3 en3 => ⟨env2, r3, st2, en3, sm3, SPo.grow g4 p1⟩
      | bk env2 st2 => simp only [eb] at p1; exact p1
      | rt w st2 => simp only [eb] at p1; exact p1
      | ex C fs env2 st2 => simp only [eb] at p1; exact p1
      | bad => simp only [eb] at p1; exact p1

/-! ### zip of two lists, of two tuples -/
def zipW (l m : List W) : List W := (l.zip m).map fun p => .tup [p.1, p.2]
theorem zipW_at {l m : List W} {i : Nat} {x y : W} (h1 : l[i]? = some x) (h2 : m[i]? = some y) : (zipW l m)[i]? = some (.tup [x, y]) := by
  unfold zipW
  rw [List.getElem?_map, (List.getElem?_zip_eq_some (z := (x, y))).mpr ⟨h1, h2⟩]
  rfl
theorem zipW_length {l m : List W} : (zipW l m).length = min l.length m.length := by simp [zipW]
def wZip : List W → Sto → An (List W × GD)
  | [.tup l, .tup m], st => .ok (zipW l m, none) st
  | _, _ => .bad
theorem itz_tup {G : Gx} {l m : List W} {a b : Addr} {vs us : List V} {r : List Addr} {H : Hp} (h : SqT G.K H a vs) (k : RepL G r H l vs) (h' : SqT G.K H b us) (k' : RepL G r H m us) : ItR G (ItzT G.K a b) (zipW l m) none r H where
  go := fun i r1 H1 st g sm hg hi => by
    rw [zipW_length] at hi
    obtain ⟨v, h1, _⟩ := k.get (List.getElem?_eq_getElem (show i < l.length by omega))
    obtain ⟨u, h2, _⟩ := k'.get (List.getElem?_eq_getElem (show i < m.length by omega))
    exact ⟨vs, us, v, u, g.stay.sqt h, g.stay.sqt h', h1, h2⟩
  yld := fun i r1 H1 st x H' w g sm hg hw y => by
    obtain ⟨T, x', y', e, hT, eH, y1, y2⟩ := y
    subst e eH
    have hi : i < min l.length m.length := by have := (List.getElem?_eq_some_iff.mp hw).1; rwa [zipW_length] at this
    have hl := List.getElem?_eq_getElem (show i < l.length by omega)
    have hm := List.getElem?_eq_getElem (show i < m.length by omega)
    rw [zipW_at hl hm] at hw
    cases hw
    obtain ⟨v, h1, h2⟩ := k.get hl
    obtain ⟨u, h3, h4⟩ := k'.get hm
    have e1 := y1 vs (g.stay.sqt h)
    have e2 := y2 us (g.stay.sqt h')
    rw [h1] at e1
    rw [h3] at e2
    cases e1
    cases e2
    exact new_pair sm hT (h2.grow g) (h4.grow g)
  stop := fun r1 H1 st g sm hg => ⟨vs, us, g.stay.sqt h, g.stay.sqt h', by rw [zipW_length, k.length, k'.length]; omega⟩
theorem i_zip {elts : List Expr} {kk : Nat} {tpos p : Pos} {f : FA} (hg : Gl X "zip") (hm : X.mg "zip" = none) (ha : PA X [a, b] (tL (gx X) Wx f)) (hs : starEach [a, b] X.env = (false, eval a X.env) :: starEach [b] X.env := by rfl) (hpl : (backTo pos (starEach [b] X.env)).any (·.1) = false := by rfl) :
    PI X (.Tuple elts kk tpos) (.Call (.Name "zip" p) [a, b] [] pos) (tI (gx X) Wx (fIt wZip f)) := (pi_zipA hg hm ha hs hpl).imp fun s H R h => by
  obtain ⟨env, l, st, en, sm, p⟩ := h
  refine ⟨env, l, st, en, sm, (Po.bind p).imp fun x l1 H1 g1 ⟨st1, sm1, _, p1⟩ vx rx => ?_⟩
  cases rx with
  | nil => exact p1.elim
  | cons h k =>
    cases k with
    | nil => cases h <;> exact p1.elim
    | cons h2 k2 =>
      cases k2 with
      | cons _ _ => cases h <;> cases h2 <;> exact p1.elim
      | nil =>
        cases h with
        | @tup l2 a vs q k =>
          cases h2 with
          | @tup l3 b us q' k' => exact ⟨a, b, vs, us, rfl, .inr ⟨q, q', Po.ok p1 sm1 _ (itz_tup q k q' k')⟩⟩
          | _ => exact p1.elim
        | _ => cases h2 <;> exact p1.elim

/-! ### comprehensions -/
def An.noex {α : Type} (m : An α) : An α := match m with
  | .ok a st => .ok a st
  | _ => .bad
@[simp] theorem An.noex_ok {α : Type} (a : α) (st : Sto) : (An.ok a st).noex = .ok a st := rfl
theorem Po.noex {G : Gx} {Wx : WX} {s s' : L2.St} {α : Type} {P : α → List Addr → Hp → Prop} {r : List Addr} {H : Hp} {m : An α} (h : Po G Wx s P r H m.noex) : Po G W0 s' P r H m := by
  cases m with
  | ok a st => exact h
  | ex C fs st => exact h.elim
  | bad => exact h
def wipeW (env : En) : List Nat → En
  | [] => env
  | v :: vs => (wipeW env vs).set v none
theorem EnR.wipe {G : Gx} {r : List Addr} {H : Hp} {env : En} {s : L2.St} (h : EnR G r H env s) : ∀ vs : List Nat, EnR G r H (wipeW env vs) (wipe s vs)
  | [] => h
  | v :: vs => (EnR.wipe h vs).forget
open Classical in
/-- the turns of a comprehension whose list lies at n: bind sets the block's names -/
noncomputable def lcS (gd : GD) (bind : W → En → Option En) (t : FT) (f : FE) (n : Nat) (env : En) : List W → Sto → An Unit
  | [], st => if gdOk gd st then .ok () st else .bad
  | w :: ws, st => if gdOk gd st then (match bind w env with
    | some env1 => (t env1 st).noex.bind fun k st2 => if k = true then (f env1 st2).noex.bind fun y st3 => match st3[n]? with
        | some (.lst acc) => if acc.length < 100000 then lcS gd bind t f n env ws (st3.set n (.lst (acc ++ [y]))) else .bad
        | _ => .bad
      else lcS gd bind t f n env ws st2
    | none => .bad) else .bad
noncomputable def fLc (own : List Nat) (it : FI) (bind : W → En → Option En) (t : FT) (f : FE) : FE := fun env st => (it env st).bind fun p st1 => (lcS p.2 bind t f st1.length (wipeW env own) p.1 (st1 ++ [.lst []])).bind fun _ st2 => .ok (.ref st1.length) st2
/-- what a target of the block does -/
def BindOk (G : Gx) (own : List Nat) (g : TG) (bind : W → En → Option En) : Prop := ∀ (w : W) (v : V) (s : L2.St) (env env1 : En) (r : List Addr) (H : Hp) (Q : L2.St → Hp → Prop), Rep G r H w v → EnR G r H (wipeW env own) (wipe s own) → bind w (wipeW env own) = some env1 →
  (∀ s2, EnR G r H env1 s2 → wipe s2 own = wipe s own → Q s2 H) → g v (wipe s own) H Q
theorem lc_imp {G : Gx} {own : List Nat} {fi : FI} {g : TG} {bind : W → En → Option En} {t : FT} {f : FE} (hb : BindOk G own g bind) {s : L2.St} {H : Hp} {Q : VK} (h : tE G Wx (fLc own fi bind t f) s H Q) :
    tLc (tI G Wx fi) g (tT G W0 t) (tE G W0 f) own s H Q := by
  obtain ⟨env, l, st, en, sm, p⟩ := h
  refine ⟨env, l, st, en, sm, (Po.bind p).imp fun pr l1 H1 g1 ⟨st1, sm1, _, p1⟩ J it => ?_⟩
  obtain ⟨items, gd⟩ := pr
  intro D hD
  have gD : Grow l1 H1 (l1 ++ [D]) (upd H1 D (.lst [])) := Grow.one (Stay.new hD)
  have smD : Sim G (l1 ++ [D]) (upd H1 D (.lst [])) (st1 ++ [.lst []]) := sm1.newU hD ⟨[], upd_same, .nil⟩
  have hDn : (l1 ++ [D])[st1.length]? = some D := by rw [← sm1.len, List.getElem?_append_right (Nat.le_refl _)]; simp
  have p2 := (Po.bind (Po.grow gD p1))
  refine ⟨fun i m H => ∃ r st, m + i = items.length ∧ Grow (l1 ++ [D]) (upd H1 D (.lst [])) r H ∧ Sim G r H st ∧ Po G Wx s (fun _ r1 H1' => ∃ st2, Sim G r1 H1' st2 ∧ Grow r H r1 H1' ∧ Po G Wx s (fun w r' H' => ∀ v, Rep G r' H' w v → Q v H') r1 H1' (.ok (.ref st1.length) st2)) r H (lcS gd bind t f st1.length (wipeW env own) (items.drop i) st),
    ⟨items.length, l1 ++ [D], _, rfl, Grow.refl _ _, smD, p2.imp fun _ r' H' g' ⟨st2, q1, q2, q3⟩ => ⟨st2, q1, g', q3⟩⟩, ?_⟩
  rintro i m H ⟨r, st, em, gr, sm, p⟩
  by_cases hi : i < items.length
  · rw [List.drop_eq_getElem_cons hi] at p
    simp only [lcS] at p
    obtain ⟨hgd, p⟩ := ite_bad p
    have gr1 := gD.trans gr
    refine .inr ⟨it.go i r H st gr1 sm hgd hi, fun H => ∃ r st, Grow (l1 ++ [D]) (upd H1 D (.lst [])) r H ∧ Sim G r H st ∧ Po G Wx s (fun _ r1 H1' => ∃ st2, Sim G r1 H1' st2 ∧ Grow r H r1 H1' ∧ Po G Wx s (fun w r' H' => ∀ v, Rep G r' H' w v → Q v H') r1 H1' (.ok (.ref st1.length) st2)) r H (lcS gd bind t f st1.length (wipeW env own) (items.drop (i + 1)) st), fun H' hN => ?_, fun x H' y => ?_⟩
    · obtain ⟨r, st, gr, sm, p⟩ := hN
      exact ⟨m - 1, by omega, r, st, by omega, gr, sm, p⟩
    · obtain ⟨sy, sm', rx⟩ := it.yld i r H st x H' items[i] gr1 sm hgd (List.getElem?_eq_getElem hi) y
      have g2 : Grow r H r H' := Grow.same sy
      cases eg : bind items[i] (wipeW env own) with
      | none => simp only [eg] at p; exact p.elim
      | some env1 =>
        simp only [eg] at p
        have p := Po.grow g2 p
        have lift : ∀ {r1 : List Addr} {H1' : Hp} {m : An Unit}, Grow r H' r1 H1' → Po G Wx s (fun _ r2 H2 => ∃ st2, Sim G r2 H2 st2 ∧ Grow r H r2 H2 ∧ Po G Wx s (fun w r' H' => ∀ v, Rep G r' H' w v → Q v H') r2 H2 (.ok (.ref st1.length) st2)) r1 H1' m →
          Po G Wx s (fun _ r2 H2 => ∃ st2, Sim G r2 H2 st2 ∧ Grow r1 H1' r2 H2 ∧ Po G Wx s (fun w r' H' => ∀ v, Rep G r' H' w v → Q v H') r2 H2 (.ok (.ref st1.length) st2)) r1 H1' m := fun g3 q => q.imp fun _ r2 H2 g4 ⟨st2, q1, q2, q3⟩ => ⟨st2, q1, g4, q3⟩
        refine hb items[i] x s env env1 r H' _ rx (EnR.wipe (((en.grow g1).grow gr1).grow g2) own) eg fun s2 en2 ew => ⟨ew, env1, r, st, en2, sm', ?_⟩
        refine Po.noex ((Po.bind p).imp fun k r3 H3 g3 ⟨st3, sm3, _, p3⟩ => ?_)
        cases k with
        | false =>
          simp only [Bool.false_eq_true, if_false] at p3
          exact iteF ⟨r3, st3, (gr.trans g2).trans g3, sm3, lift g3 p3⟩
        | true =>
          simp only [if_true] at p3
          refine iteT ⟨env1, r3, st3, en2.grow g3, sm3, Po.noex ((Po.bind p3).imp fun yv r4 H4 g4 ⟨st4, sm4, _, p4⟩ vy ry => ?_)⟩
          have grD : Grow (l1 ++ [D]) (upd H1 D (.lst [])) r4 H4 := ((gr.trans g2).trans g3).trans g4
          split at p4
          · rename_i acc eacc
            obtain ⟨hz, p4⟩ := ite_bad p4
            obtain ⟨vs, e4, k4⟩ := sm4.got eacc (grD.at hDn)
            have sy4 : Stay H4 (upd H4 D (.lst (vs ++ [vy]))) := Stay.lst e4
            have g5 : Grow r4 H4 r4 (upd H4 D (.lst (vs ++ [vy]))) := Grow.same sy4
            have smn : Sim G r4 (upd H4 D (.lst (vs ++ [vy]))) (st4.set st1.length (.lst (acc ++ [yv]))) := sm4.put (grD.at hDn) e4 (fun _ z => by cases z) sy4 ⟨_, upd_same, (k4.append (.cons ry .nil)).grow g5⟩
            refine ⟨vs, e4, ?_, r4, _, grD.trans g5, smn, lift ((g3.trans g4).trans g5) (Po.grow g5 p4)⟩
            rw [← k4.length]
            exact Nat.lt_of_lt_of_le hz (by decide)
          · exact p4.elim
  · have ed : items.drop i = [] := List.drop_eq_nil_of_le (by omega)
    rw [ed] at p
    simp only [lcS] at p
    obtain ⟨hgd, p⟩ := ite_bad p
    have ei : i = items.length := by omega
    subst ei
    obtain ⟨st2, q1, q2, q3⟩ := Po.ok p sm
    exact .inl ⟨it.stop r H st (gD.trans gr) sm hgd, Po.ok q3 q1 _ (.ref (gr.at hDn))⟩
def bN (i : Nat) : W → En → Option En := fun w env => some (env.set i (some w))
theorem wipe_set1 (s : L2.St) (i : Nat) (v : V) : wipe ((wipe s [i]).set i (some v)) [i] = wipe s [i] := by
  simp [wipe]
theorem bind_name {G : Gx} {i : Nat} : BindOk G [i] (gName i) (bN i) := fun w v s env env1 r H Q rw' en e q => by
  cases e
  exact q _ (en.set rw') (wipe_set1 s i v)
def b2 (i j : Nat) : W → En → Option En := fun w env => match w with
  | .tup [x, y] => some ((env.set i (some x)).set j (some y))
  | _ => none
theorem wipe_set2 (s : L2.St) (i j : Nat) (v u : V) : wipe (((wipe s [i, j]).set i (some v)).set j (some u)) [i, j] = wipe s [i, j] := by
  simp only [wipe]
  apply List.ext_getElem?
  intro k
  simp only [List.getElem?_set, List.length_set]
  split <;> split <;> (try split) <;> (try split) <;> simp_all
theorem bind_two {G : Gx} {i j : Nat} : BindOk G [i, j] (gTup G.K 2 (gCons (gName i) (gCons (gName j) gNil))) (b2 i j) := fun w v s env env1 r H Q rw' en e q => by
  cases rw' with
  | tup h k =>
    cases k with
    | nil => cases e
    | cons h1 k =>
      cases k with
      | nil => cases e
      | cons h2 k =>
        cases k with
        | cons _ _ => cases e
        | nil =>
          cases e
          exact ⟨_, _, rfl, h, rfl, _, _, rfl, _, _, rfl, rfl, q _ ((en.set h1).set h2) (wipe_set2 s i j _ _)⟩
  | _ => cases e
def fYes : FT := fun _ st => .ok true st
theorem ts_nil {X : Cx} {Wx : WX} : PTs X [] (tT (gx X) Wx fYes) := ⟨fun pins s σ H Q I h => by
  obtain ⟨env, l, st, en, sm, p⟩ := h
  exact pts_nil.run pins s σ H Q I (Po.ok p sm)⟩
theorem ts_one {X : Cx} {Wx : WX} {c : Expr} {t : FT} (h : PT X c (tT (gx X) Wx t)) : PTs X [c] (tT (gx X) Wx t) := pts_one h
/-- [elt for x in iter if ..] -/
theorem e_lc {elt iter : Expr} {ifs : List Expr} {scope : Scope} {i : Nat} {x : Str} {fi : FI} {t : FT} {f : FE} {p : Pos} (hN : X.N.Nodup) (hi : PI X (.Name x p) iter (tI (gx X) Wx fi)) (ok : BlkOk X.N X.env.scope scope [(x, i)])
    (hg : ∀ (s : Shared) (H : Hp) (C : Addr) (cl : List (Str × Addr)) (fp : List Addr), PG (X.blk s H scope (compEnvC scope cl C X.env) fp) (.Name x p) (gName i)) (ht : ∀ (s : Shared) (H : Hp) (C : Addr) (cl : List (Str × Addr)) (fp : List Addr), PTs (X.blk s H scope (compEnvC scope cl C X.env) fp) ifs (tT (gx (X.blk s H scope (compEnvC scope cl C X.env) fp)) W0 t))
    (he : ∀ (s : Shared) (H : Hp) (C : Addr) (cl : List (Str × Addr)) (fp : List Addr), PE (X.blk s H scope (compEnvC scope cl C X.env) fp) elt (tE (gx (X.blk s H scope (compEnvC scope cl C X.env) fp)) W0 f)) (hc : X.calm = true := by rfl) (hs : ∀ x, foldedSetIterable iter X.env x = pure x := by intro _; rfl) :
    PE X (.ListComp elt [⟨.Name x p, iter, ifs, 0⟩] scope pos) (tE (gx X) Wx (fLc [i] fi (bN i) t f)) := (pe_lc hc hN hi ok hg ht he hs).imp fun s H Q h => lc_imp bind_name h
theorem e_lc2 {elt iter : Expr} {ifs : List Expr} {scope : Scope} {i j k : Nat} {x y : Str} {fi : FI} {t : FT} {f : FE} {p q u : Pos} (hN : X.N.Nodup) (hi : PI X (.Tuple [.Name x p, .Name y q] k u) iter (tI (gx X) Wx fi)) (ok : BlkOk X.N X.env.scope scope [(x, i), (y, j)])
    (hg : ∀ (s : Shared) (H : Hp) (C : Addr) (cl : List (Str × Addr)) (fp : List Addr), PG (X.blk s H scope (compEnvC scope cl C X.env) fp) (.Tuple [.Name x p, .Name y q] k u) (gTup X.K 2 (gCons (gName i) (gCons (gName j) gNil)))) (ht : ∀ (s : Shared) (H : Hp) (C : Addr) (cl : List (Str × Addr)) (fp : List Addr), PTs (X.blk s H scope (compEnvC scope cl C X.env) fp) ifs (tT (gx (X.blk s H scope (compEnvC scope cl C X.env) fp)) W0 t))
    (he : ∀ (s : Shared) (H : Hp) (C : Addr) (cl : List (Str × Addr)) (fp : List Addr), PE (X.blk s H scope (compEnvC scope cl C X.env) fp) elt (tE (gx (X.blk s H scope (compEnvC scope cl C X.env) fp)) W0 f)) (hc : X.calm = true := by rfl) (hs : ∀ x, foldedSetIterable iter X.env x = pure x := by intro _; rfl) :
    PE X (.ListComp elt [⟨.Tuple [.Name x p, .Name y q] k u, iter, ifs, 0⟩] scope pos) (tE (gx X) Wx (fLc [i, j] fi (b2 i j) t f)) := (pe_lc hc hN hi ok hg ht he hs).imp fun s H Q h => lc_imp bind_two h
/-- y = [elt for x in iter if ..] -/
theorem s_setLc {elt iter : Expr} {ifs : List Expr} {scope : Scope} {i n : Nat} {x y : Str} {fi : FI} {t : FT} {f : FE} {p py spos : Pos} (hN : X.N.Nodup) (hi : PI X (.Name x p) iter (tI (gx X) Wx fi)) (ok : BlkOk X.N X.env.scope scope [(x, i)])
    (hg : ∀ (s : Shared) (H : Hp) (C : Addr) (cl : List (Str × Addr)) (fp : List Addr), PG (X.blk s H scope (compEnvC scope cl C X.env) fp) (.Name x p) (gName i)) (ht : ∀ (s : Shared) (H : Hp) (C : Addr) (cl : List (Str × Addr)) (fp : List Addr), PTs (X.blk s H scope (compEnvC scope cl C X.env) fp) ifs (tT (gx (X.blk s H scope (compEnvC scope cl C X.env) fp)) W0 t))
    (he : ∀ (s : Shared) (H : Hp) (C : Addr) (cl : List (Str × Addr)) (fp : List Addr), PE (X.blk s H scope (compEnvC scope cl C X.env) fp) elt (tE (gx (X.blk s H scope (compEnvC scope cl C X.env) fp)) W0 f)) (hy : X.N[n]? = some y := by rfl) (hyl : X.env.scope.names.lookup y = some .local := by rfl)
    (hsw : swapsWith (.ListComp elt [⟨.Name x p, iter, ifs, 0⟩] scope pos) (some (.Name y py)) spos.line X.env = pure true := by exact sw_true rfl rfl rfl (by decide +kernel)) (hc : X.calm = true := by rfl) (hs : ∀ x, foldedSetIterable iter X.env x = pure x := by intro _; rfl) :
    PS X (.Assign [.Name y py] (.ListComp elt [⟨.Name x p, iter, ifs, 0⟩] scope pos) spos) (tS (gx X) Wx (fSet n (fLc [i] fi (bN i) t f))) := (ps_setLc hc hN hy hyl hsw hi ok hg ht he hs).imp fun D s H h => by
  obtain ⟨env, l, st, en, sm, p⟩ := h
  exact lc_imp bind_name ⟨env, l, st, en, sm, (SPo.toS en p).imp fun w l1 H1 g1 ⟨st1, sm1, _, p1⟩ v rv => p1 l1 H1 _ (Grow.refl _ _) sm1 ((en.grow g1).set rv)⟩
theorem s_setLc2 {elt iter : Expr} {ifs : List Expr} {scope : Scope} {i j n kk : Nat} {x x2 y : Str} {fi : FI} {t : FT} {f : FE} {p q u py spos : Pos} (hN : X.N.Nodup) (hi : PI X (.Tuple [.Name x p, .Name x2 q] kk u) iter (tI (gx X) Wx fi)) (ok : BlkOk X.N X.env.scope scope [(x, i), (x2, j)])
    (hg : ∀ (s : Shared) (H : Hp) (C : Addr) (cl : List (Str × Addr)) (fp : List Addr), PG (X.blk s H scope (compEnvC scope cl C X.env) fp) (.Tuple [.Name x p, .Name x2 q] kk u) (gTup X.K 2 (gCons (gName i) (gCons (gName j) gNil)))) (ht : ∀ (s : Shared) (H : Hp) (C : Addr) (cl : List (Str × Addr)) (fp : List Addr), PTs (X.blk s H scope (compEnvC scope cl C X.env) fp) ifs (tT (gx (X.blk s H scope (compEnvC scope cl C X.env) fp)) W0 t))
    (he : ∀ (s : Shared) (H : Hp) (C : Addr) (cl : List (Str × Addr)) (fp : List Addr), PE (X.blk s H scope (compEnvC scope cl C X.env) fp) elt (tE (gx (X.blk s H scope (compEnvC scope cl C X.env) fp)) W0 f)) (hy : X.N[n]? = some y := by rfl) (hyl : X.env.scope.names.lookup y = some .local := by rfl)
    (hsw : swapsWith (.ListComp elt [⟨.Tuple [.Name x p, .Name x2 q] kk u, iter, ifs, 0⟩] scope pos) (some (.Name y py)) spos.line X.env = pure true := by exact sw_true rfl rfl rfl (by decide +kernel)) (hc : X.calm = true := by rfl) (hs : ∀ x, foldedSetIterable iter X.env x = pure x := by intro _; rfl) :
    PS X (.Assign [.Name y py] (.ListComp elt [⟨.Tuple [.Name x p, .Name x2 q] kk u, iter, ifs, 0⟩] scope pos) spos) (tS (gx X) Wx (fSet n (fLc [i, j] fi (b2 i j) t f))) := (ps_setLc hc hN hy hyl hsw hi ok hg ht he hs).imp fun D s H h => by
  obtain ⟨env, l, st, en, sm, p⟩ := h
  exact lc_imp bind_two ⟨env, l, st, en, sm, (SPo.toS en p).imp fun w l1 H1 g1 ⟨st1, sm1, _, p1⟩ v rv => p1 l1 H1 _ (Grow.refl _ _) sm1 ((en.grow g1).set rv)⟩
end
end Sw
/-! Sw9: defs, calls of defs, raise, methods. -/
namespace Sw
open PySem PySem.Spec PyProof.Rows L2
abbrev FF := List W → Sto → An W
/-- what a def promises: it does as F says -/
def spF (G : Gx) (n : Nat) (F : FF) : Sp := fun vs H Q E => vs.length = n ∧ ∃ ws r st, RepL G r H ws vs ∧ Sim G r H st ∧ Po G (fun c d _ H' => E c d H') [] (fun w r' H' => ∀ v, Rep G r' H' w v → Q v H') r H (F ws st)
theorem Po.wx {G : Gx} {Wx Wx' : WX} {s s' : L2.St} {α : Type} {P : α → List Addr → Hp → Prop} {r : List Addr} {H : Hp} {m : An α} (h : Po G Wx s P r H m) (k : ∀ c d H', Wx c d s H' → Wx' c d s' H') : Po G Wx' s' P r H m := by
  cases m with
  | ok a st => exact h
  | ex C fs st => exact fun r' H' ca d g q x => k _ _ _ (h r' H' ca d g q x)
  | bad => exact h
def start (n : Nat) (ws : List W) : En := ws.map some ++ List.replicate (n - ws.length) none
def fRun (n : Nat) (f : FS) : FF := fun ws st => match f (start n ws) st with
  | .nx _ s => .ok .non s
  | .rt w s => .ok w s
  | .ex C fs _ s => .ex C fs s
  | _ => .bad
theorem start_at {G : Gx} {r : List Addr} {H : Hp} : ∀ {ws : List W} {vs : List V} (k : RepL G r H ws vs) (n : Nat) (i : Nat) (w : W), (ws.map some ++ List.replicate n none)[i]? = some (some w) → ∃ v, (vs.map some ++ List.replicate n none)[i]? = some (some v) ∧ Rep G r H w v
  | _, _, .nil, n, i, w, e => by
    simp only [List.map_nil, List.nil_append] at e
    rw [List.getElem?_replicate] at e
    split at e <;> cases e
  | _, _, .cons h k, n, 0, w, e => by
    cases e
    exact ⟨_, rfl, h⟩
  | _, _, .cons h k, n, i + 1, w, e => start_at k n i w (by simpa using e)
theorem en_start {G : Gx} {r : List Addr} {H : Hp} {ws : List W} {vs : List V} (k : RepL G r H ws vs) (N : List Str) : EnR G r H (start N.length ws) (L2.start N vs) := by
  refine ⟨?_, fun i w e => ?_⟩
  · unfold start L2.start
    simp [k.length]
  · unfold start at e
    unfold L2.start
    rw [← k.length]
    exact start_at k _ i w e
theorem fn_read {G : Gx} {N : List Str} {f : FS} {vs : List V} {H : Hp} {Q : VK} {E : XK} {n : Nat} (h : spF G n (fRun N.length f) vs H Q E) : tS G (fun c d _ H' => E c d H') f { nx := fun _ H' => Q .non H', rt := Q } (L2.start N vs) H := by
  obtain ⟨_, ws, r, st, k, sm, p⟩ := h
  refine ⟨start N.length ws, r, st, en_start k N, sm, ?_⟩
  unfold fRun at p
  cases e : f (start N.length ws) st with
  | nx env s => rw [e] at p; exact fun r' H' s' g q _ => p r' H' g q _ .non
  | rt w s => rw [e] at p; exact fun r' H' v g q x => p r' H' g q v x
  | ex C fs env s => rw [e] at p; exact fun r' H' s' ca d g q _ x => p r' H' ca d g q x
  | _ => rw [e] at p; exact p.elim
section
variable {P : Program} {w : World} {K : PySem.W.Frag} {mg : Str → Option Value} {base : Heap}
abbrev FnW (P : Program) (w : World) (K : PySem.W.Frag) (mg : Str → Option Value) (base : Heap) (k : Nat) (f : Addr) (fd : FuncData) (ps : List Str) (F : FF) : Prop := FnOk P w K mg base (L2.CX P w) k f fd ps (spF ⟨K, mg⟩ ps.length F)
/-- the context of a def's body -/
abbrev bx (P : Program) (w : World) (K : PySem.W.Frag) (mg : Str → Option Value) (base : Heap) (N : List Str) (qual : Str) (scope : Scope) (f : Addr) (cd : Value) (A : Around) (outer : List Env) (s : Shared) (H : Hp) (E : XK) : Cx := cxOf (L2.CX P w) P w K mg base N qual scope f cd A outer s H E
theorem fn_W {x qual : Str} {st : Stmt} {f : Addr} {fd : FuncData} {N ps : List Str} {k : Nat} {b : FS} (F : Fun K x qual st f fd) (S : FnScope N ps (defScope st))
    (h : ∀ (cdv : Value) (A : Around) (outer : List Env) (s : Shared) (H : Hp) (E : XK), Room k (A.deeper (envOfC qual (defScope st) s.heap.objs.size f cdv)) → Takes (bx P w K mg base N qual (defScope st) f cdv A outer s H E) (fun c d _ H' => E c d H') →
      PassesOwn (model P w) (bx P w K mg base N qual (defScope st) f cdv A outer s H E).A (bx P w K mg base N qual (defScope st) f cdv A outer s H E).env (bx P w K mg base N qual (defScope st) f cdv A outer s H E).xe →
      PSs (bx P w K mg base N qual (defScope st) f cdv A outer s H E) (defBody st) (tS ⟨K, mg⟩ (fun c d _ H' => E c d H') b)) : FnW P w K mg base (k + 1) f fd ps (fRun N.length b) :=
  F.okX S (fun vs H Q E h => h.1) fun cdv A outer s H vs Q E hr hs => ⟨_, h cdv A outer s H E hr (takes_of rfl rfl rfl rfl) (passes_of rfl), fn_read hs⟩
theorem fn_WD {x qual : Str} {params : Arguments} {body : List Stmt} {scope : Scope} {dvs : List V} {kws : List (Str × V)} {f : Addr} {fd : FuncData} {N ps : List Str} {k : Nat} {b : FS} (F : FunD K x qual params body scope dvs kws f fd) (S : FnScope N ps scope)
    (h : ∀ (cdv : Value) (A : Around) (outer : List Env) (s : Shared) (H : Hp) (E : XK), Room k (A.deeper (envOfC qual scope s.heap.objs.size f cdv)) → Takes (bx P w K mg base N qual scope f cdv A outer s H E) (fun c d _ H' => E c d H') →
      PassesOwn (model P w) (bx P w K mg base N qual scope f cdv A outer s H E).A (bx P w K mg base N qual scope f cdv A outer s H E).env (bx P w K mg base N qual scope f cdv A outer s H E).xe →
      PSs (bx P w K mg base N qual scope f cdv A outer s H E) body (tS ⟨K, mg⟩ (fun c d _ H' => E c d H') b)) : FnW P w K mg base (k + 1) f fd ps (fRun N.length b) :=
  F.ok S (fun vs H Q E h => h.1) fun cdv A outer s H vs Q E hr hs => ⟨_, h cdv A outer s H E hr (takes_of rfl rfl rfl rfl) (passes_of rfl), fn_read hs⟩
/-- another function that says the same where it says something -/
theorem FnW.imp {k : Nat} {f : Addr} {fd : FuncData} {ps : List Str} {F F' : FF} (h : FnW P w K mg base k f fd ps F) (e : ∀ ws st, F' ws st = F ws st ∨ F' ws st = .bad) : FnW P w K mg base k f fd ps F' := FnOk.imp h fun vs H Q E ⟨hl, ws, r, st, a, b, c⟩ => by
  refine ⟨hl, ws, r, st, a, b, ?_⟩
  rcases e ws st with q | q
  · rw [← q]; exact c
  · rw [q] at c; exact c.elim
end

/-! ### what was made within a call and isn't handed out is forgotten -/
mutual
/-- no object at n or later is named -/
def closedW (n : Nat) : W → Bool
  | .tup l => closedL n l
  | .rol l => closedL n l
  | .ref m => decide (m < n)
  | _ => true
def closedL (n : Nat) : List W → Bool
  | [] => true
  | w :: l => closedW n w && closedL n l
end
def closedO (n : Nat) : Ob → Bool
  | .lst l => closedL n l
  | .dct l => l.all fun p => closedW n p.2
  | .ins _ fs => fs.all fun p => closedW n p.2
  | .exc _ fs => fs.all fun p => closedW n p.2
mutual
theorem Rep.closed {G : Gx} {r : List Addr} {H : Hp} : ∀ {w : W} {v : V}, Rep G r H w v → closedW r.length w = true
  | _, _, .tup h k => by simp only [closedW]; exact RepL.closed k
  | _, _, .rol h k => by simp only [closedW]; exact RepL.closed k
  | _, _, .ref h => by simp only [closedW]; exact decide_eq_true (List.getElem?_eq_some_iff.mp h).1
  | _, _, .non => rfl
  | _, _, .bl _ => rfl
  | _, _, .int _ => rfl
  | _, _, .str _ => rfl
  | _, _, .ty _ => rfl
  | _, _, .gl _ => rfl
theorem RepL.closed {G : Gx} {r : List Addr} {H : Hp} : ∀ {w : List W} {v : List V}, RepL G r H w v → closedL r.length w = true
  | _, _, .nil => rfl
  | _, _, .cons h k => by simp only [closedL, Rep.closed h, RepL.closed k]; rfl
end
mutual
theorem Rep.back {G : Gx} {r t : List Addr} {H : Hp} : ∀ {w : W} {v : V}, Rep G (r ++ t) H w v → closedW r.length w = true → Rep G r H w v
  | _, _, .tup h k, c => .tup h (RepL.back k (by simpa only [closedW] using c))
  | _, _, .rol h k, c => .rol h (RepL.back k (by simpa only [closedW] using c))
  | _, _, .ref h, c => .ref (by rw [List.getElem?_append_left (by simpa only [closedW, decide_eq_true_eq] using c)] at h; exact h)
  | _, _, .non, _ => .non
  | _, _, .bl _, _ => .bl _
  | _, _, .int _, _ => .int _
  | _, _, .str _, _ => .str _
  | _, _, .ty _, _ => .ty _
  | _, _, .gl h, _ => .gl h
theorem RepL.back {G : Gx} {r t : List Addr} {H : Hp} : ∀ {w : List W} {v : List V}, RepL G (r ++ t) H w v → closedL r.length w = true → RepL G r H w v
  | _, _, .nil, _ => .nil
  | _, _, .cons h k, c => by
    simp only [closedL, Bool.and_eq_true] at c
    exact .cons (Rep.back h c.1) (RepL.back k c.2)
end
theorem RepD.closed {G : Gx} {r : List Addr} {H : Hp} {l : List (Key × W)} {vs : List (Key × V)} (h : RepD G r H l vs) : (l.all fun p => closedW r.length p.2) = true := by
  induction h with
  | nil => rfl
  | cons h _ ih => rw [List.all_cons, ih, h.closed]; rfl
theorem RepF.closed {G : Gx} {r : List Addr} {H : Hp} {l : Flds} {vs : List (Str × V)} (h : RepF G r H l vs) : (l.all fun p => closedW r.length p.2) = true := by
  induction h with
  | nil => rfl
  | cons h _ ih => rw [List.all_cons, ih, h.closed]; rfl
theorem RepD.back {G : Gx} {r t : List Addr} {H : Hp} {l : List (Key × W)} {vs : List (Key × V)} (h : RepD G (r ++ t) H l vs) (c : (l.all fun p => closedW r.length p.2) = true) : RepD G r H l vs := by
  induction h with
  | nil => exact .nil
  | cons h _ ih =>
    rw [List.all_cons, Bool.and_eq_true] at c
    exact .cons (h.back c.1) (ih c.2)
theorem RepF.back {G : Gx} {r t : List Addr} {H : Hp} {l : Flds} {vs : List (Str × V)} (h : RepF G (r ++ t) H l vs) (c : (l.all fun p => closedW r.length p.2) = true) : RepF G r H l vs := by
  induction h with
  | nil => exact .nil
  | cons h _ ih =>
    rw [List.all_cons, Bool.and_eq_true] at c
    exact .cons (h.back c.1) (ih c.2)
theorem ObR.closed {G : Gx} {r : List Addr} {H : Hp} {a : Addr} {o : Ob} (h : ObR G r H a o) : closedO r.length o = true := by
  cases o with
  | lst l => obtain ⟨vs, _, k⟩ := h; exact k.closed
  | dct l => obtain ⟨vs, _, k⟩ := h; exact k.closed
  | ins C fs => obtain ⟨_, _, _, _, _, k⟩ := h; exact k.closed
  | exc C fs =>
    obtain ⟨_, _, _, _, k⟩ := h
    rcases k with ⟨rfl, _⟩ | ⟨_, _, _, _, k⟩
    · rfl
    · exact k.closed
theorem ObR.back {G : Gx} {r t : List Addr} {H : Hp} {a : Addr} {o : Ob} (h : ObR G (r ++ t) H a o) (c : closedO r.length o = true) : ObR G r H a o := by
  cases o with
  | lst l => obtain ⟨vs, e, k⟩ := h; exact ⟨vs, e, k.back c⟩
  | dct l => obtain ⟨vs, e, k⟩ := h; exact ⟨vs, e, k.back c⟩
  | ins C fs => obtain ⟨a, b, d, e, f, k⟩ := h; exact ⟨a, b, d, e, f, k.back c⟩
  | exc C fs =>
    obtain ⟨a, b, d, e, k⟩ := h
    refine ⟨a, b, d, e, ?_⟩
    rcases k with k | ⟨da, vs, e1, e2, k⟩
    · exact .inl k
    · exact .inr ⟨da, vs, e1, e2, k.back c⟩
/-- the first n objects are enough -/
def Shut (n : Nat) (st st' : Sto) : Prop := n ≤ st'.length ∧ ∀ (i : Nat) (o : Ob), i < n → st'[i]? = some o → st[i]? = some o ∨ closedO n o = true
theorem Sim.cut {G : Gx} {r r' : List Addr} {H H' : Hp} {st st' : Sto} (s : Sim G r H st) (g : Grow r H r' H') (s' : Sim G r' H' st') (h : Shut st.length st st') : Sim G r H' (st'.take st.length) := by
  obtain ⟨t, rfl⟩ := g.pre
  refine ⟨by rw [List.length_take, s.len, Nat.min_eq_left h.1], s.nd, fun n o a e1 e2 => ?_⟩
  have hn : n < st.length := by rw [← s.len]; exact (List.getElem?_eq_some_iff.mp e2).1
  rw [List.getElem?_take_of_lt hn] at e1
  have e3 : (r ++ t)[n]? = some a := g.at e2
  have q := s'.ob n o a e1 e3
  refine q.back ?_
  rcases h.2 n o hn e1 with z | z
  · have := (s.ob n o a z e2).closed
    exact this
  · rw [s.len]; exact z
open Classical in
/-- F, all forgotten that is made within and named by nothing -/
noncomputable def clean (F : FF) : FF := fun ws st => match F ws st with
  | .ok w st' => if Shut st.length st st' ∧ closedW st.length w = true then .ok w (st'.take st.length) else .ok w st'
  | o => o
theorem clean_eq {F : FF} {ws : List W} {st st' : Sto} {w : W} (h : F ws st = .ok w st') (h1 : Shut st.length st st') (h2 : closedW st.length w = true) : clean F ws st = .ok w (st'.take st.length) := by
  unfold clean
  rw [h]
  exact if_pos ⟨h1, h2⟩
theorem clean_app {F : FF} {ws : List W} {st g : Sto} {w : W} (h : F ws st = .ok w (st ++ g)) (h2 : closedW st.length w = true) : clean F ws st = .ok w st := by
  rw [clean_eq h ⟨by simp, fun i o hi e => .inl (by rw [List.getElem?_append_left hi] at e; exact e)⟩ h2, List.take_left]
theorem clean_set {F : FF} {ws : List W} {st st1 g : Sto} {w : W} (h : F ws st = .ok w (st1 ++ g)) (hl : st1.length = st.length) (h1 : ∀ (i : Nat) (o : Ob), st1[i]? = some o → st[i]? = some o ∨ closedO st.length o = true) (h2 : closedW st.length w = true) : clean F ws st = .ok w st1 := by
  rw [clean_eq h ⟨by simp [hl], fun i o hi e => h1 i o (by rw [List.getElem?_append_left (by omega)] at e; exact e)⟩ h2, ← hl, List.take_left]
theorem clean_ex {F : FF} {ws : List W} {st st' : Sto} {C : Str} {fs : Flds} (h : F ws st = .ex C fs st') : clean F ws st = .ex C fs st' := by
  unfold clean
  rw [h]
section
variable {P : Program} {w : World} {K : PySem.W.Frag} {mg : Str → Option Value} {base : Heap}
theorem FnW.clean {k : Nat} {f : Addr} {fd : FuncData} {ps : List Str} {F : FF} (h : FnW P w K mg base k f fd ps F) : FnW P w K mg base k f fd ps (clean F) := FnOk.imp h fun vs H Q E ⟨hl, ws, r, st, a, b, c⟩ => by
  refine ⟨hl, ws, r, st, a, b, ?_⟩
  unfold Sw.clean at c
  cases e : F ws st with
  | ex C fs st' => rw [e] at c; exact c
  | bad => rw [e] at c; exact c
  | ok x st' =>
    rw [e] at c
    by_cases hs : Shut st.length st st' ∧ closedW st.length x = true
    · simp only [if_pos hs] at c
      intro r' H' g s' v rv
      have s2 := b.cut g s' hs.1
      refine c r H' (Grow.same g.stay) s2 v ?_
      obtain ⟨t, rfl⟩ := g.pre
      exact rv.back (by rw [b.len]; exact hs.2)
    · simp only [if_neg hs] at c
      exact c
end
section
variable {X : Cx} {Wx : WX} {pos p : Pos} {a b c e : Expr} {fa fb fc : FE} {es : List Expr} {k : Nat} {f : Addr} {fd : FuncData} {ps : List Str} {F : FF} {x : Str}
def fFn (n : Nat) (F : FF) (f : FA) : FE := fun env st => (f env st).bind fun ws st1 => if ws.length = n then F ws st1 else .bad
theorem fn_arg {s : L2.St} {H : Hp} {Q : VK} {f : FA} {n : Nat} (h : tE (gx X) Wx (fFn n F f) s H Q) : tL (gx X) Wx f s H fun vs H1 => spF (gx X) n F vs H1 Q (WE Wx s) := by
  obtain ⟨env, l, st, en, sm, p⟩ := h
  refine ⟨env, l, st, en, sm, (Po.bind p).imp fun ws l1 H1 g1 ⟨st1, sm1, _, p1⟩ vs rx => ?_⟩
  obtain ⟨hl, p1⟩ := ite_bad p1
  exact ⟨by rw [← rx.length]; exact hl, ws, l1, st1, rx, sm1, Po.wx p1 fun _ _ _ q => q⟩
theorem e_fn {g : FA} (Fk : FnW X.prog X.w X.K X.mg X.base k f fd ps F) (hr : Room k X.A) (hm : X.mg x = some (.ref f)) (hk : PySem.W.keepIn X.K (.ref f) = true) (hb : Binds X.K fd ps []) (tk : Takes X Wx) (ha : PA X (e :: es) (tL (gx X) Wx g)) (hg : Gl X x := by rfl) (hdb : (x == ("__debug__" : Str)) = false := by decide)
    (he : starEach (e :: es) X.env = (false, eval e X.env) :: starEach es X.env := by rfl) (hpl : (backTo pos (starEach es X.env)).any (·.1) = false := by rfl) : PE X (.Call (.Name x p) (e :: es) [] pos) (tE (gx X) Wx (fFn ps.length F g)) :=
  (pe_callS (E := WE Wx) Fk hr hg hm hk hb (fun σ => passAt tk σ) ha hdb he hpl).imp fun s H Q h => fn_arg h
/-- .. where defaults fill up -/
theorem e_fnD {g : FA} {dvs : List V} {dws : List W} {ds : List Value} (Fk : FnW X.prog X.w X.K X.mg X.base k f fd ps F) (hr : Room k X.A) (hm : X.mg x = some (.ref f)) (hk : PySem.W.keepIn X.K (.ref f) = true) (hb : Binds X.K fd ps ds) (hd : Vals dvs ds) (hdw : ∀ r H, RepL (gx X) r H dws dvs) (tk : Takes X Wx) (ha : PA X (e :: es) (tL (gx X) Wx g)) (hg : Gl X x := by rfl) (hdb : (x == ("__debug__" : Str)) = false := by decide)
    (he : starEach (e :: es) X.env = (false, eval e X.env) :: starEach es X.env := by rfl) (hpl : (backTo pos (starEach es X.env)).any (·.1) = false := by rfl) : PE X (.Call (.Name x p) (e :: es) [] pos) (tE (gx X) Wx (fFn ps.length F fun env st => (g env st).bind fun ws st1 => .ok (ws ++ dws) st1)) :=
  (pe_callSD (E := WE Wx) Fk hr hg hm hk hb hd (fun σ => passAt tk σ) ha hdb he hpl).imp fun s H Q h => by
    obtain ⟨env, l, st, en, sm, p⟩ := fn_arg h
    refine ⟨env, l, st, en, sm, (Po.bind p).imp fun ws l1 H1 g1 ⟨st1, sm1, _, p1⟩ vs rx => ?_⟩
    exact Po.ok p1 sm1 _ (rx.append (hdw _ _))
/-! ### raise C("..") -/
structure XCls (K : PySem.W.Frag) (mg : Str → Option Value) (x : Str) (C : Addr) : Prop where
  gC : mg x = some (.ref C)
  ex : PySem.W.excIn K C [.type "ValueError", .type "Exception", .type "BaseException", .type "object"] "ValueError.__new__" = true
  kp : PySem.W.keepIn K (.ref C) = true
  sb : PySem.W.subIn K (.ref C) (.type "BaseException") = some true
  ty : PySem.W.typeIn K (.ref C) = some (.type "type")
def fRaise (C : Str) : FS := fun env st => .ex C [] env st
theorem s_raise {m : Str} {j : Nat} {C : Addr} {p2 p3 : Pos} (xc : XCls X.K X.mg x C) (tk : Takes X Wx) (hg : Gl X x := by rfl) (hc : X.calm = true := by rfl) (hdb : (x == ("__debug__" : Str)) = false := by decide) : PS X (.Raise (some (.Call (.Name x p) [.Constant (.str m) j p2] [] p3)) none pos) (tS (gx X) Wx (fRaise x)) :=
  (ps_raise hc tk (pmk_own PySem.F.excBase_ValueError xc.ex xc.gC xc.kp (raises_own xc.sb xc.ty) hg hdb)).imp fun D s H h => by
    obtain ⟨env, l, st, en, sm, p⟩ := h
    exact p l H s (.ref C) none (Grow.refl _ _) sm en ⟨C, rfl, xc.gC, .inl ⟨rfl, rfl⟩⟩

/-! ### methods -/
/-- x.append(e) -/
def isLst (st : Sto) : W → Bool
  | .ref n => match st[n]? with
    | some (.lst _) => true
    | _ => false
  | _ => false
theorem isLst_rep {G : Gx} {r : List Addr} {H : Hp} {st : Sto} {x : W} {v : V} (sm : Sim G r H st) (h : Rep G r H x v) (e : isLst st x = true) : tyV G.K "list" v H := by
  cases h with
  | ref h =>
    simp only [isLst] at e
    split at e
    · rename_i hl
      obtain ⟨vs, e2, _⟩ := sm.got hl h
      exact .inl ⟨rfl, _, .inl (.inl e2)⟩
    · cases e
  | _ => cases e
def fMt (q : Sto → W → Bool) (g : W → List W → Sto → An W) (fo : FE) (fa : FA) : FE := fun env st => (fo env st).bind fun o st1 => if q st1 o = true then (fa env st1).bind fun ws st2 => g o ws st2 else .bad
def MtRf (G : Gx) (r : V → List V → Hp → VK → Prop) (g : W → List W → Sto → An W) : Prop := ∀ (o : W) (ws : List W) (st : Sto) (l : List Addr) (H : Hp) (vo : V) (vs : List V) (Q : VK) (Wx : WX) (s : L2.St), Sim G l H st → Rep G l H o vo → RepL G l H ws vs →
  Po G Wx s (fun w r' H' => ∀ v, Rep G r' H' w v → Q v H') l H (g o ws st) → r vo vs H Q
theorem mt_imp {T : String} {q : Sto → W → Bool} {g : W → List W → Sto → An W} {r : V → List V → Hp → VK → Prop} {f : FA} (hq : ∀ {l : List Addr} {H : Hp} {st : Sto} {o : W} {v : V}, Sim (gx X) l H st → Rep (gx X) l H o v → q st o = true → tyV X.K T v H) (hg : MtRf (gx X) r g) {s : L2.St} {H : Hp} {Q : VK}
    (h : tE (gx X) Wx (fMt q g fa f) s H Q) : tBM X.K T r (tE (gx X) Wx fa) (tL (gx X) Wx f) s H Q := by
  obtain ⟨env, l, st, en, sm, p⟩ := h
  refine ⟨env, l, st, en, sm, (Po.bind p).imp fun o l1 H1 g1 ⟨st1, sm1, _, p1⟩ vo ro => ?_⟩
  obtain ⟨hl, p1⟩ := ite_bad p1
  refine ⟨hq sm1 ro hl, env, l1, st1, en.grow g1, sm1, (Po.bind p1).imp fun ws l2 H2 g2 ⟨st2, sm2, _, p2⟩ vs rx => ?_⟩
  exact hg o ws st2 l2 H2 vo vs Q Wx s sm2 (ro.grow g2) rx p2
def wApp : W → List W → Sto → An W
  | .ref n, [w], st => match st[n]? with
    | some (.lst l) => if l.length < 100000 then .ok .non (st.set n (.lst (l ++ [w]))) else .bad
    | _ => .bad
  | _, _, _ => .bad
theorem rf_app {G : Gx} : MtRf G rAppend wApp := by
  intro o ws st l H vo vs Q Wx s sm ro rx p
  cases ro with
  | @ref n a h =>
    cases rx with
    | nil => exact p.elim
    | cons h1 k1 =>
      cases k1 with
      | cons _ _ => exact p.elim
      | nil =>
        simp only [wApp] at p
        split at p
        · rename_i l' hl
          obtain ⟨hz, p⟩ := ite_bad p
          obtain ⟨us, e2, kk⟩ := sm.got hl h
          have sy : ∀ v, Stay H (upd H a (.lst (us ++ [v]))) := fun v => Stay.lst e2
          refine ⟨a, us, _, rfl, rfl, e2, ?_, p l _ (Grow.same (sy _)) (sm.put h e2 (fun _ z => by cases z) (sy _) ⟨_, upd_same, (kk.append (.cons h1 .nil)).grow (Grow.same (sy _))⟩) _ .non⟩
          rw [← kk.length]
          exact Nat.lt_of_lt_of_le hz (by decide)
        · exact p.elim
  | _ => exact p.elim
theorem e_app {o : Expr} {apos : Pos} {g : FA} {pl : Sem Bool} (ho : PE X o (tE (gx X) Wx fa)) (ha : PA X (e :: es) (tL (gx X) Wx g)) (h : PE X (.Call (.Attribute o "append" apos) (e :: es) [] pos) (tBM X.K "list" rAppend (tE (gx X) Wx fa) (tL (gx X) Wx g))) : PE X (.Call (.Attribute o "append" apos) (e :: es) [] pos) (tE (gx X) Wx (fMt isLst wApp fa g)) :=
  h.imp fun s H Q h => mt_imp isLst_rep rf_app h
end
end Sw
/-! SwI: isinstance. -/
namespace PySem.W
open PySem PySem.Spec PySem.Calls PyProof.Rows
section
variable {prog : Program} {w : World} {A : Around} {E : Value → Shared → Prop} {s : Shared} {K : Frag} {x D : Addr} {ox : Obj} {od : Option Obj}
theorem sw_findObj {C : Addr} {name : Str} {a g : Value} (hc : (clsIn K C).isSome = true) (ha : findIn K (.ref C) name = some (some a)) (hg : specialIn K a "__get__" = some (some g)) (ht : takesIn K a = some true) : findObj K C od name = some (.bind g a) := by
  obtain ⟨cd, hc⟩ := Option.isSome_iff_exists.mp hc
  unfold findObj
  rw [hc, Option.bind_some, ha, Option.bind_some]
  simp [hg, ht]
/-- __class__ of an exception of an own class, with or without fields -/
theorem sw_kin {Q : Option Value → Shared → Prop} (C : L2.ExcC K D) (X : K.In s.heap) (I : InstAt s.heap x ox D od) (h : Q (some (.ref D)) { s with toks := s.toks + 1 }) : wpAny (model prog w) A (getAttr? (.ref x) "__class__") Q E s := by
  obtain ⟨hga, hgt, hsub, hdct, ha, hn, htk, hm⟩ := C
  have hf : findObj K D od "__class__" = some (.bind (.builtin "getset_descriptor.__get__") (.builtin "object.__class__")) := sw_findObj (by obtain ⟨cd, hc, _⟩ := any_some hdct; rw [hc]; rfl) ha hn htk
  obtain ⟨hp, g, d, t, os⟩ := s
  have L0 := I.type (M := model prog w)
  have L1 := looks_findIn (M := model prog w) X hga
  have L2 := looks_findIn (M := model prog w) X hgt
  have L3 := looks_find (M := model prog w) X I hf
  have sub : Looks (model prog w) hp (isInstance (.ref x) (.type "BaseException")) true := L0.andThen (looks_subIn X hsub)
  have hx0 : (false && onTheHeap (Value.builtin "BaseException.__getattribute__")) = false := rfl
  have hx2 : (Value.builtin "BaseException.__getattribute__" == Value.builtin "object.__getattribute__") = false := by decide +kernel
  have hx1 : (onTheHeap (Value.ref D) && Value.builtin "BaseException.__getattribute__" == Value.builtin "object.__getattribute__") = false := by rw [hx2]; rfl
  unfold getAttr? getAttrBy? getAttrBy
  refine wpAny_bind (wpAny_mkText (wpAny_bind (wpAny_attempt (wpAny_holding (wpAny_bind (L0.at (wpAny_bind (L1.at ?_))))))))
  show wpAny _ _ (if (onTheHeap (Value.ref D) && Value.builtin "BaseException.__getattribute__" == Value.builtin "object.__getattribute__") = true then _ else _) _ _ _
  rw [hx1, if_neg Bool.false_ne_true]
  unfold getAttrByItsOwn hookBefore
  refine wpAny_bind ?_
  rw [if_pos (show onTheHeap (Value.ref D) = true from rfl)]
  refine L2.at ?_
  refine wpAny_bind (wpAny_attempt (wpAny_holding ?_))
  unfold callGetattribute
  rw [hx0, if_neg Bool.false_ne_true]
  unfold boundAndCalled
  rw [PySem.F.excAttr_ValueError.ga.bind (.ref x)]
  refine wpAny_bind (wpAny_pure ?_)
  show wpAny _ _ (call (.builtin "BaseException.__getattribute__") [.ref x, .str "__class__" t]) _ _ _
  refine wpAny_call (codeAny_call_builtin PySem.F.excAttr_ValueError.ga.plain PySem.F.entry_bexc_ga ?_)
  refine @check_slot (model prog w) _ _ ⟨hp, g, d, t + 1, os⟩ "BaseException.__getattribute__" "BaseException" "__getattribute__" (.ref x) [.str "__class__" t] [] _ (by decide +kernel) (by decide +kernel) sub (PySem.F.args_bexc_ga (.ref x) (.str "__class__" t)) ?_
  unfold Builtin.«object.__getattribute__»
  refine wpAny_bind (wpAny_of_eq (a := ((Value.ref x : Value), [Value.str "__class__" t])) (by first | rfl | (simp only [slotArgs]; rfl)) ?_)
  refine wpAny_bind (wpAny_pure (wpAny_bind (L0.at (wpAny_bind (L3.at ?_)))))
  show wpAny _ _ (holding [Value.builtin "object.__class__"] (call (.builtin "getset_descriptor.__get__") [.builtin "object.__class__", .ref x, .ref D]) >>= ret) _ _ _
  refine wpAny_bind (wpAny_holding (wpAny_call (class_get (s := ⟨hp, g, d, t + 1, os⟩) (ox := ox) (od := od) X I hm ?_)))
  refine wpAny_pure ?_
  show wpAny _ _ (handedOut (.ref D)) _ _ _
  rw [handedOut_of (v := .ref D) rfl]
  first
    | exact wpAny_pure (wpAny_pure h)
    | exact wpAny_pure h
    | exact wpAny_pure (wpAny_bind (wpAny_pure (wpAny_pure h)))
theorem sw_kitx (C : L2.ExcC K D) : KitX K (.ref x) (.ref D) (fun h => ∃ ox od, InstAt h x ox D od) where
  ty := fun _ _ _ ⟨_, _, I⟩ => I.type
  it := fun _ _ X _ => by
    obtain ⟨cdD, hcD, _⟩ := any_some C.hd
    unfold clsIn at hcD
    split at hcD
    · rename_i c' d' cd' sl' ho
      intro A' Q' E' s' k q
      unfold isType loadHead
      exact wpAny_bind (wpAny_loadPart (k _ _ (X _ _ ho)) (wpAny_pure q))
    · cases hcD
  ne := fun h tp dd its n sl X htp => by
    obtain ⟨cdD, hcD, _⟩ := any_some C.hd
    refine Bool.eq_false_iff.mpr fun q => ?_
    have e : D = tp := Value.ref.inj (beq_iff_eq.mp q)
    subst e
    unfold clsIn at hcD
    split at hcD
    · rename_i c' d' cd' sl' ho
      have z := (X _ _ ho).symm.trans htp
      cases z
    · cases hcD
  ca := fun X ⟨_, _, I⟩ k => sw_kin C X I k
end
end PySem.W
namespace Sw
open PySem PySem.Spec PyProof.Rows L2
/-- a value's type -/
inductive TyW (K : PySem.W.Frag) (H : Hp) : V → Value → Prop where
  | base {x : V} {t : Value} (h : TyX K H x t) : TyW K H x t
  | exc {a C : Addr} {d : Option Addr} (e : H a = some (.ext (excAt (.ref C) d a))) (k : d = none ∨ ∃ da vs, d = some da ∧ H da = some (.xd vs)) (c : ExcC K C) : TyW K H (.ref a) (.ref C)
section
variable {X : Cx} {pins : List (Addr × Obj)} {σ : L2.St} {H : Hp} {s : Shared}
theorem kitW_of {x : V} {u t : Value} (I : Inv X pins σ H s) (rx : RelV x u) (ty : TyW X.K H x t) : ∃ P : Heap → Prop, PySem.W.KitX X.K u t P ∧ P s.heap ∧ u ≠ .builtin "__main__.__loader__#opaque" := by
  cases ty with
  | base h => exact kit_of I rx h
  | @exc a C d e k c =>
    cases (show u = Value.ref a from rx)
    refine ⟨_, PySem.W.sw_kitx c, ?_, fun z => nomatch z⟩
    obtain ⟨o, vs, h1, h2, h3, h4⟩ := (I.hok a _ e).1
    rcases k with rfl | ⟨da, fs, rfl, e2⟩
    · exact ⟨o, none, h1, h2, by unfold PySem.W.notCls; rw [h4] <;> rfl, by rw [h3] <;> trivial⟩
    · obtain ⟨mA, hns, hr⟩ := (show ObjOk X.prog X.w H s.heap da (.xd fs) from I.hok da _ e2)
      obtain ⟨od, es, ep, ho, _⟩ := hns
      exact ⟨o, some od, h1, h2, by unfold PySem.W.notCls; rw [h4] <;> rfl, by rw [h3]; exact ho⟩
end
def rIsiW (K : PySem.W.Frag) : List V → Hp → VK → Prop := fun xs H Q =>
  (∃ (x c : V) (t u : Value) (b : Bool), xs = [x, c] ∧ ClsV c u ∧ TyW K H x t ∧ PySem.W.kitOne K t u = some b ∧ Q (.bl b) H) ∨
  ∃ (x : V) (tp : Addr) (cs : List V) (t : Value) (us : List Value) (b : Bool), xs = [x, .ref tp] ∧ SqT K H tp cs ∧ Paired ClsV cs us ∧ TyW K H x t ∧ PySem.W.kitAny K t us = some b ∧ Q (.bl b) H
theorem cr_isiW {X : Cx} : CallR X (.builtin "isinstance") (rIsiW X.K) := by
  intro pins s σ H xs us Q I r h
  rcases h with ⟨x, c, t, u, b, rfl, k, ty, e, q⟩ | ⟨x, tp, cs, t, ws, b, rfl, hT, k, ty, e, q⟩
  · obtain ⟨u1, u2, rfl, r1, r2⟩ := vals2 r
    have e2 := k.eq r2
    subst e2
    obtain ⟨P, Z, p, hx⟩ := kitW_of I r1 ty
    exact PySem.W.kia_one Z I.kIn p e hx fun tk => ⟨.bl b, H, I.tok tk, rfl, q⟩
  · obtain ⟨u1, u2, rfl, r1, r2⟩ := vals2 r
    cases (show u2 = Value.ref tp from r2)
    obtain ⟨P, Z, p, hx⟩ := kitW_of I r1 ty
    obtain ⟨its, rv, ⟨o, h1, h2, n, h3⟩, _⟩ := I.tuple hT
    have e3 := ClsV.all k rv
    subst e3
    obtain ⟨oc, od, dt, sl⟩ := o
    simp only at h2 h3
    subst h2 h3
    exact PySem.W.kia_tup Z I.kIn p h1 e hx fun tk => ⟨.bl b, H, I.tok tk, rfl, q⟩

/-! ### the plain side -/
/-- a type: a built-in one, an own class -/
inductive Tg where
  | b (n : String) | c (C : Str)
def tgOf (xc : Str → Bool) (st : Sto) : W → Option Tg
  | .non => some (.b "NoneType")
  | .bl _ => some (.b "bool")
  | .int _ => some (.b "int")
  | .str _ => some (.b "str")
  | .tup _ => some (.b "tuple")
  | .rol _ => some (.b "list")
  | .ref n => match st[n]? with
    | some (.lst _) => some (.b "list")
    | some (.dct _) => some (.b "dict")
    | some (.exc C _) => if xc C = true then some (.c C) else none
    | _ => none
  | _ => none
def tgT : W → Option Tg
  | .ty n => some (.b n)
  | .gl x => some (.c x)
  | _ => none
inductive TgV (G : Gx) : Tg → Value → Prop where
  | b (n : String) : TgV G (.b n) (.type n)
  | c {C : Str} {a : Addr} (h : G.mg C = some (.ref a)) : TgV G (.c C) (.ref a)
structure Isi (G : Gx) (tab : Tg → Tg → Option Bool) (xc : Str → Bool) : Prop where
  one : ∀ t c b, tab t c = some b → ∀ tv cv, TgV G t tv → TgV G c cv → PySem.W.kitOne G.K tv cv = some b
  exc : ∀ C, xc C = true → ∀ Ca, G.mg C = some (.ref Ca) → ExcC G.K Ca
def anyTab (tab : Tg → Tg → Option Bool) (t : Tg) : List W → Option Bool
  | [] => some false
  | c :: r => match tgT c with
    | none => none
    | some cc => match tab t cc with
      | some true => some true
      | some false => anyTab tab t r
      | none => none
def wIsi (tab : Tg → Tg → Option Bool) (xc : Str → Bool) : List W → Sto → An W
  | [x, .tup l], st => if l.all (fun c => (tgT c).isSome) = true then (match tgOf xc st x with
    | some t => (match anyTab tab t l with
      | some b => .ok (.bl b) st
      | none => .bad)
    | none => .bad) else .bad
  | [x, c], st => match tgOf xc st x, tgT c with
    | some t, some cc => (match tab t cc with
      | some b => .ok (.bl b) st
      | none => .bad)
    | _, _ => .bad
  | _, _ => .bad
theorem tgT_rep {G : Gx} {r : List Addr} {H : Hp} {c : W} {v : V} {t : Tg} (h : Rep G r H c v) (e : tgT c = some t) : ∃ u, ClsV v u ∧ TgV G t u := by
  cases h with
  | ty n => cases e; exact ⟨_, .ty n, .b n⟩
  | gl q => cases e; exact ⟨_, .own _, .c q⟩
  | _ => cases e
theorem tgOf_rep {G : Gx} {tab : Tg → Tg → Option Bool} {xc : Str → Bool} (T : Isi G tab xc) {r : List Addr} {H : Hp} {st : Sto} {x : W} {v : V} {t : Tg} (sm : Sim G r H st) (h : Rep G r H x v) (e : tgOf xc st x = some t) : ∃ u, TyW G.K H v u ∧ TgV G t u := by
  cases h with
  | non => cases e; exact ⟨_, .base (.base .non), .b _⟩
  | bl b => cases e; exact ⟨_, .base (.base (.bl b)), .b _⟩
  | int b => cases e; exact ⟨_, .base (.base (.int b)), .b _⟩
  | str b => cases e; exact ⟨_, .base (.base (.str b)), .b _⟩
  | ty b => cases e
  | gl b => cases e
  | tup q k =>
    cases e
    rcases q with (q | ⟨o, q⟩) | ⟨o, its, n, q, c, _⟩
    · exact ⟨_, .base (.base (.tup q)), .b _⟩
    · exact ⟨_, .base (.fTuple q), .b _⟩
    · exact ⟨_, .base (.kTuple q c), .b _⟩
  | rol q k =>
    cases e
    rcases q with ⟨o, q⟩ | ⟨o, its, n, q, c, _⟩
    · exact ⟨_, .base (.base (.frz q)), .b _⟩
    · exact ⟨_, .base (.kList q c), .b _⟩
  | ref q =>
    simp only [tgOf] at e
    split at e
    · rename_i l hl
      cases e
      obtain ⟨vs, e2, _⟩ := sm.got hl q
      exact ⟨_, .base (.base (.lst e2)), .b _⟩
    · rename_i l hl
      cases e
      obtain ⟨vs, e2, _⟩ := sm.got hl q
      exact ⟨_, .base (.base (.dK e2)), .b _⟩
    · rename_i C fs hl
      split at e
      · rename_i hx
        cases e
        obtain ⟨Ca, d, m, e2, k⟩ := sm.got hl q
        refine ⟨_, .exc e2 ?_ (T.exc C hx Ca m), .c m⟩
        rcases k with ⟨_, k⟩ | ⟨da, vs, k1, k2, _⟩
        · exact .inl k
        · exact .inr ⟨da, vs, k1, k2⟩
      · cases e
    · cases e
theorem anyTab_ok {G : Gx} {tab : Tg → Tg → Option Bool} {xc : Str → Bool} (T : Isi G tab xc) {t : Tg} {tv : Value} (ht : TgV G t tv) {us : List Value} : ∀ {l : List W} {b : Bool}, anyTab tab t l = some b → Paired (fun c u => ∀ cc, tgT c = some cc → TgV G cc u) l us → PySem.W.kitAny G.K tv us = some b
  | [], b, e, .nil => by cases e; rfl
  | c :: r, b, e, .cons h k => by
    simp only [anyTab] at e
    split at e
    · cases e
    · rename_i cc hc
      split at e
      · rename_i hb
        cases e
        exact kitAny_cons (T.one _ _ _ hb _ _ ht (h _ hc)) (fun z => nomatch z) (fun _ => rfl)
      · rename_i hb
        exact kitAny_cons (T.one _ _ _ hb _ _ ht (h _ hc)) (fun _ => anyTab_ok T ht e k) (fun z => nomatch z)
      · cases e
theorem tgTs_rep {G : Gx} {r : List Addr} {H : Hp} : ∀ {l : List W} {vs : List V}, RepL G r H l vs → l.all (fun c => (tgT c).isSome) = true → ∃ us, Paired ClsV vs us ∧ Paired (fun c u => ∀ cc, tgT c = some cc → TgV G cc u) l us
  | _, _, .nil, _ => ⟨[], .nil, .nil⟩
  | _, _, .cons h k, e => by
    rw [List.all_cons, Bool.and_eq_true] at e
    obtain ⟨t, ht⟩ := Option.isSome_iff_exists.mp e.1
    obtain ⟨u, a, b⟩ := tgT_rep h ht
    obtain ⟨us, c, d⟩ := tgTs_rep k e.2
    exact ⟨u :: us, .cons a c, .cons (fun cc hc => by rw [ht] at hc; cases hc; exact b) d⟩
theorem rf_isi {G : Gx} {tab : Tg → Tg → Option Bool} {xc : Str → Bool} (T : Isi G tab xc) : CaRf G (rIsiW G.K) (wIsi tab xc) := by
  intro ws st l H vs Q Wx s sm rx p
  cases rx with
  | nil => exact p.elim
  | @cons w1 v1 _ _ h k =>
    cases k with
    | nil => exact absurd p (by unfold wIsi; exact id)
    | @cons w2 v2 _ _ h2 k2 =>
      cases k2 with
      | @cons w3 v3 ws3 _ _ _ =>
        have e0 : wIsi tab xc (w1 :: w2 :: w3 :: ws3) st = .bad := by unfold wIsi; cases w2 <;> rfl
        rw [e0] at p
        exact p.elim
      | nil =>
        by_cases ht : ∃ l, w2 = .tup l
        · obtain ⟨cs, rfl⟩ := ht
          simp only [wIsi] at p
          split at p
          · rename_i hall
            split at p
            · rename_i t e1
              split at p
              · rename_i b e2
                cases h2 with
                | tup q kk =>
                  obtain ⟨us, a, b'⟩ := tgTs_rep kk hall
                  obtain ⟨tv, ty, tg⟩ := tgOf_rep T sm h e1
                  exact .inr ⟨_, _, _, tv, us, b, rfl, q, a, ty, anyTab_ok T tg e2 b', Po.ok p sm _ (.bl b)⟩
              · exact p.elim
            · exact p.elim
          · exact p.elim
        · have e0 : wIsi tab xc [w1, w2] st = (match tgOf xc st w1, tgT w2 with
            | some t, some cc => (match tab t cc with
              | some b => .ok (.bl b) st
              | none => .bad)
            | _, _ => .bad) := by
            unfold wIsi
            cases w2 with
            | tup l => exact absurd ⟨l, rfl⟩ ht
            | _ => rfl
          rw [e0] at p
          split at p
          · rename_i t cc e1 e2
            split at p
            · rename_i b e3
              obtain ⟨tv, ty, tg⟩ := tgOf_rep T sm h e1
              obtain ⟨u, a, b'⟩ := tgT_rep h2 e2
              exact .inl ⟨_, _, tv, u, b, rfl, a, ty, T.one _ _ _ e3 _ _ tg b', Po.ok p sm _ (.bl b)⟩
            · exact p.elim
          · exact p.elim
end Sw
/-! SwX: exceptions as values; classes with fields; try. -/
namespace Sw
open PySem PySem.Spec PyProof.Rows L2
/-- what is new beside all else -/
theorem Sim.more {G : Gx} {r : List Addr} {H H' : Hp} {st : Sto} (s : Sim G r H st) (k : ∀ c u, H c = some u → H' c = some u) : Sim G r H' st := by
  have g : Grow r H r H' := Grow.same fun a => ⟨fun xs e => k _ _ e, fun o u e => k _ _ e⟩
  exact ⟨s.len, s.nd, fun n ob a e1 e2 => (s.ob n ob a e1 e2).keep g fun c u _ e => k c u e⟩
theorem Grow.more {r : List Addr} {H H' : Hp} (k : ∀ c u, H c = some u → H' c = some u) : Grow r H r H' := Grow.same fun a => ⟨fun xs e => k _ _ e, fun o u e => k _ _ e⟩
theorem Stay.more {H H' : Hp} (k : ∀ c u, H c = some u → H' c = some u) : Stay H H' := fun a => ⟨fun xs e => k _ _ e, fun o u e => k _ _ e⟩
theorem excAt_ok {P : Program} {w : World} {H : Hp} {h : Heap} {a : Addr} {cls : Value} {d : Option Addr} {oe : Obj} {vs : Array Value} (e : h.get? a = some oe) (z : Zc cls d oe) (q : oe.data = .fields vs) : ObjOk P w H h a (.ext (excAt cls d a)) :=
  ⟨⟨oe, vs, e, z.1, z.2, q⟩, ⟨oe, e⟩, fun _ _ ⟨o, v, p, r⟩ k => ⟨o, v, k o p, r⟩⟩
section
variable {X : Cx} {Wx : WX} {pos p : Pos} {x : Str} {e : Expr} {es : List Expr} {fa : FE} {C : Addr}
/-! ### C(e) -/
theorem pe_excA {bmB : List Value} {B newId initId : String} {ta : TE} (F : ExcBaseFacts B newId initId bmB) (q : PySem.W.excIn X.K C bmB newId = true) (gC : X.mg x = some (.ref C)) (kC : PySem.W.keepIn X.K (.ref C) = true) (hg : Gl X x)
    (he : PE X e ta) (hs : starEach [e] X.env = (false, eval e X.env) :: starEach [] X.env := by rfl) (hdb : (x == ("__debug__" : Str)) = false := by decide) :
    PE X (.Call (.Name x p) [e] [] pos) (fun σ H Q => ta σ H fun _ H1 => ∀ a, H1 a = none → Q (.ref a) (upd H1 a (.ext (excAt (.ref C) none a)))) := by
  refine ⟨fun pins s σ H Q I h => ?_⟩
  refine wpAny_Call_Name_kw (ld_glob I hg gC ?_ hdb)
  refine PySem.W.callWith_K (h₀ := X.base) I.ok.mod.kin kC ?_ hs (by rfl)
  rw [hs]
  show wpAny _ _ (spliced ((false, eval e X.env) :: backTo pos (starEach [] X.env))) _ _ s
  refine Calls.spliced_cons (thn (he.run pins s σ H _ I h) fun u s1 ⟨v, H1, I1, r1, q1⟩ => ?_)
  refine Calls.spliced_nil ⟨I1.kIn, ?_⟩
  show wpAny _ _ (call (.ref C) [u]) _ _ _
  obtain ⟨bm, N, nm, qn, bs, hdct, sn, sub, ab, col, dd, k0, k1, k2, k3, k5, mN, hC, hN, hni, T⟩ := exc_obj I1.kIn q
  refine wpAny_call_exc_subT F T hC hN hni (fun h' a hm => ?_) (by show 1 ≤ sizeLine; rw [sizeLine_eq]; omega)
  have hn : H1 a = none := I1.hok.gone hm.new
  obtain ⟨t, ht, _, _⟩ := hm.there
  exact ⟨.ref a, upd H1 a (.ext (excAt (.ref C) none a)), I1.laidN hm.keeps hm.new hn (excAt_ok ht ⟨rfl, rfl⟩ rfl), rfl, q1 a hn⟩
def fMk (C : Str) (f : FE) : FE := fun env st => (f env st).bind fun _ st1 => .ok (.ref st1.length) (st1 ++ [.exc C []])
theorem e_mk (xc : XCls X.K X.mg x C) (he : PE X e (tE (gx X) Wx fa)) (hg : Gl X x := by rfl) (hs : starEach [e] X.env = (false, eval e X.env) :: starEach [] X.env := by rfl) (hdb : (x == ("__debug__" : Str)) = false := by decide) : PE X (.Call (.Name x p) [e] [] pos) (tE (gx X) Wx (fMk x fa)) :=
  (pe_excA PySem.F.excBase_ValueError xc.ex xc.gC xc.kp hg he hs hdb).imp fun s H Q h => by
    obtain ⟨env, l, st, en, sm, p⟩ := h
    refine ⟨env, l, st, en, sm, (Po.bind p).imp fun w l1 H1 g1 ⟨st1, sm1, _, p1⟩ vx rx a ha => ?_⟩
    have sy : Stay H1 (upd H1 a (.ext (excAt (.ref C) none a))) := Stay.new ha
    refine p1 (l1 ++ [a]) _ (Grow.one sy) (sm1.newU ha ⟨C, none, xc.gC, upd_same, .inl ⟨rfl, rfl⟩⟩) _ (.ref ?_)
    rw [List.getElem?_append_right (by rw [sm1.len]; exact Nat.le_refl _), sm1.len]
    simp

/-! ### a class whose __init__ calls the base's and keeps one field -/
/-- what its __init__ promises -/
def spXi (f : Str) (C : Addr) : Sp := fun vs H Q E => ∃ a v, vs = [.ref a, v] ∧ H a = some (exo a C none) ∧ ∀ dx, H dx = none → dx ≠ a → Q .non (upd (upd H dx (exd dx [(f, v)])) a (exo a C (some dx)))
/-- B.__init__(e, ..), B an own class over ValueError -/
theorem pe_winit {B : Addr} {y : Str} {ta : TA} {p1 p2 : Pos} {pl : Sem Bool} (hg : Gl X y) (hm : X.mg y = some (.ref B)) (r : ClX.CRead X.K B (.type "type")) (k : PySem.W.findCls X.K (.ref B) (.type "type") "__init__" = some (.val (.builtin "ValueError.__init__"))) (ha : PA X (e :: es) ta)
    (hdb : (y == ("__debug__" : Str)) = false := by decide)
    (hc : eval (.Call (.Attribute (.Name y p1) "__init__" p2) (e :: es) [] pos) X.env = (do
      let ov ← eval (.Name y p1) X.env
      standAt p2.atName
      let (f, first) ← holding [ov] (getMethod ov "__init__" pl)
      callWith pos f first (backTo pos (starEach (e :: es) X.env)) (backToKw pos (keywordEach [] X.env))) := by rfl)
    (he : starEach (e :: es) X.env = (false, eval e X.env) :: starEach es X.env := by rfl) (hpl : (backTo pos (starEach es X.env)).any (·.1) = false := by rfl) :
    PE X (.Call (.Attribute (.Name y p1) "__init__" p2) (e :: es) [] pos) (tVeI X.K ta) := by
  refine ⟨fun pins s σ H Q I h => ?_⟩
  refine PySem.W.methodCall_KW (ld_glob I hg hm ?_ hdb) hc
  refine PySem.W.method_cls I.kIn r.ga (PySem.W.cls_value I.kIn r.rd k rfl ?_)
  show wpAny _ _ (callWith pos (Value.builtin "ValueError.__init__") [] (backTo pos (starEach (e :: es) X.env)) []) _ _ _
  refine PyProof.Rows.callWith_method1 (thn (ha.run pos pins _ σ H _ (I.tok _) h) fun us s1 ⟨vs, H1, I1, r1, a, C, ws, ev, hl, T, ea, q⟩ => ?_) he hpl
  subst ev
  cases r1 with
  | @cons _ u0 _ ur ra rw' =>
    obtain rfl : u0 = Value.ref a := ra
    have hlen : ur.length ≤ sizeLine := by
      rw [← Paired.length rw', sizeLine_eq]
      omega
    exact oinit_ok T I1 ea hlen fun s' J => ⟨.non, H1, J, rfl, q⟩
/-- what the written part says of such a class -/
structure XdCls (K : PySem.W.Frag) (mg : Str → Option Value) (base : Heap) (P : Program) (w : World) (x f : Str) (C fI : Addr) (fd : FuncData) (ps : List Str) (k : Nat) : Prop where
  gC : mg x = some (.ref C)
  ox : OexC K C
  iC : PySem.W.findIn K (.ref C) "__init__" = some (some (.ref fI))
  tI : PySem.W.typeIn K (.ref fI) = some (.type "function")
  fn : FnOk P w K mg base (L2.CX P w) k fI fd ps (spXi f C)
  bI : Binds K fd ps []
/-- C(e, ..) as a value -/
theorem pe_oexV {fI : Addr} {k : Nat} {fd : FuncData} {ps : List Str} {sp : Sp} {ta : TA} (T : OexC X.K C) (iC : PySem.W.findIn X.K (.ref C) "__init__" = some (some (.ref fI))) (tI : PySem.W.typeIn X.K (.ref fI) = some (.type "function"))
    (F1 : FnOk X.prog X.w X.K X.mg X.base (L2.CX X.prog X.w) k fI fd ps sp) (hr : Room (k + 1) X.A) (hb : Binds X.K fd ps []) (hx : Passes (L2.CX X.prog X.w) X (fun _ _ _ => False)) (hg : Gl X x) (hm : X.mg x = some (.ref C)) (ha : PA X (e :: es) ta)
    (hdb : (x == ("__debug__" : Str)) = false := by decide) (he : starEach (e :: es) X.env = (false, eval e X.env) :: starEach es X.env := by rfl) (hpl : (backTo pos (starEach es X.env)).any (·.1) = false := by rfl) :
    PE X (.Call (.Name x p) (e :: es) [] pos) (fun σ H Q => ta σ H fun vs H1 => vs.length ≤ 1000 ∧ ∀ a, H1 a = none → sp (.ref a :: vs) (upd H1 a (exo a C none))
  (fun v H2 => v = .non ∧ ∃ (d : Addr) (fs : List (Str × V)), H2 a = some (exo a C (some d)) ∧ H2 d = some (exd d fs) ∧ H1 d = none ∧ Q (.ref a) (upd (upd (del H2 a) d (.xd fs)) a (.ext (excAt (.ref C) (some d) a)))) (fun _ _ _ => False)) := by
  refine ⟨fun pins s σ H Q I h => ?_⟩
  obtain ⟨nm, q, N, bs, bm, sn, sub, ab, col, dd, k0, k1, k2, k3, k5, hC, hbm⟩ := T.cls
  refine wpAny_Call_Name_kw (ld_glob I hg hm ?_ hdb)
  refine PySem.W.callWith_K (h₀ := X.base) I.ok.mod.kin T.kC (thn (ha.run pos pins s σ H _ I h) fun us s1 ⟨vs, H1, I1, r1, hz, q1⟩ => ⟨I1.kIn, ?_⟩) he hpl
  show wpAny _ _ (call (.ref C) us) _ _ _
  obtain ⟨hp, g, dr, tk, os⟩ := s1
  have hsz : hp.objs.size ≤ hp.objs.size + 1 := Nat.le_succ _
  have hn : H1 (hp.objs.size + 1) = none := I1.hok.fresh hsz
  have hq := q1 (hp.objs.size + 1) hn
  have kk : ∀ b o, hp.get? b = some o → ((hp.push (PySem.W.kdv_tup us)).push (PySem.HandSPX.excO C hp.objs.size)).get? b = some o := fun b o e => Heap.get?_push_of_some _ (Heap.get?_push_of_some _ e)
  have hget : ((hp.push (PySem.W.kdv_tup us)).push (PySem.HandSPX.excO C hp.objs.size)).get? (hp.objs.size + 1) = some (PySem.HandSPX.excO C hp.objs.size) := by heap_get
  have I2 : Inv X pins σ (upd H1 (hp.objs.size + 1) (exo (hp.objs.size + 1) C none)) ⟨(hp.push (PySem.W.kdv_tup us)).push (PySem.HandSPX.excO C hp.objs.size), g, dr, tk, os⟩ :=
    I1.laid (t' := tk) (a := hp.objs.size + 1) (o := exo (hp.objs.size + 1) C none) (h' := (hp.push (PySem.W.kdv_tup us)).push (PySem.HandSPX.excO C hp.objs.size)) kk hsz (exo_ok hget)
  have r2 : Vals (V.ref (hp.objs.size + 1) :: vs) (Value.ref (hp.objs.size + 1) :: us) := .cons rfl r1
  have hl : (Value.ref (hp.objs.size + 1) :: us ++ ([] : List Value)).length = ps.length := by
    have e := r2.length
    rw [F1.len _ _ _ _ hq] at e
    rw [List.append_nil]
    exact e.symm
  have hus : us.length ≤ sizeLine := by
    rw [← Paired.length r1, sizeLine_eq]
    omega
  refine wpAny_call (PySem.HandSPX.call_own F.excBase_ValueError (fun Y => PySem.HandSPX.refsVE_contains Y bm hbm) (I1.kIn _ _ hC) (PySem.W.looks_findIn I1.kIn iC) (fun self => PySem.W.bind_fn I1.kIn self tI) hus
    (codeAny_mono (F1.run _ X.stack _ _ ⟨Value.ref (hp.objs.size + 1) :: us, []⟩ (Value.ref (hp.objs.size + 1) :: us) _ _ (fun _ _ _ => False) (hr.make C us []) (I2.env0.make C us []) (by simpa using hb _ (Value.ref (hp.objs.size + 1) :: us) I2.kIn hl) r2 hq) fun r s' hq' => ?_))
  cases r with
  | error er => exact hx pins σ _ _ er s' I2 hq'
  | ok fl =>
    cases fl with
    | ret u =>
      obtain ⟨v, H2, os2, bare2, un2, hok2, rv, ev, d, fs, ea, ed, hd1, q2⟩ := hq'
      subst ev
      obtain ⟨h2, g2, d2, t2, os'⟩ := s'
      obtain ⟨t0, G, J, kG, ge, hoe, na⟩ := mk_end0 (d2 := d2) (t2 := t2) I1 hsz kk un2 hok2 os2 bare2 ea ed hd1
      exact ⟨rv, ⟨.ref _, _, J.laidN (t' := t2) kG ge na (excAt_ok hoe ⟨rfl, rfl⟩ rfl), rfl, q2⟩⟩
    | next => exact False.elim hq'
    | brk => exact False.elim hq'
    | cont => exact False.elim hq'
def fMkD (C f : Str) (g : FE) : FE := fun env st => (g env st).bind fun w st1 => .ok (.ref st1.length) (st1 ++ [.exc C [(f, w)]])
/-- one argument -/
theorem xi_heap {H1 : Hp} {a dx : Addr} {v : V} {f : Str} (ha : H1 a = none) (hd : upd H1 a (exo a C none) dx = none) (hne : dx ≠ a) :
    (upd (upd (upd H1 a (exo a C none)) dx (exd dx [(f, v)])) a (exo a C (some dx))) a = some (exo a C (some dx)) ∧ (upd (upd (upd H1 a (exo a C none)) dx (exd dx [(f, v)])) a (exo a C (some dx))) dx = some (exd dx [(f, v)]) ∧ H1 dx = none := by
  refine ⟨upd_same, by rw [upd_ne hne, upd_same], ?_⟩
  rw [upd_ne hne] at hd
  exact hd
theorem xi_keep {H1 : Hp} {a dx : Addr} {v : V} {f : Str} (ha : H1 a = none) (hd : H1 dx = none) : ∀ c u, H1 c = some u → (upd (del (upd (upd (upd H1 a (exo a C none)) dx (exd dx [(f, v)])) a (exo a C (some dx))) a) dx (.xd [(f, v)])) c = some u := fun c u e => by
  rw [upd_ne (ne_of_none e hd), del_ne (ne_of_none e ha), upd_ne (ne_of_none e ha), upd_ne (ne_of_none e hd), upd_ne (ne_of_none e ha)]
  exact e
theorem e_mkD {fI : Addr} {k : Nat} {fd : FuncData} {ps : List Str} {f : Str} (xc : XdCls X.K X.mg X.base X.prog X.w x f C fI fd ps k) (hr : Room (k + 1) X.A) (he : PE X e (tE (gx X) Wx fa)) (hx : Passes (L2.CX X.prog X.w) X (fun _ _ _ => False)) (hg : Gl X x := by rfl) (hdb : (x == ("__debug__" : Str)) = false := by decide)
    (h1 : starEach [e] X.env = (false, eval e X.env) :: starEach [] X.env := by rfl) : PE X (.Call (.Name x p) [e] [] pos) (tE (gx X) Wx (fMkD x f fa)) :=
  (pe_oexV xc.ox xc.iC xc.tI xc.fn hr xc.bI hx hg xc.gC (pa_cons he pa_nil h1) hdb h1).imp fun s H Q h => by
    obtain ⟨env, l, st, en, sm, p⟩ := h
    refine ⟨env, l, st, en, sm, (Po.bind p).imp fun w l1 H1 g1 ⟨st1, sm1, _, p1⟩ v rx => ⟨by simp, fun a ha => ⟨a, v, rfl, upd_same, fun dx hd hne => ?_⟩⟩⟩
    obtain ⟨e1, e2, e3⟩ := xi_heap (C := C) (v := v) (f := f) ha hd hne
    refine ⟨rfl, dx, _, e1, e2, e3, ?_⟩
    have kp := xi_keep (C := C) (v := v) (f := f) ha e3
    have kp2 : ∀ c u, H1 c = some u → upd (upd (del (upd (upd (upd H1 a (exo a C none)) dx (exd dx [(f, v)])) a (exo a C (some dx))) a) dx (.xd [(f, v)])) a (.ext (excAt (.ref C) (some dx) a)) c = some u := fun c u q => by
      rw [upd_ne (ne_of_none q ha)]
      exact kp c u q
    have sy := Stay.more kp2
    have gr := Grow.one (r := l1) (a := a) sy
    refine p1 (l1 ++ [a]) _ gr (sm1.new ha kp2 ⟨C, some dx, xc.gC, upd_same, .inr ⟨dx, _, rfl, by rw [upd_ne hne, upd_same], .cons (rx.grow gr) .nil⟩⟩ sy) _ (.ref ?_)
    rw [List.getElem?_append_right (by rw [sm1.len]; exact Nat.le_refl _), sm1.len]
    simp
/-- raise C(e) -/
def fRaiseD (C f : Str) (g : FE) : FS := fun env st => (g env st).toS env fun w st1 => .ex C [(f, w)] env st1
theorem s_raiseD {fI : Addr} {k : Nat} {fd : FuncData} {ps : List Str} {f : Str} {p3 : Pos} (xc : XdCls X.K X.mg X.base X.prog X.w x f C fI fd ps k) (hr : Room (k + 1) X.A) (tk : Takes X Wx) (he : PE X e (tE (gx X) Wx fa)) (hx : Passes (L2.CX X.prog X.w) X (fun _ _ _ => False)) (hg : Gl X x := by rfl) (hc : X.calm = true := by rfl) (hdb : (x == ("__debug__" : Str)) = false := by decide)
    (h1 : starEach [e] X.env = (false, eval e X.env) :: starEach [] X.env := by rfl) : PS X (.Raise (some (.Call (.Name x p) [e] [] p3)) none pos) (tS (gx X) Wx (fRaiseD x f fa)) :=
  (ps_raise hc tk (pmk_oex xc.ox xc.iC xc.tI xc.fn hr xc.bI .nil hx hg xc.gC (pa_cons he pa_nil h1) hdb h1)).imp fun D s H h => by
    obtain ⟨env, l, st, en, sm, p⟩ := h
    refine ⟨env, l, st, en, sm, (SPo.toS en p).imp fun w l1 H1 g1 ⟨st1, sm1, _, p1⟩ v rx => ⟨by simp, fun a ha => ⟨a, v, rfl, upd_same, fun dx hd hne => ?_⟩⟩⟩
    obtain ⟨e1, e2, e3⟩ := xi_heap (C := C) (v := v) (f := f) ha hd hne
    refine ⟨rfl, dx, _, e1, e2, e3, ?_⟩
    have kp := xi_keep (C := C) (v := v) (f := f) ha e3
    exact p1 l1 _ s (.ref C) (some dx) (Grow.more kp) (sm1.more kp) ((en.grow g1).grow (Grow.more kp)) ⟨C, rfl, xc.gC, .inr ⟨dx, _, rfl, upd_same, .cons (rx.grow (Grow.more kp)) .nil⟩⟩

/-! ### e.f, e an exception object -/
/-- the classes of exceptions whose field f may be asked -/
def Xfs (G : Gx) (f : Str) (xa : Str → Bool) : Prop := ∀ C, xa C = true → ∀ Ca, G.mg C = some (.ref Ca) → XfC G.K Ca ∧ PySem.W.findIn G.K (.ref Ca) f = some none
theorem pe_xfV {te : TE} {n : Str} (he : PE X e te) (hb : attributeBase e n X.env (eval e X.env) = eval e X.env := by rfl) :
    PE X (.Attribute e n pos) (fun σ H Q => te σ H fun x H1 => ∃ (a C dd : Addr) (fs : List (Str × V)) (v : V), x = .ref a ∧ H1 a = some (.ext (excAt (.ref C) (some dd) a)) ∧ XfC X.K C ∧ PySem.W.findIn X.K (.ref C) n = some none ∧ H1 dd = some (.xd fs) ∧ fs.lookup n = some v ∧ Q v H1) := by
  refine ⟨fun pins s σ H Q I h => ?_⟩
  refine attr_of hb (thn (he.run pins s σ H _ I h) fun u s1 hh => ?_)
  obtain ⟨x, H1, I1, rx, a, C, dd, fs, v, ex, e1, T, hno, e2, l, q⟩ := hh
  subst ex
  obtain rfl : u = Value.ref a := rx
  obtain ⟨o, vs, ha, hz1, hz2, hd⟩ := (I1.hok a _ e1).1
  have hx : ObjOk X.prog X.w H1 s1.heap dd (.xd fs) := I1.hok dd _ e2
  obtain ⟨mA, hns, hr⟩ := hx
  obtain ⟨od, ho, hl⟩ := lookIn_ns hns
  obtain ⟨u, hu, ru⟩ := RelO.some_of (v := v) (o := mA n) (by rw [← l]; exact hr n)
  have J : PySem.W.InstAt s1.heap a o C (some od) := ⟨ha, hz1, by unfold PySem.W.notCls; rw [hd] <;> rfl, by rw [hz2]; exact ho⟩
  exact HandSPX.exc_get I1.kIn J T.ga T.gg T.exC (PySem.W.findObj_own T.hdC hno rfl (by rw [hl, hu])) (handed_of ru) ⟨v, H1, I1.tok _, ru, q⟩
def fXf (xa : Str → Bool) (f : Str) (g : FE) : FE := fun env st => (g env st).bind fun w st1 => match w with
  | .ref n => (match st1[n]? with
    | some (.exc C fs) => if xa C = true then (match fs.lookup f with
      | some v => .ok v st1
      | none => .bad) else .bad
    | _ => .bad)
  | _ => .bad
theorem RepF.look {G : Gx} {r : List Addr} {H : Hp} {f : Str} {w : W} : ∀ {fs : Flds} {vs : List (Str × V)}, RepF G r H fs vs → fs.lookup f = some w → ∃ v, vs.lookup f = some v ∧ Rep G r H w v := by
  intro fs vs h
  induction h with
  | nil => intro e; cases e
  | @cons g w' v' fs vs h _ ih =>
    intro e
    rw [List.lookup_cons] at e ⊢
    split at e
    · rename_i hb
      cases e
      exact ⟨v', rfl, h⟩
    · rename_i hb
      exact ih e
theorem e_xf {n : Str} {xa : Str → Bool} (T : Xfs (gx X) n xa) (he : PE X e (tE (gx X) Wx fa)) (hb : attributeBase e n X.env (eval e X.env) = eval e X.env := by rfl) : PE X (.Attribute e n pos) (tE (gx X) Wx (fXf xa n fa)) := (pe_xfV he hb).imp fun s H Q h => by
  obtain ⟨env, l, st, en, sm, p⟩ := h
  refine ⟨env, l, st, en, sm, (Po.bind p).imp fun w l1 H1 g1 ⟨st1, sm1, _, p1⟩ v rx => ?_⟩
  cases rx with
  | @ref k a q =>
    dsimp only at p1
    split at p1
    · rename_i C fs e1
      split at p1
      · rename_i hx
        split at p1
        · rename_i w e2
          obtain ⟨Ca, d, m, e3, k⟩ := sm1.got e1 q
          rcases k with ⟨rfl, _⟩ | ⟨da, vs, rfl, e4, rf⟩
          · cases e2
          · obtain ⟨v, e5, rv⟩ := rf.look e2
            obtain ⟨t1, t2⟩ := T C hx Ca m
            exact ⟨a, Ca, da, vs, v, rfl, e3, t1, t2, e4, e5, Po.ok p1 sm1 v rv⟩
        · exact p1.elim
      · exact p1.elim
    · exact p1.elim
  | _ => exact p1.elim

/-! ### try: .. except B as n: return n.f -/
/-- what the clause takes -/
structure XTry (G : Gx) (B : Str) (tab : Str → Option Bool) : Prop where
  at_ : ∃ Ba, G.mg B = some (.ref Ba) ∧ ∀ C b, tab C = some b → ∀ Ca, G.mg C = some (.ref Ca) → PySem.W.exmOne G.K (.ref Ca) (.ref Ba) = some b
def fTryF (tab : Str → Option Bool) (xa : Str → Bool) (f : Str) (g : FS) : FS := fun env st => match g env st with
  | .ex C fs env1 st1 => (match tab C with
    | some true => if xa C = true then (match fs.lookup f with
      | some v => .rt v st1
      | none => .bad) else .bad
    | some false => .ex C fs env1 st1
    | none => .bad)
  | o => o
end
end Sw
/-! SwY: try .. except; __init__ of an exception class. -/
namespace Sw
open PySem PySem.Spec PyProof.Rows L2
/-- which classes a clause `except B` takes -/
def XTryOk (G : Gx) (B : Str) (tab : Str → Option Bool) : Prop := ∃ Ba, G.mg B = some (.ref Ba) ∧ ∀ C b, tab C = some b → ∀ Ca, G.mg C = some (.ref Ca) → PySem.W.exmOne G.K (.ref Ca) (.ref Ba) = some b
section
variable {X : Cx} {Wx : WX}
def fTryR (tab : Str → Option Bool) (i : Nat) (D f : Str) (g : FS) : FS := fun env st => match g env st with
  | .ex C fs env1 st1 => (match tab C with
    | some true => if C = D ∧ i < env1.length then (match fs.lookup f with
      | some v => .rt v st1
      | none => .bad) else .bad
    | some false => .ex C fs env1 st1
    | none => .bad)
  | o => o
theorem s_tryR {x n f D : Str} {i : Nat} {body : List Stmt} {np p1 p2 p3 pos pos' : Pos} {tab : Str → Option Bool} {g : FS} {xa : Str → Bool} (T : XTryOk (gx X) x tab) (TD : Xfs (gx X) f xa) (hD : xa D = true) (gD : ∃ Da, X.mg D = some (.ref Da)) (hs : X.stack = X.env :: X.outer) (hf : X.env.frame = some X.env.locals) (hN : X.N.Nodup) (tk : Takes X Wx)
    (hb : ∀ (W : WX) (pn : List (Addr × Obj)) (xe : Value → Shared → Prop), Takes (X.tr pn xe) W → PassesOwn (model X.prog X.w) X.A X.env xe → PSs (X.tr pn xe) body (tS (gx X) W g))
    (hi : X.N[i]? = some n := by rfl) (hln : X.env.kindOf n = some .local := by rfl) (hg : Gl X x := by rfl) (hdb : (x == ("__debug__" : Str)) = false := by decide)
    (hv : Vis X.env.scope n := by first | exact Or.inl rfl | exact Or.inr (Or.inl rfl) | exact Or.inr (Or.inr rfl)) (hd : (n == ("__debug__" : Str)) = false := by decide)
    (hcd : (n == ("__classdict__" : Str)) = false := by decide) (hat : attributeBase (.Name n p1) f X.env (eval (.Name n p1) X.env) = eval (.Name n p1) X.env := by rfl) :
    PS X (.Try body [.ExceptHandler (some (.Name x np)) (some n) [.Return (some (.Attribute (.Name n p1) f p2)) p3] pos'] [] [] pos) (tS (gx X) Wx (fTryR tab i D f g)) := by
  obtain ⟨Ba, hB, hT⟩ := T
  obtain ⟨Da, hDa⟩ := gD
  obtain ⟨xD, hno⟩ := TD D hD Da hDa
  refine (ps_try_as (c := .ref Ba) (i := i) hs hf hN hi hln ⟨hg, hdb, .inl hB⟩ tk hb (fun a oe cls d pn hz hfl => pss_one (ps_ret (pe_xf (X := X) xD hno hz hfl (pe_var hi hv hd hcd) hat)))).imp fun E s H h => ?_
  obtain ⟨env, l, st, en, sm, p⟩ := h
  refine ⟨env, l, st, en, sm, ?_⟩
  unfold fTryR at p
  cases e : g env st with
  | nx env1 st1 => rw [e] at p; exact p
  | rt w st1 => rw [e] at p; exact p
  | bk env1 st1 => rw [e] at p; exact p
  | ct env1 st1 => rw [e] at p; exact p
  | bad => rw [e] at p; exact p.elim
  | ex C fs env1 st1 =>
    rw [e] at p
    intro r' H' s' ca d gr sm' en' ex
    obtain ⟨Ca, rfl, m, k⟩ := ex
    dsimp only at p
    split at p
    · rename_i hb'
      split at p
      · rename_i hc
        obtain ⟨hc, hl⟩ := hc
        subst hc
        have m' : X.mg C = some (.ref Ca) := m
        rw [hDa] at m'
        cases m'
        split at p
        · rename_i v hv'
          refine ⟨true, hT _ _ hb' _ hDa, fun _ a ha => ?_, fun z => nomatch z⟩
          rcases k with ⟨rfl, _⟩ | ⟨da, vs, rfl, e4, rf⟩
          · cases hv'
          · obtain ⟨u, e5, rv⟩ := rf.look hv'
            refine ⟨.ref a, by rw [List.getElem?_set_self (by rw [en'.1]; exact hl)], rfl, rfl, da, vs, u, rfl, e4, e5, ?_⟩
            exact p r' H' u gr sm' rv
        · exact p.elim
      · exact p.elim
    · rename_i hb'
      exact ⟨false, hT _ _ hb' _ m, fun z => (nomatch z), fun _ => p r' H' s' _ d gr sm' en' ⟨Ca, rfl, m, k⟩⟩
    · exact p.elim
end
end Sw
/-! SwH: the head's facts by one check of one's own; the law's end. -/
namespace Sw
open PySem PySem.Spec PyProof.Rows L2
/-! ### the hook -/
def obsB (chk : PySem.W.Frag → Bool) (fn : List He.DefD) (K : PySem.W.Frag) : He.AlD := (chk K && fn.all fun d => d.ok K, fn.map fun d => He.fnW K d.at_)
def SaysB (chk : PySem.W.Frag → Bool) (fn : List He.DefD) (K : PySem.W.Frag) : Prop := obsB chk fn K = He.valD fn
/-- what the module's names and the statics reach in n steps -/
def asB (g : Addr → Option Obj) : Nat → List Addr
  | 0 => [mainGlobals, cStatics]
  | n + 1 => He.growD g (asB g n)
def obsBG (n : Nat) (chk : PySem.W.Frag → Bool) (fn : List He.DefD) (g : Addr → Option Obj) : He.AlD := obsB chk fn (He.frG g (asB g n))
def hookB (n : Nat) (chk : PySem.W.Frag → Bool) (fn : List He.DefD) : PySem.W.Hook where
  α := He.AlD
  obs := fun s => obsBG n chk fn s.heap.get?
  val := fun _ => He.valD fn
  says := fun _ h => ∃ K : PySem.W.Frag, K.In h ∧ SaysB chk fn K
  of := fun _ _ e => ⟨_, He.frG_in, e⟩
  keeps := fun _ _ _ ⟨K, hK, c⟩ k => ⟨K, PySem.W.Frag.In.keeps hK k, c⟩
theorem obsBG_eq {n : Nat} {chk : PySem.W.Frag → Bool} {fn : List He.DefD} {g : Addr → Option Obj} {s : Shared} (h : ∀ a, g a = s.heap.get? a) : obsBG n chk fn g = (hookB n chk fn).obs s := by
  have e : g = s.heap.get? := funext h
  rw [e] <;> rfl
section
variable {chk : PySem.W.Frag → Bool} {fn : List He.DefD} {K : PySem.W.Frag}
theorem SaysB.checked (c : SaysB chk fn K) : chk K = true := (He.ba (show (chk K && fn.all fun d => d.ok K) = true from congrArg (fun z : He.AlD => z.1) c)).1
theorem SaysB.def_ (c : SaysB chk fn K) (i : Nat) {d : He.DefD} (h : fn[i]? = some d := by rfl) : ∃ fd, FunD K d.name d.qual d.params d.body d.scope (d.dvs K) (d.kws K) (He.fAd K d.at_) fd := by
  have c2 := (He.ba (show (chk K && fn.all fun d => d.ok K) = true from congrArg (fun z : He.AlD => z.1) c)).2
  have e : fn.map (fun d => He.fnW K d.at_) = fn.map He.DefD.val := congrArg (fun z : He.AlD => z.2) c
  have e2 : (fn.map fun d => He.fnW K d.at_)[i]? = (fn.map He.DefD.val)[i]? := by rw [e]
  rw [List.getElem?_map, List.getElem?_map, h] at e2
  exact He.DefD.funD (Option.some.inj e2) (List.all_eq_true.mp c2 d (List.mem_of_getElem? h))
end
/-! ### facts -/
section
variable {K : PySem.W.Frag} {h : Heap} {mg : Str → Option Value}
def gloB (K : PySem.W.Frag) (xs : List Str) : Bool := xs.all fun x => He.eqO (PySem.W.nsIn K mainGlobals x) (some (some (.ref (He.ga K x))))
def freeB (K : PySem.W.Frag) (xs : List Str) : Bool := xs.all fun x => He.eqO (PySem.W.nsIn K mainGlobals x) (some none)
theorem gloB_ok (X : K.In h) (G : h.Ns mainGlobals mg) {xs : List Str} (c : gloB K xs = true) {x : Str} (hx : x ∈ xs) : mg x = some (.ref (He.ga K x)) := PySem.W.mg_of X G (He.eqO_ok (List.all_eq_true.mp c x hx))
theorem freeB_ok (X : K.In h) (G : h.Ns mainGlobals mg) {xs : List Str} (c : freeB K xs = true) {x : Str} (hx : x ∈ xs) : mg x = none := PySem.W.mg_none_of X G (He.eqO_ok (List.all_eq_true.mp c x hx))
/-- an exception class is asked rightly by isinstance -/
def excCB (K : PySem.W.Frag) (D : Addr) : Bool := decide (PySem.W.findIn K (.ref D) "__getattribute__" = some (some (.builtin "BaseException.__getattribute__"))) && (decide (PySem.W.findIn K (.ref D) "__getattr__" = some none) && (decide (PySem.W.subIn K (.ref D) (.type "BaseException") = some true) && (PySem.W.hasDictIn K D && (decide (PySem.W.findIn K (.ref D) "__class__" = some (some (.builtin "object.__class__"))) &&
  (decide (PySem.W.specialIn K (.builtin "object.__class__") "__get__" = some (some (.builtin "getset_descriptor.__get__"))) && (decide (PySem.W.takesIn K (.builtin "object.__class__") = some true) && decide (PySem.W.mroIn K D (.type "object") = some true)))))))
theorem excCB_ok {D : Addr} (c : excCB K D = true) : ExcC K D := by
  obtain ⟨c1, c⟩ := He.ba c
  obtain ⟨c2, c⟩ := He.ba c
  obtain ⟨c3, c⟩ := He.ba c
  obtain ⟨c4, c⟩ := He.ba c
  obtain ⟨c5, c⟩ := He.ba c
  obtain ⟨c6, c⟩ := He.ba c
  obtain ⟨c7, c8⟩ := He.ba c
  exact ⟨of_decide_eq_true c1, of_decide_eq_true c2, of_decide_eq_true c3, c4, of_decide_eq_true c5, of_decide_eq_true c6, of_decide_eq_true c7, of_decide_eq_true c8⟩
/-- an own exception class without __init__ -/
theorem xCls_ok {x : Str} (g : mg x = some (.ref (He.ga K x))) (c : (He.Fa.exc x).ok K = true) : XCls K mg x (He.ga K x) := by
  obtain ⟨a, b, d, e⟩ := He.exc_ok c
  exact ⟨g, a, b, d, e⟩
def oexB (K : PySem.W.Frag) (C : Addr) : Bool := (match K.lookup C with
  | some ⟨.type "type", _, .cls cd, sl⟩ => (match cd.mro, sl.toList with
    | .ref C' :: bm, [_, _, _, _, some (.builtin n), _] => C' == C && (decide (n = "ValueError.__new__") && (!cd.hasDel && (cd.hasDict && PySem.HandSPX.refsVE bm)))
    | _, _ => false)
  | _ => false) && (decide (PySem.W.findIn K (.ref C) "__setattr__" = some (some (.builtin "object.__setattr__"))) && (decide (PySem.W.subIn K (.ref C) (.type "BaseException") = some true) && (decide (PySem.W.typeIn K (.ref C) = some (.type "type")) && PySem.W.keepIn K (.ref C))))
theorem oexB_ok {C : Addr} (c : oexB K C = true) : OexC K C := by
  obtain ⟨c1, c⟩ := He.ba c
  obtain ⟨c2, c⟩ := He.ba c
  obtain ⟨c3, c⟩ := He.ba c
  obtain ⟨c4, c5⟩ := He.ba c
  refine ⟨?_, of_decide_eq_true c2, of_decide_eq_true c3, of_decide_eq_true c4, c5⟩
  split at c1
  · rename_i dd cd sl ho
    split at c1
    · rename_i C' bm k0 k1 k2 k3 n k5 hm hs
      simp only [Bool.and_eq_true, beq_iff_eq, Bool.not_eq_true', decide_eq_true_eq] at c1
      obtain ⟨rfl, rfl, hdel, hdi, hv⟩ := c1
      obtain ⟨nm, bs, mro, ns, qn, hd, sn, sub, ab, col, del⟩ := cd
      dsimp only at hm hdel hdi
      subst hm hdel hdi
      have hsl : sl = #[k0, k1, k2, k3, some (.builtin "ValueError.__new__"), k5] := by
        obtain ⟨l⟩ := sl
        simp only at hs
        rw [hs]
      subst hsl
      exact ⟨nm, qn, ns, bs, bm, sn, sub, ab, col, dd, k0, k1, k2, k3, k5, ho, hv⟩
    · cases c1
  · cases c1
/-- B.__init__ is the built-in one -/
def winitB (K : PySem.W.Frag) (B : Addr) : Bool := PySem.W.readsIn K B (.type "type") && (decide (PySem.W.specialIn K (.ref B) "__getattribute__" = some (some (.builtin "type.__getattribute__"))) && (match PySem.W.findCls K (.ref B) (.type "type") "__init__" with
  | some (.val (.builtin n)) => decide (n = "ValueError.__init__")
  | _ => false))
theorem winitB_ok {B : Addr} (c : winitB K B = true) : ClX.CRead K B (.type "type") ∧ PySem.W.findCls K (.ref B) (.type "type") "__init__" = some (.val (.builtin "ValueError.__init__")) := by
  obtain ⟨c1, c⟩ := He.ba c
  obtain ⟨c2, c3⟩ := He.ba c
  refine ⟨⟨c1, of_decide_eq_true c2⟩, ?_⟩
  split at c3
  · rename_i n e
    rw [e, of_decide_eq_true c3]
  · cases c3
def xfsB (K : PySem.W.Frag) (x f : Str) : Bool := xfB K (He.ga K x) && decide (PySem.W.findIn K (.ref (He.ga K x)) f = some none)
theorem xfsB_ok {x f : Str} (g : mg x = some (.ref (He.ga K x))) (c : xfsB K x f = true) : Xfs ⟨K, mg⟩ f (fun C => C == x) := by
  obtain ⟨c1, c2⟩ := He.ba c
  intro C hC Ca hm
  have e : C = x := eq_of_beq hC
  subst e
  have e2 : (some (Value.ref (He.ga K C))) = some (.ref Ca) := g.symm.trans hm
  cases e2
  exact ⟨xfB_ok c1, of_decide_eq_true c2⟩
/-- which built-in types are which -/
def bTs : List String := ["NoneType", "bool", "int", "str", "tuple", "list", "dict"]
def bIs (m n : String) : Bool := m == n || (m == "bool" && n == "int")
theorem bIs_ok : ∀ m ∈ bTs, ∀ n ∈ bTs, kitB m n = some (bIs m n) := by decide +kernel
/-- a class | a type -/
def xTab (cls : List Str) (base : Str) : Tg → Tg → Option Bool
  | .c C, .c D => if C ∈ cls ∧ D ∈ cls then some (decide (C = D) || decide (D = base)) else none
  | .c C, .b n => if C ∈ cls then (if n = "ValueError" then some true else if n ∈ bTs then some false else none) else none
  | .b n, .c D => if n ∈ bTs ∧ D ∈ cls then some false else none
  | .b m, .b n => if m ∈ bTs ∧ n ∈ bTs then some (bIs m n) else none
def kitT (K : PySem.W.Frag) (t c : Value) (b : Bool) : Bool := decide (PySem.W.kitOne K t c = some b)
def isiB (K : PySem.W.Frag) (cls : List Str) (base : Str) : Bool := (cls.all fun C => excCB K (He.ga K C) && (kitT K (.ref (He.ga K C)) (.type "ValueError") true && ((bTs.all fun n => kitT K (.ref (He.ga K C)) (.type n) false && kitT K (.type n) (.ref (He.ga K C)) false) && cls.all fun D => kitT K (.ref (He.ga K C)) (.ref (He.ga K D)) (decide (C = D) || decide (D = base)))))
theorem isiB_ok {cls : List Str} {base : Str} (g : ∀ x ∈ cls, mg x = some (.ref (He.ga K x))) (c : isiB K cls base = true) : Isi ⟨K, mg⟩ (xTab cls base) (fun C => decide (C ∈ cls)) := by
  have at_ : ∀ C ∈ cls, _ := fun C hC => List.all_eq_true.mp c C hC
  have cv : ∀ C ∈ cls, ∀ v, TgV ⟨K, mg⟩ (.c C) v → v = .ref (He.ga K C) := fun C hC v h => by
    cases h with
    | c h =>
      have e := (g C hC).symm.trans h
      cases e
      rfl
  have bv : ∀ n v, TgV ⟨K, mg⟩ (.b n) v → v = .type n := fun n v h => by cases h; rfl
  refine ⟨fun t c b e tv v ht hc => ?_, fun C hC Ca hm => ?_⟩
  · cases t with
    | c C =>
      cases c with
      | c D =>
        simp only [xTab] at e
        split at e
        · rename_i hh
          cases e
          obtain ⟨_, k⟩ := He.ba (at_ C hh.1)
          obtain ⟨_, k⟩ := He.ba k
          obtain ⟨_, k⟩ := He.ba k
          rw [cv C hh.1 _ ht, cv D hh.2 _ hc]
          exact of_decide_eq_true (List.all_eq_true.mp k D hh.2)
        · cases e
      | b n =>
        simp only [xTab] at e
        split at e
        · rename_i hC
          obtain ⟨_, k⟩ := He.ba (at_ C hC)
          obtain ⟨k1, k⟩ := He.ba k
          obtain ⟨k2, k⟩ := He.ba k
          rw [cv C hC _ ht, bv n _ hc]
          split at e
          · rename_i hn
            cases e
            rw [hn]
            exact of_decide_eq_true k1
          · split at e
            · rename_i hn
              cases e
              exact of_decide_eq_true (He.ba (List.all_eq_true.mp k2 n hn)).1
            · cases e
        · cases e
    | b n =>
      cases c with
      | c D =>
        simp only [xTab] at e
        split at e
        · rename_i hh
          cases e
          obtain ⟨_, k⟩ := He.ba (at_ D hh.2)
          obtain ⟨k1, k⟩ := He.ba k
          obtain ⟨k2, k⟩ := He.ba k
          rw [cv D hh.2 _ hc, bv n _ ht]
          exact of_decide_eq_true (He.ba (List.all_eq_true.mp k2 n hh.1)).2
        · cases e
      | b m =>
        simp only [xTab] at e
        split at e
        · rename_i hh
          cases e
          rw [bv n _ ht, bv m _ hc]
          exact kit_ty (bIs_ok n hh.1 m hh.2)
        · cases e
  · have hC : C ∈ cls := of_decide_eq_true hC
    obtain ⟨k, _⟩ := He.ba (at_ C hC)
    have e : some (Value.ref (He.ga K C)) = some (.ref Ca) := (g C hC).symm.trans hm
    cases e
    exact excCB_ok k
/-- except base -/
def exmB (K : PySem.W.Frag) (cls : List Str) (base : Str) : Bool := cls.all fun C => decide (PySem.W.exmOne K (.ref (He.ga K C)) (.ref (He.ga K base)) = some true)
def xmTab (cls : List Str) (C : Str) : Option Bool := if C ∈ cls then some true else none
theorem exmB_ok {cls : List Str} {base : Str} (g : ∀ x ∈ cls, mg x = some (.ref (He.ga K x))) (hb : mg base = some (.ref (He.ga K base))) (c : exmB K cls base = true) : XTryOk ⟨K, mg⟩ base (xmTab cls) := by
  refine ⟨He.ga K base, hb, fun C b e Ca hm => ?_⟩
  unfold xmTab at e
  split at e
  · rename_i hC
    cases e
    have e : some (Value.ref (He.ga K C)) = some (.ref Ca) := (g C hC).symm.trans hm
    cases e
    exact of_decide_eq_true (List.all_eq_true.mp c C hC)
  · cases e
end
/-! ### the end -/
theorem rol_of {K : PySem.W.Frag} {H : Hp} {a : Addr} {xs : List V} (hO : Only H) (h : SqL K H a xs) : Rol K H a xs := by
  rcases h with (h | h) | h
  · rcases hO a with z | ⟨o, ys, z⟩
    · rw [z] at h; cases h
    · rw [z] at h; cases h
  · exact .inl h
  · exact .inr h
theorem sp_law {K : PySem.W.Frag} {mg : Str → Option Value} {F : FF} {H : Hp} {a : Addr} {ns : List Int} (hO : Only H) (hS : SqL K H a (ns.map V.int)) (hp : ∃ st, F [.rol (ns.map W.int)] [] = .ok (.bl true) st) :
    spF ⟨K, mg⟩ 1 F [.ref a] H (fun v _ => v = .bl true) fun _ _ _ => False := by
  obtain ⟨st, e⟩ := hp
  refine ⟨rfl, [.rol (ns.map W.int)], [], [], .cons (.rol (rol_of hO hS) (repL_ints ns)) .nil, ⟨rfl, List.nodup_nil, fun n o a e => by simp at e⟩, ?_⟩
  rw [e]
  intro r' H' g sm v rv
  cases rv
  rfl
theorem cx_end {P : Program} {w : World} {outer : List Env} {H : Hp} {s : Shared} {e : Value} {s' : Shared} (h : L2.CX P w outer H s (fun _ _ _ => False) e s') : False := by
  obtain ⟨_, _, _, _, _, _, _, _, _, _, _, _, z⟩ := h
  exact z
end Sw
/-! SwZ: small words for the printed text. -/
namespace Sw
open PySem PySem.Spec PyProof.Rows L2
theorem passX {X : Cx} : Passes (L2.CX X.prog X.w) X (fun _ _ _ => False) := fun _ _ _ _ _ _ _ c => (cx_end c).elim
theorem spXi_len {f : Str} {C : Addr} {a b : Str} : ∀ (vs : List V) (H : Hp) (Q : VK) (E : XK), spXi f C vs H Q E → vs.length = [a, b].length := fun vs H Q E ⟨x, v, e, _⟩ => by rw [e]; rfl
theorem xfnone {K : PySem.W.Frag} {mg : Str → Option Value} {f x : Str} {xa : Str → Bool} {C : Addr} (T : Xfs ⟨K, mg⟩ f xa) (g : mg x = some (.ref C)) (h : xa x = true) : PySem.W.findIn K (.ref C) f = some none := (T x h C g).2
def initB (K : PySem.W.Frag) (x : Str) : Bool := decide (PySem.W.findIn K (.ref (He.ga K x)) "__init__" = some (some (.ref (He.ma K (He.ga K x) "__init__")))) && decide (PySem.W.typeIn K (.ref (He.ma K (He.ga K x) "__init__")) = some (.type "function"))
theorem initB_ok {K : PySem.W.Frag} {x : Str} (c : initB K x = true) : PySem.W.findIn K (.ref (He.ga K x)) "__init__" = some (some (.ref (He.ma K (He.ga K x) "__init__"))) ∧ PySem.W.typeIn K (.ref (He.ma K (He.ga K x) "__init__")) = some (.type "function") := by
  obtain ⟨a, b⟩ := He.ba c
  exact ⟨of_decide_eq_true a, of_decide_eq_true b⟩
theorem xi_end {K : PySem.W.Frag} {C : Addr} {f a b : Str} {m : Str} {vs : List V} {H : Hp} {Q : VK} {E : XK} (T : OexC K C) (hno : PySem.W.findIn K (.ref C) f = some none) (h : spXi f C vs H Q E) :
    tSeq (tDrop (tVeI K (tCons (tVar 0) (tCons (tC (.str m)) tNil)))) (tOst K f (tVar 0) (tVar 1)) { nx := fun _ H' => Q .non H', rt := Q } (L2.start [a, b] vs) H := by
  obtain ⟨x, v, rfl, ha, q⟩ := h
  exact ⟨.ref x, rfl, x, C, [.str m], rfl, by simp, T, ha, v, rfl, .ref x, rfl, x, C, rfl, T, hno, .inl ⟨ha, fun dx hd hne => q dx hd hne⟩⟩
/-- a law's end over a head by facts; what leaves it may depend on the world -/
theorem walk_ofW {l : PySem.W.OpenLaw} {n k : Nat} {q : Program} {loose : List Str} {XP : (Str → Option Value) → Heap → Prop} {YP : World → Heap → Prop} {d : DefRec} {x : Str}
    (hn : l.most = some n) (hn2 : n ≤ sizeLine) (hdf : d.params.defaults = []) (hr : Room k callerA)
    (F : ∀ (w : World) (mg : Str → Option Value) (fa : Addr) (h : Heap), YP w h → h.Ns mainGlobals mg → mg d.name = some (.ref fa) →
      ∃ (K : PySem.W.Frag) (fd : FuncData) (sp : Sp), K.In h ∧ (∀ (s : Shared) (u : Value), BindsTo s fd ⟨[u], []⟩ [(x, u)]) ∧
        (∀ (H : Hp) (a : Addr) (ns : List Int), ns.length ≤ n → Only H → SqL K H a (ns.map V.int) → sp [.ref a] H (fun v _ => v = .bl true) fun _ _ _ => False) ∧
        ∀ base : Heap, K.In base → base.Ns mainGlobals mg → FnOk l.prog w K mg base (L2.CX l.prog w) k fa fd [x] sp) :
    PySem.W.WalkO q loose XP YP l.row.toRowW d [] (fun f vs => PySem.call f vs) := by
  refine Att.attach_call hn hdf fun w s₀ s₁ mg mb fa o pm cd doc a vs ns G Y ho hd hcd hmg hobj hints hlen hg => ?_
  obtain ⟨K, fd, sp, KX, hb, hsp, hF⟩ := F w mg fa _ Y G.T.g hmg
  exact law_call KX G.T.g G.T.b G.T.builtins G.T.nolimit hg hobj hints (Nat.le_trans hlen hn2) hr hF hb (fun H hO hS => hsp H a ns hlen hO hS) fun H e s' => cx_end
end Sw
/-! SwS: a, *b = a list. -/
namespace Sw
open PySem PySem.Spec PyProof.Rows L2
section
variable {prog : Program} {w : World} {A : Around} {E : Value → Shared → Prop} {s : Shared}
/-- the walk of a list iterator from its place o on -/
theorem li_walks {it l : Addr} {items : Array Value} (o : Nat) (hne : l ≠ it) (hh : A.handled = none) (ho : o ≤ items.size) :
    WalksS prog w A it [it, l] [it] (fun a b => b = a) (items.size - o) (fun j v => items[o + j]? = some v) (fun j s => s.heap.IsListIter it l (o + j) ∧ s.heap.IsList l items) where
  sub := fun b hb => by simp at hb; simp [hb]
  grefl := fun _ => rfl
  gtrans := fun _ _ _ a b => b.trans a
  frame := fun i s h' tk ⟨a, b⟩ _ k => ⟨a.at fun o e => k it (by simp) o e, by
    obtain ⟨ob, e, q⟩ := b
    exact ⟨ob, k l (by simp) ob e, q⟩⟩
  item := fun i s Q E hi ⟨a, b⟩ hQ => by
    have hx : items[o + i]? = some items[o + i] := Array.getElem?_eq_getElem (by omega)
    refine wpAny_pyNext_list_item a b hx fun h' st' sb => ?_
    refine hQ _ { s with heap := h' } hx ⟨by rw [show o + (i + 1) = o + i + 1 by omega]; exact st', b.extBut sb.extBut hne⟩ ⟨fun c ob hc e => ?_, rfl, rfl, rfl, Nat.le_refl _⟩
    have hc : c ≠ it := by simpa using hc
    exact (sb.2 c hc).trans e
  done := fun s Q E ⟨a, b⟩ hQ => by
    refine wpAny_pyNext_list_end hh a b (by simp; omega) fun h' eb => ?_
    refine hQ { s with heap := h' } ⟨fun c ob hc e => ?_, rfl, rfl, rfl, Nat.le_refl _⟩
    have hc : c ≠ it := by simpa using hc
    exact eb c ob hc e
  self := fun i s Q E ⟨a, _⟩ h => wpAny_pyIter_listiter a h
theorem star_items {l : Addr} {u : Value} {us : List Value} {Q : List Value → Shared → Prop} (hh : A.handled = none) (hl : s.heap.IsList l (u :: us).toArray) (hz : (u :: us).length ≤ sizeLine)
    (hQ : ∀ h' p tk, (∀ b o, s.heap.get? b = some o → h'.get? b = some o) → s.heap.get? p = none → h'.get? p = some { cls := .type "list", data := .seq us.toArray } → Q [u, .ref p] { s with heap := h', toks := tk }) :
    wpAny (model prog w) A (unpackItems (.ref l) 2 (some 1)) Q E s := by
  have hlt : l ≠ s.heap.objs.size := by obtain ⟨o, ho, _⟩ := hl; exact Nat.ne_of_lt (Heap.lt_size ho)
  unfold unpackItems
  refine wpAny_bind ?_
  unfold notIterableAtAll
  refine wpAny_bind (wpAny_specialOf hl.typeIs slot_list_iter.lookup ?_)
  refine wpAny_pure ?_
  simp only [Bool.false_eq_true, if_false]
  refine wpAny_bind (wpAny_holding (wpAny_pyIter_list hl ?_))
  refine wpAny_bind (wpAny_holding (PySem.W.kun_draw hlt 1 0 _ _ ⟨_, Heap.get?_push_size _ rfl, rfl, rfl⟩ (hl.push _) (by simp) fun h₁ hit₁ hs₁ => ?_))
  have hfirst : List.take 1 (List.drop 0 (u :: us).toArray.toList) = [u] := by simp
  rw [hfirst]
  rw [if_neg (by simp)]
  have hl₁ : h₁.IsList l (u :: us).toArray := (hl.push _).extBut hs₁.extBut hlt
  have up1 : ∀ b o, s.heap.get? b = some o → h₁.get? b = some o := fun b o e => by
    have hb : b ≠ s.heap.objs.size := Nat.ne_of_lt (Heap.lt_size e)
    exact hs₁.extBut b o hb (Heap.get?_push_of_some _ e)
  have hsz : s.heap.objs.size < h₁.objs.size := by
    obtain ⟨o, ho, _⟩ := hit₁
    exact Heap.lt_size ho
  refine wpAny_bind (wpAny_holding (wpAny_collect_iter (T := "list_iterator") (.inr (.inr (.inl rfl))) (li_walks (A := A.in1) (it := s.heap.objs.size) (l := l) (items := (u :: us).toArray) 1 hlt (by exact hh) (by simp)) (fun i s' ⟨a, _⟩ => by
    obtain ⟨o, ho, hc, _⟩ := a
    exact ⟨o, ho, hc⟩) ⟨hit₁, hl₁⟩ (fun b hb => by
      rcases List.mem_cons.mp hb with rfl | hb
      · exact hsz
      · have : b = l := by simpa using hb
        subst this
        obtain ⟨o, ho, _⟩ := hl₁
        exact Heap.lt_size ho) (by simp) (fun s' acc hm hacc => ?_) (by simp at hz ⊢; omega)))
  have hrest : acc.toList = us := by
    obtain ⟨e1, e2⟩ := hacc
    have e1 : acc.size = us.length := by rw [e1]; simp
    refine List.ext_getElem? fun i => ?_
    by_cases hi : i < us.length
    · have hi' : i < acc.size := by rw [e1]; exact hi
      have e3 := e2 i acc[i] (Array.getElem?_eq_getElem hi')
      rw [Array.getElem?_toList, Array.getElem?_eq_getElem hi', ← e3]
      simp [Nat.add_comm 1 i]
    · rw [List.getElem?_eq_none (by rw [Array.length_toList, e1]; omega), List.getElem?_eq_none (by omega)]
  rw [hrest]
  rw [if_neg (by simp)]
  obtain ⟨h2, g2, d2, t2, o2⟩ := s'
  obtain ⟨k1, k2, k3, k4, k5⟩ := hm
  dsimp only at k1 k2 k3 k4
  subst k2 k3 k4
  refine wpAny_bind (wpAny_newList ?_ (by simp at hz ⊢; omega))
  refine wpAny_pure ?_
  have e1 : us.take (us.length - (2 - 1 - 1)) = us := by simp
  have e2 : us.drop (us.length - (2 - 1 - 1)) = [] := by simp
  rw [e2]
  have up2 : ∀ b o, s.heap.get? b = some o → h2.get? b = some o := fun b o e => k1 b o (by
    have hb : b ≠ s.heap.objs.size := Nat.ne_of_lt (Heap.lt_size e)
    simpa using hb) (up1 b o e)
  have szle : s.heap.get? h2.objs.size = none := by
    cases e : s.heap.get? h2.objs.size with
    | none => rfl
    | some o => exact absurd (Heap.lt_size (up2 _ o e)) (Nat.lt_irrefl _)
  exact hQ _ _ t2 (fun b o e => Heap.get?_push_of_some _ (up2 b o e)) szle (by rw [e1]; exact Heap.get?_push_size _ rfl)
end
def gStar (K : PySem.W.Frag) (t : TGs) : TG := fun v σ H Q => ∃ a x xs, v = .ref a ∧ SqL K H a (x :: xs) ∧ ∀ p, H p = none → t [x, .ref p] σ (upd H p (.lst xs)) Q
theorem pg_star {X : Cx} {es es' : List Expr} {k : Nat} {pos : Pos} {t : TGs} (hc : X.calm = true) (h : PGs X es' t) (hm : (assignEach es X.env).map (·.2) = (assignEach es' X.env).map (·.2) := by rfl)
    (hn : (assignEach es X.env).length = 2 := by rfl) (hst : (assignEach es X.env).findIdx? (·.1) = some 1 := by rfl) : PG X (.Tuple es k pos) (gStar X.K t) := by
  refine ⟨fun pins s σ H v u Q I r hw => ?_⟩
  obtain ⟨a, x, xs, e1, hq, hw⟩ := hw
  subst e1
  cases r
  obtain ⟨its, rv, pl, hz⟩ := I.list hq
  cases rv with
  | @cons _ u0 _ us ru rus =>
    rw [PyProof.Rows.assign_Tuple]
    refine wpAny_bind (wpAny_standAt ?_)
    unfold unpack
    rw [hn, hst]
    have hl : (u0 :: us).length ≤ sizeLine := by
      rw [List.length_cons, ← Paired.length rus]
      exact hz
    refine wpAny_bind (wpAny_holding (star_items (I.ok.hd hc) pl.isList hl fun h' p tk kp hp hn2 => ?_))
    have hH : H p = none := I.hok.gone hp
    have I1 : Inv X pins σ (upd H p (.lst xs)) { s with heap := h', toks := tk } := I.laidN kp hp hH (show ObjOk X.prog X.w _ _ _ (.lst xs) from ⟨by
      rw [Paired.length rus]; rw [List.length_cons] at hl; omega, us, 0, rus, hn2⟩)
    rw [hm]
    exact h.run pins _ σ _ [x, .ref p] _ Q I1 (.cons ru (.cons rfl .nil)) (hw p hH)
end Sw
/-! SwT: try: .. except B as n: m = n: the exception is kept. -/
namespace Sw
open PySem PySem.Spec PyProof.Rows L2
section
variable {X : Cx} {pins : List (Addr × Obj)} {σ : L2.St} {H : Hp} {s : Shared}
/-- an object that stands in the heap is tracked from now on -/
theorem track {a : Addr} {o : HO} {oe : Obj} {vs : Array Value} (I : Inv X pins σ H s) (hn : H a = none) (he : s.heap.get? a = some oe) (hd : oe.data = .fields vs) (new : ObjOk X.prog X.w (upd H a o) s.heap a o) (h0 : X.s_0.heap.get? a = none) (hL : a ≠ X.env.locals) (hp : ∀ p ∈ X.pn ++ pins, p.1 ≠ a) :
    Inv X pins σ (upd H a o) s where
  ok := I.ok
  os := I.os
  bare := I.bare
  base := {
    keep := I.base.keep
    slot := I.base.slot
    free := fun b o' e n hx => by
      rw [upd_ne (fun z => by rw [z, h0] at e; cases e)]
      exact I.base.free b o' e n hx
    there := I.base.there
    tups := fun b xs e => by
      have q := I.base.tups b xs e
      rw [upd_ne (ne_of_none q hn)]
      exact q
    frzs := fun b o' u e => by
      have q := I.base.frzs b o' u e
      rw [upd_ne (ne_of_none q hn)]
      exact q
    tbls := fun b ps e => by
      obtain ⟨more, q⟩ := I.base.tbls b ps e
      exact ⟨more, by rw [upd_ne (ne_of_none q hn)]; exact q⟩ }
  loc := I.loc
  cell := I.cell
  free := by
    rw [upd_ne (Ne.symm hL)]
    exact I.free
  freeC := fun x c e => by
    obtain ⟨v, oc, hc, hd2⟩ := I.cell x c e
    rw [upd_ne (fun z => by
      rw [z, he] at hc
      cases hc
      rw [hd] at hd2
      cases hd2)]
    exact I.freeC x c e
  pin := fun p h => by
    obtain ⟨p1, p2, p3⟩ := I.pin p h
    exact ⟨p1, by rw [upd_ne (hp p h)]; exact p2, p3⟩
  hok := fun b u e => by
    by_cases hb : b = a
    · subst hb
      rw [upd_same] at e
      cases e
      exact new
    · rw [upd_ne hb] at e
      exact (I.hok b u e).stay (fun c v _ q => q) (fun c q => by rw [upd_ne (ne_of_none q hn)]; exact q) fun c xs q => by rw [upd_ne (ne_of_none q hn)]; exact q
  len := I.len
end
/-- what the clause wishes of an exception of the body -/
def wKeep (K : PySem.W.Frag) (c : Value) (i : Nat) (ts : Addr → Value → Option Addr → TS) (Wout : WX) (D : Ends) : WX := fun cls d σ H =>
  ∃ b, PySem.W.exmOne K cls c = some b ∧ (b = true → ∀ a, H a = none → ts a cls d { nx := fun σ' H' => H' a = none → D.nx (σ'.set i none) (upd H' a (.ext (excAt cls d a))), rt := fun _ _ => False, bk := fun _ _ => False, ct := fun _ _ => False } (σ.set i (some (.ref a))) H) ∧
    (b = false → Wout cls d σ H)
section
variable {X : Cx} {x n : Str} {c : Value} {i : Nat} {body suite : List Stmt} {b₀ : Stmt} {np pos pos' : Pos} {tb : WX → TS} {ts : Addr → Value → Option Addr → TS} {Wout : WX}
theorem ps_try_keep (hs : X.stack = X.env :: X.outer) (hf : X.env.frame = some X.env.locals) (hN : X.N.Nodup) (hi : X.N[i]? = some n) (hln : X.env.kindOf n = some .local) (hc : Names X x c) (tk : Takes X Wout) (hex : X.ex = [])
    (hb : ∀ (W : WX) (pn : List (Addr × Obj)) (xe : Value → Shared → Prop), Takes (X.tr pn xe) W → PassesOwn (model X.prog X.w) X.A X.env xe → PSs (X.tr pn xe) body (tb W))
    (hsu : ∀ (a : Addr) (oe : Obj) (cls : Value) (d : Option Addr) (pn : List (Addr × Obj)), Zc cls d oe → (∃ vs, oe.data = .fields vs) → PSs (X.suite a ((a, oe) :: pn)) (b₀ :: suite) (ts a cls d)) :
    PS X (.Try body [.ExceptHandler (some (.Name x np)) (some n) (b₀ :: suite) pos'] [] [] pos) (fun D σ H => tb (wKeep X.K c i ts Wout D) D σ H) := by
  refine ⟨fun pins s σ H D I h => ?_⟩
  have ok := I.ok
  have hfr : X.A.frames = some (X.env :: X.outer) := by rw [ok.frames, hs]
  have hloc : Loc X.env.scope n := .inl hln
  refine wpAny_Try_except ?_
  refine wpAny_mono ((hb (wKeep X.K c i ts Wout D) (X.pn ++ pins) (fun e s₁ => wpAny (model X.prog X.w) X.A (noteFrame e X.env) (fun _ s₂ => wpAny (model X.prog X.w) X.A (setFlight e none) (fun _ s₃ =>
    wpAny (model X.prog X.w) X.A (handleBy e X.env [.ExceptHandler (some (.Name x np)) (some n) (b₀ :: suite) pos']) (SP X pins D) X.xe s₃) X.xe s₂) X.xe s₁) (fun u s' xx => ?_) PassesOwn.looking).run [] s σ H D (I.toTry _) h) (fun f s1 hsp => ?_) (fun e s1 he => he)
  · -- the catch
    obtain ⟨a, B, sI, pins', σ', H', cls, d, rfl, J', nb, up, sky, na, os, ag, b, hb1, hyes, hno⟩ := xx
    have J : Inv X pins σ' H' sI := J'.ofTry ok
    have sky' : Sky B (X.env :: X.outer) a (Zc cls d) X.env.locals s'.heap := by rw [← hs]; exact sky
    show wpAny (model X.prog X.w) X.A (noteFrame (.ref a) X.env) _ _ _
    refine Sky.land Zc.steady hfr hf sky' fun h3 fl3 up3 => ?_
    have J3 : Inv X pins σ' H' { s' with heap := h3 } := J.landed nb fl3.1 (up.trans up3) os ag
    obtain ⟨oe3, vs3, he3, hz3, hd3⟩ := fl3.there
    have notFr : ∀ {h : Heap} {o : Obj} {vs : Array Value}, h.FunFrames B (X.env :: X.outer) → h.get? a = some o → o.data = .fields vs → a ∉ frs (X.env :: X.outer) := fun {h o vs} ff e dd hm => by
      obtain ⟨_, o', e', hnf⟩ := ff.mem hm
      rw [e] at e'; cases e'
      exact hnf _ dd
    have nfr := notFr fl3.2.2.1 he3 hd3
    have nL : a ≠ X.env.locals := fun z => nfr (List.mem_filterMap.mpr ⟨X.env, List.mem_cons_self, by rw [hf, z]⟩)
    have nF : a ∉ X.fs := fun hm => by
      obtain ⟨e, he, q⟩ := List.mem_filterMap.mp hm
      exact nfr (List.mem_filterMap.mpr ⟨e, List.mem_cons_of_mem _ he, q⟩)
    have nI : sI.heap.get? a = none := by
      cases e : sI.heap.get? a with
      | none => rfl
      | some o =>
        have z := nb a o e (by rw [hs]; exact nfr)
        rw [fl3.2.1] at z
        cases z
    have n0 : X.s_0.heap.get? a = none := by
      cases e : X.s_0.heap.get? a with
      | none => rfl
      | some o =>
        obtain ⟨o', z⟩ := J.base.there a o e (by rw [hex]; exact List.not_mem_nil)
        rw [nI] at z
        cases z
    have npp : ∀ p ∈ X.pn ++ pins, p.1 ≠ a := fun p hp z => by
      have q := (J.pin p hp).1
      rw [z, nI] at q
      cases q
    have S3 := J3.suite he3 hd3 na nL nF
    refine wpAny_handleBy_cons (codeAny_handlers_test ?_) (by intro q; cases q)
    have LT : PySem.W.Looks (model X.prog X.w) h3 (typeOf (.ref a)) cls := fun A Q E s k q => wpAny_typeOf_ref (k _ _ he3) (by rw [hz3.1]; exact q)
    have LM := PySem.W.exm_one (M := model X.prog X.w) (J3.kIn) LT hb1
    have test : ∀ {Q : Value → Shared → Prop} {E : Value → Shared → Prop}, Q c { s' with heap := h3 } → wpAny (model X.prog X.w) (X.A.mark (some (.ref a))) (eval (.Name x np) X.env) Q E { s' with heap := h3 } := fun {Q E} q => by
      obtain ⟨hg, hdbg, hm | ⟨hm, hv, hnn⟩⟩ := hc
      · exact ld_glob (X := X.suite a ((a, oe3) :: (X.pn ++ pins))) S3 hg hm q hdbg
      · exact ld_blt (X := X.suite a ((a, oe3) :: (X.pn ++ pins))) S3 hg hm hv q hnn hdbg
    refine test (LM.here ?_)
    cases b with
    | true =>
      refine codeAny_handlers_suite_as ?_
      refine HandSPX.lands_againZ fl3 fun h4 fl4 up4 => ?_
      have J4 : Inv X pins σ' H' { s' with heap := h4 } := J.landed nb fl4.1 ((up.trans up3).trans up4) os ag
      obtain ⟨oe4, vs4, he4, hz4, hd4⟩ := fl4.there
      have S4 := J4.suite he4 hd4 na nL nF
      refine store_ok (X := X.suite a ((a, oe4) :: (X.pn ++ pins))) (v := .ref a) S4 hN hi hloc rfl (fun s5 S5 => ?_) (.inr hln)
      refine wpAny_mono ((hsu a oe4 cls d (X.pn ++ pins) hz4 ⟨_, hd4⟩).run [] s5 _ H' _ S5 (hyes rfl a na)) (fun f s6 hsp => ?_) (fun _ _ z => False.elim z)
      cases f with
      | next =>
        obtain ⟨σ6, H6, S6, q6⟩ := hsp
        obtain ⟨pa, pb, _⟩ := S6.pin (a, oe4) (List.mem_append_left _ List.mem_cons_self)
        have I6 := S6.unsuite ok
        have T6 := track (o := .ext (excAt cls d a)) I6 pb pa hd4 (excAt_ok pa hz4 hd4) n0 nL npp
        exact gone_ok T6 hN hi hln fun s7 J7 => ⟨_, _, J7, q6 pb⟩
      | brk =>
        obtain ⟨σ6, H6, S6, q6⟩ := hsp
        exact False.elim q6
      | cont =>
        obtain ⟨σ6, H6, S6, q6⟩ := hsp
        exact False.elim q6
      | ret u =>
        obtain ⟨v6, σ6, H6, S6, r6, q6⟩ := hsp
        exact False.elim q6
    | false =>
      show wpAny _ X.A (handleBy (.ref a) X.env []) _ _ _
      refine wpAny_handleBy_nil ?_
      obtain ⟨k1, k2, k3, oe, vs, T, oT, ts', he, hz, hd, h1, hr⟩ := id fl3
      unfold PySem.passOn
      refine wpAny_bind (wpAny_field he hd h1 ?_)
      rw [if_neg (show ¬ ((Value.ref T == Value.none) = true) from by simp)]
      have fin : wpAny (model X.prog X.w) X.A (setFlight (.ref a) X.env.frame) (fun _ s4 => wpAny (model X.prog X.w) X.A (throw (.ref a) : Sem Flow) (SP X pins D) X.xe s4) X.xe { s' with heap := h3 } := by
        rw [hf]
        refine HandSPX.setFlight_upZ fl3 fun h4 hh4 up4 => wpAny_throw (tk _ _ ?_)
        exact ⟨a, B, sI, pins, σ', H', cls, d, rfl, J, nb, (up.trans up3).trans up4, .inr (.inr (by rw [hs]; exact hh4)), na, os, ag, hno rfl⟩
      first
        | exact wpAny_bind (wpAny_pure (wpAny_bind fin))
        | exact wpAny_bind fin
  · cases f with
    | next =>
      obtain ⟨σ', H', J', q⟩ := hsp
      exact wpAny_execs_nil ⟨σ', H', J'.ofTry ok, q⟩
    | brk =>
      obtain ⟨σ', H', J', q⟩ := hsp
      exact ⟨σ', H', J'.ofTry ok, q⟩
    | cont =>
      obtain ⟨σ', H', J', q⟩ := hsp
      exact ⟨σ', H', J'.ofTry ok, q⟩
    | ret u =>
      obtain ⟨v, σ', H', J', r, q⟩ := hsp
      exact ⟨v, σ', H', J'.ofTry ok, r, q⟩
end
section
variable {X : Cx} {Wx : WX}
def fTryK (tab : Str → Option Bool) (i j : Nat) (g : FS) : FS := fun env st => match g env st with
  | .ex C fs env1 st1 => (match tab C with
    | some true => if i < env1.length then .nx (((env1.set i (some (.ref st1.length))).set j (some (.ref st1.length))).set i none) (st1 ++ [.exc C fs]) else .bad
    | some false => .ex C fs env1 st1
    | none => .bad)
  | o => o
theorem s_tryK {x n m : Str} {i j : Nat} {body : List Stmt} {np pm pn spos pos pos' : Pos} {tab : Str → Option Bool} {g : FS} (T : XTryOk (gx X) x tab) (hs : X.stack = X.env :: X.outer) (hf : X.env.frame = some X.env.locals) (hN : X.N.Nodup) (tk : Takes X Wx) (hex : X.ex = [])
    (hb : ∀ (W : WX) (pn : List (Addr × Obj)) (xe : Value → Shared → Prop), Takes (X.tr pn xe) W → PassesOwn (model X.prog X.w) X.A X.env xe → PSs (X.tr pn xe) body (tS (gx X) W g))
    (hset : ∀ (a : Addr) (oe : Obj) (pn' : List (Addr × Obj)), PS (X.suite a ((a, oe) :: pn')) (.Assign [.Name m pm] (.Name n pn) spos) (tAsg (tVar i) (gName j)))
    (hi : X.N[i]? = some n := by rfl) (hln : X.env.kindOf n = some .local := by rfl) (hg : Gl X x := by rfl) (hdb : (x == ("__debug__" : Str)) = false := by decide) :
    PS X (.Try body [.ExceptHandler (some (.Name x np)) (some n) [.Assign [.Name m pm] (.Name n pn) spos] pos'] [] [] pos) (tS (gx X) Wx (fTryK tab i j g)) := by
  obtain ⟨Ba, hB, hT⟩ := T
  refine (ps_try_keep (c := .ref Ba) (i := i) (ts := fun a cls d => tAsg (tVar i) (gName j)) hs hf hN hi hln ⟨hg, hdb, .inl hB⟩ tk hex hb (fun a oe cls d pn' hz hfl => pss_one (hset a oe pn'))).imp fun E s H h => ?_
  obtain ⟨env, l, st, en, sm, p⟩ := h
  refine ⟨env, l, st, en, sm, ?_⟩
  unfold fTryK at p
  cases e : g env st with
  | nx env1 st1 => rw [e] at p; exact p
  | rt w st1 => rw [e] at p; exact p
  | bk env1 st1 => rw [e] at p; exact p
  | ct env1 st1 => rw [e] at p; exact p
  | bad => rw [e] at p; exact p.elim
  | ex C fs env1 st1 =>
    rw [e] at p
    intro r' H' s' ca d gr sm' en' ex
    obtain ⟨Ca, rfl, m', k⟩ := ex
    dsimp only at p
    split at p
    · rename_i hb'
      split at p
      · rename_i hl
        refine ⟨true, hT _ _ hb' _ m', fun _ a ha => ?_, fun z => nomatch z⟩
        refine ⟨.ref a, by rw [List.getElem?_set_self (by rw [en'.1]; exact hl)], fun hna => ?_⟩
        have kp : ∀ c u, H' c = some u → upd H' a (.ext (excAt (.ref Ca) d a)) c = some u := fun c u q => by
          rw [upd_ne (ne_of_none q ha)]
          exact q
        have sy := Stay.more kp
        have gr2 : Grow r' H' (r' ++ [a]) (upd H' a (.ext (excAt (.ref Ca) d a))) := Grow.one sy
        have sm2 : Sim (gx X) (r' ++ [a]) (upd H' a (.ext (excAt (.ref Ca) d a))) (st1 ++ [.exc C fs]) := sm'.new ha kp ⟨Ca, d, m', upd_same, by
          rcases k with k | ⟨da, vs, k1, k2, k3⟩
          · exact .inl k
          · exact .inr ⟨da, vs, k1, kp _ _ k2, k3.grow gr2⟩⟩ sy
        have rn : Rep (gx X) (r' ++ [a]) (upd H' a (.ext (excAt (.ref Ca) d a))) (.ref st1.length) (.ref a) := .ref (by
          rw [List.getElem?_append_right (by rw [sm'.len]; exact Nat.le_refl _), sm'.len]
          simp)
        exact p _ _ _ (gr.trans gr2) sm2 ((((en'.grow gr2).set rn).set rn).forget)
      · exact p.elim
    · rename_i hb'
      exact ⟨false, hT _ _ hb' _ m', fun z => (nomatch z), fun _ => p r' H' s' _ d gr sm' en' ⟨Ca, rfl, m', k⟩⟩
    · exact p.elim
end
end Sw
/-! Sw10: shifts, constants, methods, sorted, is True, calls of what a name holds, a, *b = .. -/
namespace Sw
open PySem PySem.Spec PyProof.Rows L2
def wShr : W → W → Sto → An W := wIc (fun _ j => decide (0 ≤ j)) fun i j => .int (i / 2 ^ j.toNat)
theorem rf_shr {G : Gx} : OpRf G (rI (fun _ j => 0 ≤ j) fun i j => .int (i / 2 ^ j.toNat)) wShr := rf_Ic (fun i j h => of_decide_eq_true h) fun _ _ _ _ _ => .int _
def wAddI : W → W → Sto → An W
  | .int i, .int j, st => .ok (.int (i + j)) st
  | _, _, _ => .bad
theorem rf_addI {G : Gx} : OpRf G (rI0 fun i j => .int (i + j)) wAddI := by
  intro x y st l H vx vy Q Wx s sm rx ry p
  cases rx <;> cases ry <;> first | exact p.elim | exact ⟨_, _, rfl, rfl, Po.ok p sm _ (.int _)⟩
/-! ### is True -/
def wIsB : W → W → Sto → Option Bool
  | .bl a, .bl b, _ => some (decide (a = b))
  | _, _, _ => none
theorem rb_isB {G : Gx} : OpRb G rIsB wIsB := by
  intro x y st l H vx vy Q k sm rx ry e q
  cases rx <;> cases ry <;> first | cases e | skip
  exact ⟨_, _, rfl, rfl, q⟩
/-! ### sorted whole numbers -/
def leI (a b : Int) : Bool := decide (a ≤ b)
def wSortI : List W → Sto → An W
  | [x], st => (optB ((getL st x).bind getI) st).bind fun ns _ => .ok (.ref st.length) (st ++ [.lst ((ns.mergeSort leI).map .int)])
  | _, _ => .bad
theorem sort_uniq {ns ms : List Int} (h : ms.Perm ns) (p : ms.Pairwise (· ≤ ·)) : ms = ns.mergeSort leI := by
  have p2 : (ns.mergeSort leI).Pairwise (· ≤ ·) := (List.pairwise_mergeSort (le := leI) (fun a b c h1 h2 => decide_eq_true (Int.le_trans (of_decide_eq_true h1) (of_decide_eq_true h2))) (fun a b => by
    unfold leI
    rcases Int.le_total a b with h | h
    · rw [decide_eq_true h]; rfl
    · rw [decide_eq_true h, Bool.or_true]) ns).imp fun h => of_decide_eq_true h
  exact List.Perm.eq_of_pairwise (fun a b _ _ h1 h2 => Int.le_antisymm h1 h2) p p2 (h.trans (List.mergeSort_perm ns leI).symm)
section
variable {X : Cx}
theorem rf_sortI {G : Gx} : CaRf G (rSortedI G.K) wSortI := by
  intro ws st l H vs Q Wx s sm rx p
  cases rx with
  | nil => exact p.elim
  | @cons w v _ _ h k =>
    cases k with
    | cons _ _ => exact p.elim
    | nil =>
      simp only [wSortI] at p
      obtain ⟨ns, e, p⟩ : ∃ ns, (getL st w).bind getI = some ns ∧ Po G Wx s (fun w r' H' => ∀ v, Rep G r' H' w v → Q v H') l H (.ok (.ref st.length) (st ++ [.lst ((ns.mergeSort leI).map .int)])) := by
        cases e : (getL st w).bind getI with
        | none => rw [e] at p; exact p.elim
        | some ns => rw [e] at p; exact ⟨ns, rfl, p⟩
      obtain ⟨l', e1, e2⟩ := Option.bind_eq_some_iff.mp e
      obtain ⟨a, xs, rfl, hq, kk⟩ := getL_rep sm h e1
      have ex := getI_rep kk e2
      subst ex
      refine ⟨a, ns, rfl, hq, fun ns' p' hp hs hn => ?_⟩
      rw [sort_uniq hp hs]
      exact Po.newL sm (repL_ints _) p p' hn
end
/-! ### int(text, 16) -/
def wIntH : List W → Sto → An W
  | [.str z, .int 16], st => if z.cps.toList ≠ [] ∧ z.cps.toList.length ≤ 640 ∧ (∀ c ∈ z.cps.toList, (48 ≤ c ∧ c ≤ 57) ∨ (97 ≤ c ∧ c ≤ 102)) then .ok (.int ((Hx.hexNum z.cps.toList : Nat) : Int)) st else .bad
  | _, _ => .bad
theorem wIntH_is (ws : List W) (st : Sto) : wIntH ws st = .bad ∨ ∃ z : Str, ws = [.str z, .int 16] ∧ (z.cps.toList ≠ [] ∧ z.cps.toList.length ≤ 640 ∧ ∀ c ∈ z.cps.toList, (48 ≤ c ∧ c ≤ 57) ∨ (97 ≤ c ∧ c ≤ 102)) ∧ wIntH ws st = .ok (.int ((Hx.hexNum z.cps.toList : Nat) : Int)) st := by
  unfold wIntH
  split
  · split
    · rename_i h
      exact .inr ⟨_, rfl, h, rfl⟩
    · exact .inl rfl
  · exact .inl rfl
theorem rf_intH {G : Gx} : CaRf G rIntHex wIntH := by
  intro ws st l H vs Q Wx s sm rx p
  rcases wIntH_is ws st with e | ⟨z, rfl, hz, e⟩
  · rw [e] at p; exact p.elim
  · rw [e] at p
    cases rx with
    | cons h k =>
      cases k with
      | cons h2 k2 =>
        cases k2
        cases h
        cases h2
        refine ⟨z.cps.toList, ?_, hz.1, hz.2.1, fun c hc => ?_, Po.ok p sm _ (.int _)⟩
        · have : SX.S z.cps.toList = z := by
            obtain ⟨c⟩ := z
            simp [SX.S]
          rw [this]
        · rcases hz.2.2 c hc with q | q
          · exact .inl q
          · exact .inr (.inl q)
/-! ### methods -/
section
variable {X : Cx} {Wx : WX} {pos : Pos} {e o : Expr} {es : List Expr} {fa fb : FE} {g : FA} {apos cpos : Pos}
theorem e_append (ho : PE X o (tE (gx X) Wx fa)) (ha : PA X (e :: es) (tL (gx X) Wx g)) (hbase : attributeBase o "append" X.env (eval o X.env) = eval o X.env := by rfl)
    (hfew : ((backTo cpos (starEach (e :: es) X.env)).all (fun x => !x.1) && (backToKw cpos (keywordEach [] X.env)).all (fun x => x.1.isSome)
      && decide ((e :: es).length + ([] : List Keyword).length + (if ([] : List Keyword).isEmpty then 0 else 1) < 30)) = true := by rfl)
    (hline : (apos.endLine == cpos.line) = true := by rfl) (hs : starEach (e :: es) X.env = (false, eval e X.env) :: starEach es X.env := by rfl) (hplain : (backTo cpos (starEach es X.env)).any (·.1) = false := by rfl) :
    PE X (.Call (.Attribute o "append" apos) (e :: es) [] cpos) (tE (gx X) Wx (fMt isLst wApp fa g)) :=
  (pe_bm PySem.F.plainAttrs_list PySem.F.slot_list_append PySem.F.type_list_append mt_append ho ha hbase hfew hline hs hplain).imp fun s H Q h => mt_imp isLst_rep rf_app h
/-- x.pop(i) -/
def wPop : W → List W → Sto → An W
  | .ref n, [.int i], st => match st[n]? with
    | some (.lst l) => if 0 ≤ i ∧ i < 2 ^ 60 then (match l[i.toNat]? with
      | some w => .ok w (st.set n (.lst (l.eraseIdx i.toNat)))
      | none => .bad) else .bad
    | _ => .bad
  | _, _, _ => .bad
theorem RepL.eraseIdx {G : Gx} {r : List Addr} {H : Hp} : ∀ {ws : List W} {vs : List V} (n : Nat), RepL G r H ws vs → RepL G r H (ws.eraseIdx n) (vs.eraseIdx n)
  | _, _, _, .nil => .nil
  | _, _, 0, .cons _ k => k
  | _, _, n + 1, .cons h k => .cons h (RepL.eraseIdx n k)
theorem wPop_is (o : W) (ws : List W) (st : Sto) : wPop o ws st = .bad ∨ ∃ (n i : Nat) (l : List W) (w : W), o = .ref n ∧ ws = [.int i] ∧ st[n]? = some (.lst l) ∧ i < 2 ^ 60 ∧ l[i]? = some w ∧ wPop o ws st = .ok w (st.set n (.lst (l.eraseIdx i))) := by
  by_cases h : ∃ n i, o = .ref n ∧ ws = [.int i]
  · obtain ⟨n, i, rfl, rfl⟩ := h
    cases hl : st[n]? with
    | none => exact .inl (by simp only [wPop, hl])
    | some ob =>
      cases ob with
      | lst l =>
        by_cases hi : 0 ≤ i ∧ i < 2 ^ 60
        · obtain ⟨k, rfl⟩ : ∃ k : Nat, i = k := ⟨i.toNat, by omega⟩
          cases hw : l[k]? with
          | none => exact .inl (by simp only [wPop, hl, if_pos hi, Int.toNat_natCast, hw])
          | some w => exact .inr ⟨n, k, l, w, rfl, rfl, hl, by omega, hw, by simp only [wPop, hl, if_pos hi, Int.toNat_natCast, hw]⟩
        · exact .inl (by simp only [wPop, hl, if_neg hi])
      | _ => exact .inl (by simp only [wPop, hl])
  · left
    unfold wPop
    split
    · exact absurd ⟨_, _, rfl, rfl⟩ h
    · rfl
theorem rf_pop {G : Gx} : MtRf G rPopAt wPop := by
  intro o ws st l H vo vs Q Wx s sm ro rx p
  rcases wPop_is o ws st with e | ⟨n, i, l', w, rfl, rfl, hl, hi, hw, e⟩
  · rw [e] at p; exact p.elim
  · rw [e] at p
    cases ro with
    | @ref _ a h =>
      cases rx with
      | cons h1 k1 =>
        cases k1
        cases h1
        obtain ⟨us, e2, kk⟩ := sm.got hl h
        obtain ⟨v, e3, rv⟩ := kk.get hw
        have sy : Stay H (upd H a (.lst (us.eraseIdx i))) := Stay.lst e2
        have hlt := (List.getElem?_eq_some_iff.mp e3).1
        refine ⟨a, us, i, i, v, rfl, rfl, e2, by omega, by omega, ?_, e3, p l _ (Grow.same sy) (sm.put h e2 (fun _ z => by cases z) sy ⟨_, upd_same, (RepL.eraseIdx _ kk).grow (Grow.same sy)⟩) _ (rv.grow (Grow.same sy))⟩
        unfold seqIndex?
        rw [if_neg (show ¬ ((i : Int) < 0) by omega)]
        simp [hlt]
theorem e_pop (ho : PE X o (tE (gx X) Wx fa)) (ha : PA X (e :: es) (tL (gx X) Wx g)) (hbase : attributeBase o "pop" X.env (eval o X.env) = eval o X.env := by rfl)
    (hfew : ((backTo cpos (starEach (e :: es) X.env)).all (fun x => !x.1) && (backToKw cpos (keywordEach [] X.env)).all (fun x => x.1.isSome)
      && decide ((e :: es).length + ([] : List Keyword).length + (if ([] : List Keyword).isEmpty then 0 else 1) < 30)) = true := by rfl)
    (hline : (apos.endLine == cpos.line) = true := by rfl) (hs : starEach (e :: es) X.env = (false, eval e X.env) :: starEach es X.env := by rfl) (hplain : (backTo cpos (starEach es X.env)).any (·.1) = false := by rfl) :
    PE X (.Call (.Attribute o "pop" apos) (e :: es) [] cpos) (tE (gx X) Wx (fMt isLst wPop fa g)) :=
  (pe_bm PySem.F.plainAttrs_list PySem.F.slot_list_pop PySem.F.type_list_pop mt_popAt ho ha hbase hfew hline hs hplain).imp fun s H Q h => mt_imp isLst_rep rf_pop h
/-! ### sep.join(list), text.split(sep) -/
def getT : List W → Option (List Str)
  | [] => some []
  | .str b :: l => (getT l).map (b :: ·)
  | _ => none
theorem getT_rep {G : Gx} {r : List Addr} {H : Hp} : ∀ {l : List W} {vs : List V} {bs : List Str}, RepL G r H l vs → getT l = some bs → vs = bs.map V.str
  | _, _, _, .nil, e => by cases e; rfl
  | _, _, _, .cons h k, e => by
    cases h with
    | str b =>
      simp only [getT] at e
      obtain ⟨bs, e1, e2⟩ := Option.map_eq_some_iff.mp e
      subst e2
      rw [getT_rep k e1]
      rfl
    | _ => simp [getT] at e
def isStr : W → Bool
  | .str _ => true
  | _ => false
def fM1 (g : W → W → Sto → An W) (fa fb : FE) : FE := fun env st => (fa env st).bind fun x st1 => if isStr x = true then (fb env st1).bind fun y st2 => g x y st2 else .bad
def M1Rf (G : Gx) (r : V → List V → Hp → VK → Prop) (g : W → W → Sto → An W) : Prop := ∀ (x y : W) (st : Sto) (l : List Addr) (H : Hp) (vx vy : V) (Q : VK) (Wx : WX) (s : L2.St), Sim G l H st → Rep G l H x vx → Rep G l H y vy →
  Po G Wx s (fun w r' H' => ∀ v, Rep G r' H' w v → Q v H') l H (g x y st) → r vx [vy] H Q
theorem m1_imp {r : V → List V → Hp → VK → Prop} {gw : W → W → Sto → An W} (hg : M1Rf (gx X) r gw) {s : L2.St} {H : Hp} {Q : VK} (h : tE (gx X) Wx (fM1 gw fa fb) s H Q) : tM1 r (tE (gx X) Wx fa) (tE (gx X) Wx fb) s H Q := by
  obtain ⟨env, l, st, en, sm, p⟩ := h
  refine ⟨env, l, st, en, sm, (Po.bind p).imp fun x l1 H1 g1 ⟨st1, sm1, _, p1⟩ vx rx => ?_⟩
  obtain ⟨hs, p1⟩ := ite_bad p1
  have hx : ∃ a, vx = .str a := by
    cases rx with
    | str z => exact ⟨z, rfl⟩
    | _ => cases hs
  refine ⟨hx, env, l1, st1, en.grow g1, sm1, (Po.bind p1).imp fun y l2 H2 g2 ⟨st2, sm2, _, p2⟩ vy ry => ?_⟩
  exact hg x y st2 l2 H2 vx vy Q Wx s sm2 (rx.grow g2) ry p2
def wJoin : W → W → Sto → An W
  | .str a, y, st => (optB ((getS st y).bind getT) st).bind fun ys _ => if (ys.map (·.length)).sum + ys.length * a.length ≤ 16777216 then .ok (.str (Txt.join a ys)) st else .bad
  | _, _, _ => .bad
theorem rf_join {G : Gx} : M1Rf G (fun x xs H Q => ∃ a p, ∃ ys : List Str, x = .str a ∧ xs = [.ref p] ∧ (SqL G.K H p (ys.map V.str) ∨ SqT G.K H p (ys.map V.str)) ∧ (ys.map (·.length)).sum + ys.length * a.length ≤ 16777216 ∧ Q (.str (Txt.join a ys)) H) wJoin := by
  intro x y st l H vx vy Q Wx s sm rx ry p
  cases rx with
  | str a =>
    simp only [wJoin] at p
    cases e : (getS st y).bind getT with
    | none => rw [e] at p; exact p.elim
    | some ys =>
      rw [e] at p
      obtain ⟨hz, p⟩ := ite_bad p
      obtain ⟨l', e1, e2⟩ := Option.bind_eq_some_iff.mp e
      obtain ⟨p', xs, rfl, hq, kk⟩ := getS_rep sm ry e1
      have ex := getT_rep kk e2
      subst ex
      exact ⟨a, p', ys, rfl, rfl, hq, hz, Po.ok p sm _ (.str _)⟩
  | _ => exact p.elim
theorem e_join (ho : PE X o (tE (gx X) Wx fa)) (he : PE X e (tE (gx X) Wx fb)) (h : PE X o (tE (gx X) Wx fa) → PE X e (tE (gx X) Wx fb) → PE X (.Call (.Attribute o "join" apos) [e] [] pos) (tM1 (fun x xs H Q => ∃ a p, ∃ ys : List Str, x = .str a ∧ xs = [.ref p] ∧ (SqL X.K H p (ys.map V.str) ∨ SqT X.K H p (ys.map V.str)) ∧ (ys.map (·.length)).sum + ys.length * a.length ≤ 16777216 ∧ Q (.str (Txt.join a ys)) H) (tE (gx X) Wx fa) (tE (gx X) Wx fb))) :
    PE X (.Call (.Attribute o "join" apos) [e] [] pos) (tE (gx X) Wx (fM1 wJoin fa fb)) := (h ho he).imp fun s H Q h => m1_imp rf_join h
def wSplit : W → W → Sto → An W
  | .str a, .str b, st => if (b.length == 0) = false ∧ a.length + 2 ≤ sizeLine then .ok (.ref st.length) (st ++ [.lst ((Txt.split a b).map .str)]) else .bad
  | _, _, _ => .bad
theorem repL_strs {G : Gx} {r : List Addr} {H : Hp} : ∀ ys : List Str, RepL G r H (ys.map W.str) (ys.map V.str)
  | [] => .nil
  | y :: ys => .cons (.str y) (repL_strs ys)
theorem rf_split {G : Gx} : M1Rf G (fun x xs H Q => ∃ a b, x = .str a ∧ xs = [.str b] ∧ (b.length == 0) = false ∧ a.length + 2 ≤ sizeLine ∧ rNewStrs (Txt.split a b) H Q) wSplit := by
  intro x y st l H vx vy Q Wx s sm rx ry p
  cases rx with
  | str a =>
    cases ry with
    | str b =>
      obtain ⟨hz, p⟩ := ite_bad p
      exact ⟨a, b, rfl, rfl, hz.1, hz.2, fun p' hp => Po.newL sm (repL_strs _) p p' hp⟩
    | _ => exact p.elim
  | _ => cases ry <;> exact p.elim
theorem e_split (ho : PE X o (tE (gx X) Wx fa)) (he : PE X e (tE (gx X) Wx fb)) (h : PE X o (tE (gx X) Wx fa) → PE X e (tE (gx X) Wx fb) → PE X (.Call (.Attribute o "split" apos) [e] [] pos) (tM1 (fun x xs H Q => ∃ a b, x = .str a ∧ xs = [.str b] ∧ (b.length == 0) = false ∧ a.length + 2 ≤ sizeLine ∧ rNewStrs (Txt.split a b) H Q) (tE (gx X) Wx fa) (tE (gx X) Wx fb))) :
    PE X (.Call (.Attribute o "split" apos) [e] [] pos) (tE (gx X) Wx (fM1 wSplit fa fb)) := (h ho he).imp fun s H Q h => m1_imp rf_split h
/-! ### module constants -/
theorem e_gi {x : Str} {i : Int} {p : Pos} (h : ∃ t, X.mg x = some (.int i t)) (hg : Gl X x := by rfl) (hd : (x == ("__debug__" : Str)) = false := by decide) : PE X (.Name x p) (tE (gx X) Wx (fC (.int i))) := by
  obtain ⟨t, h⟩ := h
  exact e_c (pe_glob (v := .int i) hg h ⟨t, rfl⟩ hd) fun r H => .int i
theorem e_gs {x z : Str} {p : Pos} (h : ∃ t, X.mg x = some (.str z t)) (hg : Gl X x := by rfl) (hd : (x == ("__debug__" : Str)) = false := by decide) : PE X (.Name x p) (tE (gx X) Wx (fC (.str z))) := by
  obtain ⟨t, h⟩ := h
  exact e_c (pe_glob (v := .str z) hg h ⟨t, rfl⟩ hd) fun r H => .str z
/-- a constant tuple of flat things -/
theorem e_gt {x : Str} {ws : List W} {vs : List V} {p : Pos} {a : Addr} (h : X.mg x = some (.ref a) ∧ (∀ H, SqT X.K H a vs) ∧ ∀ r H, RepL (gx X) r H ws vs) (hg : Gl X x := by rfl) (hd : (x == ("__debug__" : Str)) = false := by decide) : PE X (.Name x p) (tE (gx X) Wx (fC (.tup ws))) :=
  (pe_glob (v := .ref a) hg h.1 rfl hd).imp fun s H Q q => by
    obtain ⟨env, r, st, en, sm, p⟩ := q
    exact Po.ok p sm _ (.tup (h.2.1 H) (h.2.2 r H))
/-! ### a, *b = a list -/
def gStarW (gs : FGs) : FG := fun w env st => match getL st w with
  | some (x :: l) => gs [x, .ref st.length] env (st ++ [.lst l])
  | _ => .bad
theorem g_star {es' : List Expr} {k : Nat} {gs : FGs} (h : PGs X es' (tGs (gx X) gs)) (hc : X.calm = true := by rfl) (hm : (assignEach es X.env).map (·.2) = (assignEach es' X.env).map (·.2) := by rfl)
    (hn : (assignEach es X.env).length = 2 := by rfl) (hst : (assignEach es X.env).findIdx? (·.1) = some 1 := by rfl) : PG X (.Tuple es k pos) (tG (gx X) (gStarW gs)) := by
  refine ⟨fun pins s σ H v u Q I r hw => (pg_star hc h hm hn hst).run pins s σ H v u Q I r ?_⟩
  obtain ⟨w, env, l, st, rw', en, sm, p⟩ := hw
  simp only [gStarW] at p
  cases e : getL st w with
  | none => rw [e] at p; exact p.elim
  | some ws =>
    cases ws with
    | nil => rw [e] at p; exact p.elim
    | cons x ws =>
      rw [e] at p
      obtain ⟨a, vs, rfl, hq, kk⟩ := getL_rep sm rw' e
      cases kk with
      | @cons _ v _ vs h1 k1 =>
        refine ⟨a, v, vs, rfl, hq, fun q hn => ?_⟩
        have sy : Stay H (upd H q (.lst vs)) := Stay.new hn
        have gr : Grow l H (l ++ [q]) (upd H q (.lst vs)) := Grow.one sy
        refine ⟨_, env, l ++ [q], st ++ [.lst ws], .cons (h1.grow gr) (.cons (.ref ?_) .nil), en.grow gr, sm.newU (o := .lst ws) hn ⟨vs, upd_same, k1.grow gr⟩, SPo.grow gr p⟩
        rw [List.getElem?_append_right (by rw [sm.len]; exact Nat.le_refl _), sm.len]
        simp
end
end Sw
/-! Sw11: calls of what a name holds, recursion, keywords, list(range), {}. -/
namespace Sw
open PySem PySem.Spec PyProof.Rows L2
section
variable {P : Program} {w : World} {K : PySem.W.Frag} {mg : Str → Option Value} {base : Heap}
/-- says nothing -/
theorem fn_bad {k : Nat} {f : Addr} {fd : FuncData} {ps : List Str} : FnW P w K mg base k f fd ps (fun _ _ => .bad) :=
  ⟨fun vs H Q E h => h.1, fun A outer s H args us vs Q E hr he hb hv hs => by
    obtain ⟨_, _, _, _, _, _, z⟩ := hs
    exact z.elim⟩
/-- a function that a name may hold -/
structure AskOk (P : Program) (w : World) (K : PySem.W.Frag) (mg : Str → Option Value) (base : Heap) (k n : Nat) (x : Str) (F : FF) : Prop where
  ok : ∃ (f : Addr) (fd : FuncData) (ps : List Str), mg x = some (.ref f) ∧ FnW P w K mg base k f fd ps F ∧ PySem.W.keepIn K (.ref f) = true ∧ Binds K fd ps [] ∧ ps.length = n
end
section
variable {X : Cx} {Wx : WX} {pos p : Pos} {e : Expr} {es : List Expr} {fa : FE}
def fAsk (n i : Nat) (D : List (Str × FF)) (f : FA) : FE := fun env st => match env[i]? with
  | some (some (.gl x)) => (match D.lookup x with
    | some F => (f env st).bind fun ws st1 => if ws.length = n then F ws st1 else .bad
    | none => .bad)
  | _ => .bad
theorem e_ask {x : Str} {k n i : Nat} {D : List (Str × FF)} {g : FA} (hD : ∀ y F, D.lookup y = some F → AskOk X.prog X.w X.K X.mg X.base k n y F) (hr : Room k X.A) (tk : Takes X Wx) (ha : PA X (e :: es) (tL (gx X) Wx g)) (hN : X.N[i]? = some x := by rfl) (hv : Vis X.env.scope x := by first | exact Or.inl rfl | exact Or.inr (Or.inl rfl) | exact Or.inr (Or.inr rfl)) (hd : (x == ("__debug__" : Str)) = false := by decide)
    (hcd : (x == ("__classdict__" : Str)) = false := by decide) (he : starEach (e :: es) X.env = (false, eval e X.env) :: starEach es X.env := by rfl) (hpl : (backTo pos (starEach es X.env)).any (·.1) = false := by rfl) : PE X (.Call (.Name x p) (e :: es) [] pos) (tE (gx X) Wx (fAsk n i D g)) := by
  refine ⟨fun pins s σ H Q I h => ?_⟩
  obtain ⟨env, l, st, en, sm, q⟩ := h
  unfold fAsk at q
  split at q
  · rename_i y hy
    split at q
    · rename_i F hF
      obtain ⟨f, fd, ps, hm, Fk, hk, hb, hl⟩ := (hD y F hF).ok
      obtain ⟨v, hσ, rv⟩ := en.2 i _ hy
      have ev : v = .ref f := by
        cases rv with
        | gl h =>
          have h' : X.mg y = _ := h
          rw [hm] at h'
          cases h'
          rfl
      subst ev
      refine wpAny_Call_Name_kw (thn ((pe_var (pos := p) hN hv hd hcd).run pins s σ H (fun v H1 => v = .ref f ∧ H1 = H) I ⟨.ref f, hσ, rfl, rfl⟩) fun u s0 ⟨v, H0, I0, r0, e1, e2⟩ => ?_)
      subst e1 e2
      cases r0
      refine PySem.W.callWith_K (h₀ := X.base) I0.ok.mod.kin hk (thn (ha.run pos pins s0 σ H0 (fun vs H1 => spF (gx X) ps.length F vs H1 Q (WE Wx σ)) I0 ⟨env, l, st, en, sm, (Po.bind q).imp fun ws l1 H1 g1 ⟨st1, sm1, _, p1⟩ vs rx => ?_⟩) fun us s1 ⟨vs, H1, I1, r, q1⟩ => ⟨I1.kIn, ?_⟩) he hpl
      · obtain ⟨hl2, p1⟩ := ite_bad p1
        exact ⟨by rw [← rx.length, hl]; exact hl2, ws, l1, st1, rx, sm1, Po.wx p1 fun _ _ _ q => q⟩
      · exact run_fnS (E := WE Wx) Fk hr hb (passAt tk σ) I1 r q1
    · exact q.elim
  · exact q.elim
/-! ### keywords -/
def fFnK (n m : Nat) (F : FF) (f g : FA) : FE := fun env st => (f env st).bind fun ws st1 => (g env st1).bind fun zs st2 => if ws.length = n ∧ zs.length = m then (F (ws ++ zs) st2).noex else .bad
theorem k_nil : PK X [] (tL (gx X) Wx fNil) := ⟨fun pos pins s σ H Q I h => pk_nil.run pos pins s σ H Q I (by
  obtain ⟨env, l, st, en, sm, p⟩ := h
  exact Po.ok p sm _ .nil)⟩
theorem k_cons {nm : Option Str} {kpos : Pos} {kws : List Keyword} {g : FA} (h1 : PE X e (tE (gx X) Wx fa)) (h2 : PK X kws (tL (gx X) Wx g)) : PK X (⟨nm, e, kpos⟩ :: kws) (tL (gx X) Wx (fCons fa g)) := ⟨fun pos pins s σ H Q I h => (pk_cons h1 h2).run pos pins s σ H Q I (by
  obtain ⟨env, l, st, en, sm, p⟩ := h
  refine ⟨env, l, st, en, sm, (Po.bind p).imp fun x l1 H1 g1 ⟨st1, sm1, _, p1⟩ vx rx => ?_⟩
  refine ⟨env, l1, st1, en.grow g1, sm1, (Po.bind p1).imp fun y l2 H2 g2 ⟨st2, sm2, _, p2⟩ vy ry => ?_⟩
  exact Po.ok p2 sm2 _ (.cons (rx.grow g2) ry))⟩
theorem e_fnK {x : Str} {f : Addr} {fd : FuncData} {ps ks : List Str} {k n : Nat} {F : FF} {g1 g2 : FA} {kws : List Keyword} (Fk : FnW X.prog X.w X.K X.mg X.base k f fd ps F) (hr : Room k X.A) (hm : X.mg x = some (.ref f)) (hk : PySem.W.keepIn X.K (.ref f) = true) (hb : KBn X.K fd ps n ks (fun us ws => us ++ ws) (fun vs zs => vs ++ zs)) (hl : ps.length = n + ks.length)
    (hx : Passes (L2.CX X.prog X.w) X (fun _ _ _ => False)) (ha : PA X (e :: es) (tL (gx X) Wx g1)) (hkw : PK X kws (tL (gx X) Wx g2)) (hg : Gl X x := by rfl) (hall : (backToKw pos (keywordEach kws X.env)).all (·.1.isSome) = true := by rfl) (hks : (backToKw pos (keywordEach kws X.env)).filterMap (·.1) = ks := by rfl)
    (hdb : (x == ("__debug__" : Str)) = false := by decide) (he : starEach (e :: es) X.env = (false, eval e X.env) :: starEach es X.env := by rfl)
    (hpl : ((backTo pos (starEach (e :: es) X.env)).any (·.1) || (backToKw pos (keywordEach kws X.env)).any (·.1.isNone)) = false := by rfl) : PE X (.Call (.Name x p) (e :: es) kws pos) (tE (gx X) Wx (fFnK n ks.length F g1 g2)) :=
  (pe_callN Fk hr hg hm hk hb hx ha hkw hall hks hdb he hpl).imp fun s H Q h => by
    obtain ⟨env, l, st, en, sm, q⟩ := h
    refine ⟨env, l, st, en, sm, (Po.bind q).imp fun ws l1 H1 gr1 ⟨st1, sm1, _, p1⟩ vs rx => ?_⟩
    refine ⟨env, l1, st1, en.grow gr1, sm1, (Po.bind p1).imp fun zs l2 H2 gr2 ⟨st2, sm2, _, p2⟩ us ry => ?_⟩
    obtain ⟨hz, p2⟩ := ite_bad p2
    refine ⟨by rw [← rx.length]; exact hz.1, by rw [← ry.length]; exact hz.2, ?_, ws ++ zs, l2, st2, (rx.grow gr2).append ry, sm2, Po.wx (s' := []) (Po.noex (s' := s) p2) fun _ _ _ q => q.elim⟩
    show (vs ++ us).length = _
    rw [List.length_append, ← rx.length, ← ry.length, hz.1, hz.2, hl]
/-- all keyword-only parameters are given -/
theorem kb_all {K : PySem.W.Frag} {x qual : Str} {params : Arguments} {body : List Stmt} {scope : Scope} {kws : List (Str × V)} {f : Addr} {fd : FuncData} {ps ks : List Str} {n : Nat} (F : FunD K x qual params body scope [] kws f fd)
    (h : ∀ (kV doc pm : Value) (an : Option Addr) (cdv ct : Value) (us ws : List Value), us.length = n → ws.length = ks.length → bindArgs (PySem.W.fnOf x qual params body scope .none kV doc pm an cdv ct) ⟨us, ks.zip ws⟩ = pure (ps.zip (us ++ ws))) :
    KBn K fd ps n ks (fun us ws => us ++ ws) (fun vs zs => vs ++ zs) := by
  obtain ⟨oc, od, dV, kV, doc, pm, an, cdv, ct, osl, rfl, lk, hcd, hD, hK⟩ := F.ex
  rcases hD with ⟨_, rfl⟩ | ⟨e, _⟩
  · exact ⟨fun s us ws _ h1 h2 => .of_eq (h kV doc pm an cdv ct us ws h1 h2), fun r1 r2 => r1.append r2⟩
  · exact absurd rfl e
/-! ### list(range(n)), tuple(range(n)), {} -/
theorem rg_rep {G : Gx} {r : List Addr} {H : Hp} {n : Int} : RepL G r H (rngW 0 n) (rgV 0 n) := by
  unfold rngW rgV
  generalize List.range (n - 0).toNat = l
  induction l with
  | nil => exact .nil
  | cons i l ih => exact .cons (.int _) ih
def fListR (f : FE) : FE := fun env st => (f env st).bind fun w st1 => match w with
  | .int n => if 0 ≤ n ∧ n ≤ 1000000 then .ok (.ref st1.length) (st1 ++ [.lst (rngW 0 n)]) else .bad
  | _ => .bad
def fTupleR (f : FE) : FE := fun env st => (f env st).bind fun w st1 => match w with
  | .int n => if 0 ≤ n ∧ n ≤ 1000000 then .ok (.tup (rngW 0 n)) st1 else .bad
  | _ => .bad
theorem e_listR {q : Pos} (hg : Gl X "list") (hm : X.mg "list" = none) (hg2 : Gl X "range") (hm2 : X.mg "range" = none) (he : PE X e (tE (gx X) Wx fa)) (hc : X.calm = true := by rfl) (na : starEach [e] X.env = (false, eval e X.env) :: starEach [] X.env := by rfl)
    (na2 : starEach [.Call (.Name "range" p) [e] [] q] X.env = (false, eval (.Call (.Name "range" p) [e] [] q) X.env) :: starEach [] X.env := by rfl) {p2 : Pos} : PE X (.Call (.Name "list" p2) [.Call (.Name "range" p) [e] [] q] [] pos) (tE (gx X) Wx (fListR fa)) :=
  (pe_listRg hc hg hm (prg_1 hg2 hm2 he na) na2).imp fun s H Q h => by
    obtain ⟨env, l, st, en, sm, q⟩ := h
    refine ⟨env, l, st, en, sm, (Po.bind q).imp fun w l1 H1 g1 ⟨st1, sm1, _, p1⟩ v rx => ?_⟩
    cases rx with
    | int n =>
      obtain ⟨hz, p1⟩ := ite_bad p1
      exact ⟨n, rfl, RgOk.of_le (by omega) (by omega) (by omega) hz.1, fun q hq => Po.newL sm1 rg_rep p1 q hq⟩
    | _ => exact p1.elim
theorem e_tupleR {q : Pos} (hg : Gl X "tuple") (hm : X.mg "tuple" = none) (hg2 : Gl X "range") (hm2 : X.mg "range" = none) (he : PE X e (tE (gx X) Wx fa)) (hc : X.calm = true := by rfl) (na : starEach [e] X.env = (false, eval e X.env) :: starEach [] X.env := by rfl)
    (na2 : starEach [.Call (.Name "range" p) [e] [] q] X.env = (false, eval (.Call (.Name "range" p) [e] [] q) X.env) :: starEach [] X.env := by rfl) {p2 : Pos} : PE X (.Call (.Name "tuple" p2) [.Call (.Name "range" p) [e] [] q] [] pos) (tE (gx X) Wx (fTupleR fa)) :=
  (pe_tupRg hc hg hm (prg_1 hg2 hm2 he na) na2).imp fun s H Q h => by
    obtain ⟨env, l, st, en, sm, q⟩ := h
    refine ⟨env, l, st, en, sm, (Po.bind q).imp fun w l1 H1 g1 ⟨st1, sm1, _, p1⟩ v rx => ?_⟩
    cases rx with
    | int n =>
      obtain ⟨hz, p1⟩ := ite_bad p1
      exact ⟨n, rfl, RgOk.of_le (by omega) (by omega) (by omega) hz.1, fun q hq => Po.newT sm1 rg_rep p1 q hq⟩
    | _ => exact p1.elim
def fDict0 : FE := fun _ st => .ok (.ref st.length) (st ++ [.dct []])
theorem e_dict0 : PE X (.Dict [] [] pos) (tE (gx X) Wx fDict0) := pe_dnewK.imp fun s H Q h => by
  obtain ⟨env, l, st, en, sm, q⟩ := h
  intro a ha
  have sy : Stay H (upd H a (.dK [])) := Stay.new ha
  refine q (l ++ [a]) _ (Grow.one sy) (sm.newU (o := .dct []) ha ⟨[], upd_same, .nil⟩) _ (.ref ?_)
  rw [List.getElem?_append_right (by rw [sm.len]; exact Nat.le_refl _), sm.len]
  simp
end
end Sw
namespace Sw
open PySem PySem.Spec PyProof.Rows L2
theorem ask_nil {P : Program} {w : World} {K : PySem.W.Frag} {mg : Str → Option Value} {base : Heap} {k n : Nat} : ∀ (y : Str) (F : FF), List.lookup y ([] : List (Str × FF)) = some F → AskOk P w K mg base k n y F := fun _ _ h => nomatch h
theorem ask_cons {P : Program} {w : World} {K : PySem.W.Frag} {mg : Str → Option Value} {base : Heap} {k n : Nat} {x : Str} {F0 : FF} {D : List (Str × FF)} (h : ∃ (f : Addr) (fd : FuncData) (ps : List Str), mg x = some (.ref f) ∧ FnW P w K mg base k f fd ps F0 ∧ PySem.W.keepIn K (.ref f) = true ∧ Binds K fd ps [] ∧ ps.length = n)
    (r : ∀ (y : Str) (F : FF), List.lookup y D = some F → AskOk P w K mg base k n y F) : ∀ (y : Str) (F : FF), List.lookup y ((x, F0) :: D) = some F → AskOk P w K mg base k n y F := fun y F e => by
  rw [List.lookup_cons] at e
  split at e
  · rename_i hb
    cases e
    have q : y = x := eq_of_beq hb
    subst q
    exact ⟨h⟩
  · exact r y F e
end Sw
namespace Sw
open PySem PySem.Spec PyProof.Rows L2
section
variable {X : Cx} {s0 : Shared} {H0 : Hp} {scope : Scope} {ce : Env} {fp : List Addr} {pos p : Pos} {e : Expr} {es : List Expr} {x : Str} {k : Nat} {f : Addr} {fd : FuncData} {ps : List Str} {F : FF} {g : FA}
/-- a call within a comprehension -/
theorem e_fnB {n : Nat} (Fk : FnW X.prog X.w X.K X.mg X.base k f fd ps F) (hr : Room k X.A) (hm : X.mg x = some (.ref f)) (hk : PySem.W.keepIn X.K (.ref f) = true) (hb : Binds X.K fd ps []) (ha : PA (X.blk s0 H0 scope ce fp) (e :: es) (tL (gx (X.blk s0 H0 scope ce fp)) W0 g)) (hl : ps.length = n := by rfl) (hg : Gl (X.blk s0 H0 scope ce fp) x := by rfl) (hdb : (x == ("__debug__" : Str)) = false := by decide)
    (he : starEach (e :: es) (X.blk s0 H0 scope ce fp).env = (false, eval e (X.blk s0 H0 scope ce fp).env) :: starEach es (X.blk s0 H0 scope ce fp).env := by rfl) (hpl : (backTo pos (starEach es (X.blk s0 H0 scope ce fp).env)).any (·.1) = false := by rfl) : PE (X.blk s0 H0 scope ce fp) (.Call (.Name x p) (e :: es) [] pos) (tE (gx (X.blk s0 H0 scope ce fp)) W0 (fFn n F g)) := by
  subst hl
  exact e_fn (X := X.blk s0 H0 scope ce fp) Fk hr hm hk hb takes0 ha hg hdb he hpl
theorem e_fnDB {n : Nat} {dvs : List V} {dws : List W} {ds : List Value} (Fk : FnW X.prog X.w X.K X.mg X.base k f fd ps F) (hr : Room k X.A) (hm : X.mg x = some (.ref f)) (hk : PySem.W.keepIn X.K (.ref f) = true) (hb : Binds X.K fd ps ds) (hd : Vals dvs ds) (hdw : ∀ r H, RepL (gx X) r H dws dvs) (ha : PA (X.blk s0 H0 scope ce fp) (e :: es) (tL (gx (X.blk s0 H0 scope ce fp)) W0 g)) (hl : ps.length = n := by rfl) (hg : Gl (X.blk s0 H0 scope ce fp) x := by rfl) (hdb : (x == ("__debug__" : Str)) = false := by decide)
    (he : starEach (e :: es) (X.blk s0 H0 scope ce fp).env = (false, eval e (X.blk s0 H0 scope ce fp).env) :: starEach es (X.blk s0 H0 scope ce fp).env := by rfl) (hpl : (backTo pos (starEach es (X.blk s0 H0 scope ce fp).env)).any (·.1) = false := by rfl) : PE (X.blk s0 H0 scope ce fp) (.Call (.Name x p) (e :: es) [] pos) (tE (gx (X.blk s0 H0 scope ce fp)) W0 (fFn n F fun env st => (g env st).bind fun ws st1 => .ok (ws ++ dws) st1)) := by
  subst hl
  exact e_fnD (X := X.blk s0 H0 scope ce fp) Fk hr hm hk hb hd hdw takes0 ha hg hdb he hpl
theorem e_fnKB {ks : List Str} {n : Nat} {g2 : FA} {kws : List Keyword} (Fk : FnW X.prog X.w X.K X.mg X.base k f fd ps F) (hr : Room k X.A) (hm : X.mg x = some (.ref f)) (hk : PySem.W.keepIn X.K (.ref f) = true) (hb : KBn X.K fd ps n ks (fun us ws => us ++ ws) (fun vs zs => vs ++ zs)) (hl : ps.length = n + ks.length)
    (hx : Passes (L2.CX X.prog X.w) (X.blk s0 H0 scope ce fp) (fun _ _ _ => False)) (ha : PA (X.blk s0 H0 scope ce fp) (e :: es) (tL (gx (X.blk s0 H0 scope ce fp)) W0 g)) (hkw : PK (X.blk s0 H0 scope ce fp) kws (tL (gx (X.blk s0 H0 scope ce fp)) W0 g2)) (hg : Gl (X.blk s0 H0 scope ce fp) x := by rfl) (hall : (backToKw pos (keywordEach kws (X.blk s0 H0 scope ce fp).env)).all (·.1.isSome) = true := by rfl) (hks : (backToKw pos (keywordEach kws (X.blk s0 H0 scope ce fp).env)).filterMap (·.1) = ks := by rfl)
    (hdb : (x == ("__debug__" : Str)) = false := by decide) (he : starEach (e :: es) (X.blk s0 H0 scope ce fp).env = (false, eval e (X.blk s0 H0 scope ce fp).env) :: starEach es (X.blk s0 H0 scope ce fp).env := by rfl)
    (hpl : ((backTo pos (starEach (e :: es) (X.blk s0 H0 scope ce fp).env)).any (·.1) || (backToKw pos (keywordEach kws (X.blk s0 H0 scope ce fp).env)).any (·.1.isNone)) = false := by rfl) : PE (X.blk s0 H0 scope ce fp) (.Call (.Name x p) (e :: es) kws pos) (tE (gx (X.blk s0 H0 scope ce fp)) W0 (fFnK n ks.length F g g2)) :=
  e_fnK (X := X.blk s0 H0 scope ce fp) Fk hr hm hk hb hl hx ha hkw hg hall hks hdb he hpl
end
section
variable {X : Cx} {Wx : WX} {pos p : Pos} {e : Expr} {es : List Expr} {x : Str} {k : Nat} {f : Addr} {fd : FuncData} {ps : List Str} {F : FF} {g : FA}
theorem e_fnN {n : Nat} (Fk : FnW X.prog X.w X.K X.mg X.base k f fd ps F) (hr : Room k X.A) (hm : X.mg x = some (.ref f)) (hk : PySem.W.keepIn X.K (.ref f) = true) (hb : Binds X.K fd ps []) (tk : Takes X Wx) (ha : PA X (e :: es) (tL (gx X) Wx g)) (hl : ps.length = n := by rfl) (hg : Gl X x := by rfl) (hdb : (x == ("__debug__" : Str)) = false := by decide)
    (he : starEach (e :: es) X.env = (false, eval e X.env) :: starEach es X.env := by rfl) (hpl : (backTo pos (starEach es X.env)).any (·.1) = false := by rfl) : PE X (.Call (.Name x p) (e :: es) [] pos) (tE (gx X) Wx (fFn n F g)) := by
  subst hl
  exact e_fn Fk hr hm hk hb tk ha hg hdb he hpl
theorem e_fnDN {n : Nat} {dvs : List V} {dws : List W} {ds : List Value} (Fk : FnW X.prog X.w X.K X.mg X.base k f fd ps F) (hr : Room k X.A) (hm : X.mg x = some (.ref f)) (hk : PySem.W.keepIn X.K (.ref f) = true) (hb : Binds X.K fd ps ds) (hd : Vals dvs ds) (hdw : ∀ r H, RepL (gx X) r H dws dvs) (tk : Takes X Wx) (ha : PA X (e :: es) (tL (gx X) Wx g)) (hl : ps.length = n := by rfl) (hg : Gl X x := by rfl) (hdb : (x == ("__debug__" : Str)) = false := by decide)
    (he : starEach (e :: es) X.env = (false, eval e X.env) :: starEach es X.env := by rfl) (hpl : (backTo pos (starEach es X.env)).any (·.1) = false := by rfl) : PE X (.Call (.Name x p) (e :: es) [] pos) (tE (gx X) Wx (fFn n F fun env st => (g env st).bind fun ws st1 => .ok (ws ++ dws) st1)) := by
  subst hl
  exact e_fnD Fk hr hm hk hb hd hdw tk ha hg hdb he hpl
end
end Sw
/-! Sw12: a, b, *c = a list or a tuple; x += a tuple, a text; int(text); xs.count(x); module's dicts. -/
namespace Sw
open PySem PySem.Spec PyProof.Rows L2
section
variable {prog : Program} {w : World} {A : Around} {E : Value → Shared → Prop} {s : Shared}
/-- i heads, the rest a new list -/
theorem star_L {l : Addr} {items : Array Value} {i : Nat} {Q : List Value → Shared → Prop} (hh : A.handled = none) (hl : s.heap.IsList l items) (hi : i ≤ items.size) (hz : items.size ≤ sizeLine)
    (hQ : ∀ h' p tk, (∀ b o, s.heap.get? b = some o → h'.get? b = some o) → s.heap.get? p = none → h'.get? p = some { cls := .type "list", data := .seq (items.toList.drop i).toArray } → Q (items.toList.take i ++ [.ref p]) { s with heap := h', toks := tk }) :
    wpAny (model prog w) A (unpackItems (.ref l) (i + 1) (some i)) Q E s := by
  have hlt : l ≠ s.heap.objs.size := by obtain ⟨o, ho, _⟩ := hl; exact Nat.ne_of_lt (Heap.lt_size ho)
  unfold unpackItems
  refine wpAny_bind ?_
  unfold notIterableAtAll
  refine wpAny_bind (wpAny_specialOf hl.typeIs slot_list_iter.lookup ?_)
  refine wpAny_pure ?_
  simp only [Bool.false_eq_true, if_false]
  refine wpAny_bind (wpAny_holding (wpAny_pyIter_list hl ?_))
  refine wpAny_bind (wpAny_holding (PySem.W.kun_draw hlt i 0 _ _ ⟨_, Heap.get?_push_size _ rfl, rfl, rfl⟩ (hl.push _) (by omega) fun h₁ hit₁ hs₁ => ?_))
  have hl₁ : h₁.IsList l items := (hl.push _).extBut hs₁.extBut hlt
  rw [Nat.zero_add] at hit₁
  have hit₁' := hit₁
  obtain ⟨oi, hoi, _⟩ := hit₁'
  have hl₁' := hl₁
  obtain ⟨ol, hol, _⟩ := hl₁'
  rw [List.drop_zero]
  have hfl : (items.toList.take i).length = i := by rw [List.length_take, Array.length_toList]; omega
  rw [if_neg (show ¬ ((items.toList.take i).length < i) by rw [hfl]; omega)]
  refine wpAny_bind (wpAny_holding (PySem.W.kun_collect (s := { s with heap := h₁ }) (T := "list_iterator") (.inr (.inr (.inl rfl))) (Walks.list (A := A.in1) hh s.heap.objs.size l hlt items) (fun j u st => st.1.typeIs) (k := i) (by omega) ⟨hit₁, hl₁⟩ (Heap.lt_size hoi) (Heap.lt_size hol) (fun h₂ tk hk => ?_) (by omega)))
  have hrl : (items.toList.drop i).length = items.size - i := by rw [List.length_drop, Array.length_toList]
  have hmid : (items.toList.drop i).length - (i + 1 - 1 - i) = items.size - i := by rw [hrl]; omega
  show wpAny _ _ (if (items.toList.drop i).length < i + 1 - 1 - i then _ else _) _ _ _
  rw [if_neg (by rw [hrl]; omega)]
  show wpAny _ _ (newList ((items.toList.drop i).take ((items.toList.drop i).length - (i + 1 - 1 - i))) >>= fun d => pure (items.toList.take i ++ [d] ++ (items.toList.drop i).drop ((items.toList.drop i).length - (i + 1 - 1 - i)))) _ _ _
  rw [hmid]
  have e1 : (items.toList.drop i).take (items.size - i) = items.toList.drop i := List.take_of_length_le (by rw [hrl]; omega)
  have e2 : (items.toList.drop i).drop (items.size - i) = [] := List.drop_eq_nil_of_le (by rw [hrl]; omega)
  rw [e1, e2]
  have up2 : ∀ b o, s.heap.get? b = some o → h₂.get? b = some o := fun b o e => hk b o (Nat.ne_of_lt (Heap.lt_size e)) (hs₁.extBut b o (Nat.ne_of_lt (Heap.lt_size e)) (Heap.get?_push_of_some _ e))
  have szle : s.heap.get? h₂.objs.size = none := by
    cases e : s.heap.get? h₂.objs.size with
    | none => rfl
    | some o => exact absurd (Heap.lt_size (up2 _ o e)) (Nat.lt_irrefl _)
  refine wpAny_bind (wpAny_newList ?_ (by rw [hrl]; omega))
  refine wpAny_pure ?_
  rw [List.append_nil]
  exact hQ _ _ tk (fun b o e => Heap.get?_push_of_some _ (up2 b o e)) szle (Heap.get?_push_size _ rfl)
theorem star_T {l : Addr} {items : Array Value} {i : Nat} {Q : List Value → Shared → Prop} (hh : A.handled = none) (hl : IsTup s.heap l items) (hi : i ≤ items.size) (hz : items.size ≤ sizeLine)
    (hQ : ∀ h' p tk, (∀ b o, s.heap.get? b = some o → h'.get? b = some o) → s.heap.get? p = none → h'.get? p = some { cls := .type "list", data := .seq (items.toList.drop i).toArray } → Q (items.toList.take i ++ [.ref p]) { s with heap := h', toks := tk }) :
    wpAny (model prog w) A (unpackItems (.ref l) (i + 1) (some i)) Q E s := by
  have hlt : l ≠ s.heap.objs.size := by obtain ⟨o, ho, _⟩ := hl; exact Nat.ne_of_lt (Heap.lt_size ho)
  unfold unpackItems
  refine wpAny_bind ?_
  unfold notIterableAtAll
  refine wpAny_bind (wpAny_specialOf hl.typeIs slot_tuple_iter.lookup ?_)
  refine wpAny_pure ?_
  simp only [Bool.false_eq_true, if_false]
  refine wpAny_bind (wpAny_holding (iter_tuple hl ?_))
  refine wpAny_bind (wpAny_holding (draw_tuple hlt i 0 _ _ ⟨_, Heap.get?_push_size _ rfl, rfl, rfl⟩ (hl.push _) (by omega) fun h₁ hit₁ hs₁ => ?_))
  have hl₁ : IsTup h₁ l items := (hl.push _).extBut hs₁.extBut hlt
  rw [Nat.zero_add] at hit₁
  have hit₁' := hit₁
  obtain ⟨oi, hoi, _⟩ := hit₁'
  have hl₁' := hl₁
  obtain ⟨ol, hol, _⟩ := hl₁'
  rw [List.drop_zero]
  have hfl : (items.toList.take i).length = i := by rw [List.length_take, Array.length_toList]; omega
  rw [if_neg (show ¬ ((items.toList.take i).length < i) by rw [hfl]; omega)]
  refine wpAny_bind (wpAny_holding (PySem.W.kun_collect (s := { s with heap := h₁ }) (T := "tuple_iterator") (.inr (.inr (.inr rfl))) (Walks.tuple (A := A.in1) hh s.heap.objs.size l hlt items) (fun j u st => st.1.typeIs) (k := i) (by omega) ⟨hit₁, hl₁⟩ (Heap.lt_size hoi) (Heap.lt_size hol) (fun h₂ tk hk => ?_) (by omega)))
  have hrl : (items.toList.drop i).length = items.size - i := by rw [List.length_drop, Array.length_toList]
  have hmid : (items.toList.drop i).length - (i + 1 - 1 - i) = items.size - i := by rw [hrl]; omega
  show wpAny _ _ (if (items.toList.drop i).length < i + 1 - 1 - i then _ else _) _ _ _
  rw [if_neg (by rw [hrl]; omega)]
  show wpAny _ _ (newList ((items.toList.drop i).take ((items.toList.drop i).length - (i + 1 - 1 - i))) >>= fun d => pure (items.toList.take i ++ [d] ++ (items.toList.drop i).drop ((items.toList.drop i).length - (i + 1 - 1 - i)))) _ _ _
  rw [hmid]
  have e1 : (items.toList.drop i).take (items.size - i) = items.toList.drop i := List.take_of_length_le (by rw [hrl]; omega)
  have e2 : (items.toList.drop i).drop (items.size - i) = [] := List.drop_eq_nil_of_le (by rw [hrl]; omega)
  rw [e1, e2]
  have up2 : ∀ b o, s.heap.get? b = some o → h₂.get? b = some o := fun b o e => hk b o (Nat.ne_of_lt (Heap.lt_size e)) (hs₁.extBut b o (Nat.ne_of_lt (Heap.lt_size e)) (Heap.get?_push_of_some _ e))
  have szle : s.heap.get? h₂.objs.size = none := by
    cases e : s.heap.get? h₂.objs.size with
    | none => rfl
    | some o => exact absurd (Heap.lt_size (up2 _ o e)) (Nat.lt_irrefl _)
  refine wpAny_bind (wpAny_newList ?_ (by rw [hrl]; omega))
  refine wpAny_pure ?_
  rw [List.append_nil]
  exact hQ _ _ tk (fun b o e => Heap.get?_push_of_some _ (up2 b o e)) szle (Heap.get?_push_size _ rfl)
end
theorem Vals.take : ∀ {xs : List V} {us : List Value} (n : Nat), Vals xs us → Vals (xs.take n) (us.take n)
  | _, _, 0, _ => .nil
  | _, _, _ + 1, .nil => .nil
  | _, _, n + 1, .cons h k => .cons h (Vals.take n k)
theorem Vals.drop : ∀ {xs : List V} {us : List Value} (n : Nat), Vals xs us → Vals (xs.drop n) (us.drop n)
  | _, _, 0, k => k
  | _, _, _ + 1, .nil => .nil
  | _, _, n + 1, .cons _ k => Vals.drop n k
def gStarV (K : PySem.W.Frag) (i : Nat) (t : TGs) : TG := fun v σ H Q => ∃ a xs, v = .ref a ∧ (SqL K H a xs ∨ SqT K H a xs) ∧ i ≤ xs.length ∧ ∀ p, H p = none → t (xs.take i ++ [.ref p]) σ (upd H p (.lst (xs.drop i))) Q
theorem pg_starV {X : Cx} {es es' : List Expr} {k i : Nat} {pos : Pos} {t : TGs} (hc : X.calm = true) (h : PGs X es' t) (hm : (assignEach es X.env).map (·.2) = (assignEach es' X.env).map (·.2) := by rfl)
    (hn : (assignEach es X.env).length = i + 1 := by rfl) (hst : (assignEach es X.env).findIdx? (·.1) = some i := by rfl) : PG X (.Tuple es k pos) (gStarV X.K i t) := by
  refine ⟨fun pins s σ H v u Q I r hw => ?_⟩
  obtain ⟨a, xs, e1, hq, hi, hw⟩ := hw
  subst e1
  cases r
  have go : ∀ (its : List Value), Vals xs its → its.length ≤ sizeLine → (∀ (A : Around) (E : Value → Shared → Prop) (Q2 : List Value → Shared → Prop), A.handled = none → (∀ h' p tk, (∀ b o, s.heap.get? b = some o → h'.get? b = some o) → s.heap.get? p = none → h'.get? p = some { cls := .type "list", data := .seq (its.drop i).toArray } → Q2 (its.take i ++ [.ref p]) { s with heap := h', toks := tk }) →
      wpAny (model X.prog X.w) A (unpackItems (.ref a) (i + 1) (some i)) Q2 E s) → wpAny (model X.prog X.w) X.A (assign (.Tuple es k pos) X.env (.ref a)) (fun _ s' => ∃ σ' H', L2.Inv X pins σ' H' s' ∧ Q σ' H') X.xe s := fun its rv hz un => by
    rw [PyProof.Rows.assign_Tuple]
    refine wpAny_bind (wpAny_standAt ?_)
    unfold unpack
    rw [hn, hst]
    refine wpAny_bind (wpAny_holding (un _ _ _ (I.ok.hd hc) fun h' p tk kp hp hn2 => ?_))
    have hH : H p = none := I.hok.gone hp
    have I1 : Inv X pins σ (upd H p (.lst (xs.drop i))) { s with heap := h', toks := tk } := I.laidN kp hp hH (show ObjOk X.prog X.w _ _ _ (.lst (xs.drop i)) from ⟨by
      have := rv.length
      rw [List.length_drop]
      omega, its.drop i, 0, Vals.drop i rv, hn2⟩)
    rw [hm]
    exact h.run pins _ σ _ (xs.take i ++ [.ref p]) _ Q I1 ((Vals.take i rv).append (show Vals [V.ref p] [Value.ref p] from .cons rfl .nil)) (hw p hH)
  rcases hq with hq | hq
  · obtain ⟨its, rv, pl, hz⟩ := I.list hq
    have hl := rv.length
    refine go its rv (by omega) fun A E Q2 hh hQ => ?_
    exact star_L hh pl.isList (by simp; omega) (by simp; omega) (by simpa using hQ)
  · obtain ⟨its, rv, pl, hz⟩ := I.tuple hq
    have hl := rv.length
    refine go its rv (by omega) fun A E Q2 hh hQ => ?_
    exact star_T hh pl (by simp; omega) (by simp; omega) (by simpa using hQ)

/-! ### the rules -/
section
variable {X : Cx} {Wx : WX} {pos p : Pos} {a b c e : Expr} {fa fb fc : FE} {es : List Expr}
def gStarN (i : Nat) (gs : FGs) : FG := fun w env st => match getS st w with
  | some l => if i ≤ l.length then gs (l.take i ++ [.ref st.length]) env (st ++ [.lst (l.drop i)]) else .bad
  | _ => .bad
theorem g_starN {es' : List Expr} {k i : Nat} {gs : FGs} (h : PGs X es' (tGs (gx X) gs)) (hc : X.calm = true := by rfl) (hm : (assignEach es X.env).map (·.2) = (assignEach es' X.env).map (·.2) := by rfl)
    (hn : (assignEach es X.env).length = i + 1 := by rfl) (hst : (assignEach es X.env).findIdx? (·.1) = some i := by rfl) : PG X (.Tuple es k pos) (tG (gx X) (gStarN i gs)) := by
  refine ⟨fun pins s σ H v u Q I r hw => (pg_starV hc h hm hn hst).run pins s σ H v u Q I r ?_⟩
  obtain ⟨w, env, l, st, rw', en, sm, p⟩ := hw
  simp only [gStarN] at p
  cases e : getS st w with
  | none => rw [e] at p; exact p.elim
  | some ws =>
    rw [e] at p
    obtain ⟨hi, p⟩ := spo_ite p
    obtain ⟨a, vs, rfl, hq, kk⟩ := getS_rep sm rw' e
    refine ⟨a, vs, rfl, hq, by rw [← kk.length]; exact hi, fun q hn => ?_⟩
    have sy : Stay H (upd H q (.lst (vs.drop i))) := Stay.new hn
    have gr : Grow l H (l ++ [q]) (upd H q (.lst (vs.drop i))) := Grow.one sy
    refine ⟨_, env, l ++ [q], st ++ [.lst (ws.drop i)], ((kk.take i).grow gr).append (.cons (.ref ?_) .nil), en.grow gr, sm.newU (o := .lst (ws.drop i)) hn ⟨_, upd_same, (kk.drop i).grow gr⟩, SPo.grow gr p⟩
    rw [List.getElem?_append_right (by rw [sm.len]; exact Nat.le_refl _), sm.len]
    simp
/-! ### a, b = a list or a tuple -/
def gSeqN (n : Nat) (gs : FGs) : FG := fun w env st => match getS st w with
  | some l => if l.length = n then gs l env st else .bad
  | _ => .bad
theorem g_seqN {k : Nat} {g : FGs} {n : Nat} (h : PGs X es (tGs (gx X) g)) (hc : X.calm = true := by rfl) (hn : (assignEach es X.env).length = n := by rfl) (hst : (assignEach es X.env).findIdx? (·.1) = none := by rfl) : PG X (.Tuple es k pos) (tG (gx X) (gSeqN n g)) := by
  refine ⟨fun pins s σ H v u Q I r hw => ?_⟩
  obtain ⟨w, env, l, st, rw', en, sm, p⟩ := hw
  simp only [gSeqN] at p
  cases e : getS st w with
  | none => rw [e] at p; exact p.elim
  | some ws =>
    rw [e] at p
    obtain ⟨hl, p⟩ := spo_ite p
    obtain ⟨a, vs, rfl, hq, kk⟩ := getS_rep sm rw' e
    have hl2 : vs.length = n := by rw [← kk.length]; exact hl
    rcases hq with hq | hq
    · exact (pg_unl hc h hn hst).run pins s σ H _ u Q I r ⟨a, vs, rfl, hq, hl2, ws, env, l, st, kk, en, sm, p⟩
    · exact (pg_tup hc h hn hst).run pins s σ H _ u Q I r ⟨a, vs, rfl, hq, hl2, ws, env, l, st, kk, en, sm, p⟩
/-! ### x += y -/
theorem noI_tuple_add : typeLookup (.type "tuple") (dunderI "add") = pure none := by rw [typeLookup_type, builtinLookup_eq_fast]; kernel_rfl
theorem icat_tup {prog : Program} {w : World} {A : Around} {E : Value → Shared → Prop} {s : Shared} {t b : Addr} {vs us : List Value} {Q : Value → Shared → Prop} (ht : IsTup s.heap t vs.toArray) (hb : IsTup s.heap b us.toArray)
    (h0 : vs = [] → Q (.ref b) s) (h1 : vs ≠ [] → us = [] → Q (.ref t) s) (h2 : vs ≠ [] → us ≠ [] → Q (.ref s.heap.objs.size) { s with heap := s.heap.push { cls := .type "tuple", data := .seq (vs ++ us).toArray } })
    (hsz : vs.length + us.length ≤ sizeLine) : wpAny (model prog w) A (inplaceOp .Add (.ref t) (.ref b)) Q E s := by
  obtain ⟨⟨cls, dd, data, sl⟩, ho, hc, n, hd⟩ := id ht
  obtain ⟨⟨cls2, dd2, data2, sl2⟩, ho2, hc2, n2, hd2⟩ := id hb
  simp only at hc hd hc2 hd2
  subst hc hd hc2 hd2
  have e : vs.toArray ++ us.toArray = (vs ++ us).toArray := by simp
  by_cases hv : vs = []
  · exact inplaceOp_concat ⟨_, ho, rfl⟩ ⟨_, ho2, rfl⟩ noI_tuple_add noFill_tuple_add seq_tuple_add (call_meets PySem.F.slot_tuple_add ⟨_, ho, rfl⟩ PySem.F.entry_tuple_add (PySem.F.args_tuple_add_2 _ _)
      (tuple_addW0 t b vs.toArray us.toArray n n2 dd dd2 sl sl2 (by simp [hv])) ⟨ho, ho2, h0 hv⟩)
  · by_cases hw : us = []
    · exact inplaceOp_concat ⟨_, ho, rfl⟩ ⟨_, ho2, rfl⟩ noI_tuple_add noFill_tuple_add seq_tuple_add (call_meets PySem.F.slot_tuple_add ⟨_, ho, rfl⟩ PySem.F.entry_tuple_add (PySem.F.args_tuple_add_2 _ _)
        (tuple_addW1 t b vs.toArray us.toArray n n2 dd dd2 sl sl2 (by simpa using hv) (by simp [hw])) ⟨ho, ho2, h1 hv hw⟩)
    · refine inplaceOp_concat ⟨_, ho, rfl⟩ ⟨_, ho2, rfl⟩ noI_tuple_add noFill_tuple_add seq_tuple_add (call_meets PySem.F.slot_tuple_add ⟨_, ho, rfl⟩ PySem.F.entry_tuple_add (PySem.F.args_tuple_add_2 _ _)
        (tuple_addW2 t b vs.toArray us.toArray n n2 dd dd2 sl sl2 (by simpa using hv) (by simpa using hw) (by rw [List.size_toArray, List.size_toArray]; exact hsz)) ⟨ho, ho2, ?_⟩)
      rw [e]
      exact h2 hv hw
theorem iop_catA : OpR X (inplaceOp .Add) (rCatA X.K) := by
  intro pins s σ H x y v u Q I rx ry h
  obtain ⟨a, b, xs, ys, rfl, rfl, ha, hb, hz, q0, q1, q2⟩ := h
  cases rx
  cases ry
  obtain ⟨its, r1, p1, _⟩ := I.tuple ha
  obtain ⟨its2, r2, p2, _⟩ := I.tuple hb
  refine icat_tup p1 p2 (fun z => ⟨.ref b, H, I, rfl, q0 (r1.nil_iff.mp z)⟩) (fun z1 z => ⟨.ref a, H, I, rfl, q1 (fun w => z1 (r1.nil_iff.mpr w)) (r2.nil_iff.mp z)⟩) (fun z1 z => ?_) (by rw [← r1.length, ← r2.length]; exact hz)
  refine ⟨.ref s.heap.objs.size, _, I.laid (t' := s.toks) (o := .tup (xs ++ ys)) (fun b ob q => Heap.get?_push_of_some _ q) (Nat.le_refl _) ?_, rfl, q2 (fun w => z1 (r1.nil_iff.mpr w)) (fun w => z (r2.nil_iff.mpr w)) _ (I.hok.fresh (Nat.le_refl _))⟩
  exact ⟨by rw [List.length_append]; exact hz, _, r1.append r2, IsTup.new _ _⟩
def rAddG (K : PySem.W.Frag) : R2 := fun x y H Q => rI0 (fun i j => .int (i + j)) x y H Q ∨ (∃ i j, x = .str i ∧ y = .str j ∧ i.length + j.length ≤ sizeLine ∧ Q (.str (i ++ j)) H) ∨ rCatA K x y H Q
theorem iop_addG : OpR X (inplaceOp .Add) (rAddG X.K) := iop_add.or (iop_add_str.or iop_catA)
def wAddG : W → W → Sto → An W
  | .int i, .int j, st => .ok (.int (i + j)) st
  | .str i, .str j, st => if i.length + j.length ≤ sizeLine then .ok (.str (i ++ j)) st else .bad
  | .tup a, .tup b, st => if a.length + b.length ≤ sizeLine then .ok (.tup (a ++ b)) st else .bad
  | _, _, _ => .bad
theorem rf_addG {G : Gx} : OpRf G (rAddG G.K) wAddG := by
  intro x y st l H vx vy Q Wx s sm rx ry p
  cases rx with
  | int i =>
    cases ry with
    | int j => exact .inl ⟨i, j, rfl, rfl, Po.ok p sm _ (.int _)⟩
    | _ => exact p.elim
  | str i =>
    cases ry with
    | str j =>
      obtain ⟨hz, p⟩ := ite_bad p
      exact .inr (.inl ⟨i, j, rfl, rfl, hz, Po.ok p sm _ (.str _)⟩)
    | _ => exact p.elim
  | @tup la a xs ha ka =>
    cases ry with
    | @tup lb b ys hb kb =>
      obtain ⟨hz, p⟩ := ite_bad p
      refine .inr (.inr ⟨a, b, xs, ys, rfl, rfl, ha, hb, by rw [← ka.length, ← kb.length]; exact hz, fun e => ?_, fun e1 e2 => ?_, fun _ _ => Po.newT sm (ka.append kb) p⟩)
      · subst e
        cases ka
        exact Po.ok p sm _ (.tup hb kb)
      · subst e2
        cases kb
        exact Po.ok p sm _ (.tup ha (by rw [List.append_nil]; exact ka))
    | _ => exact p.elim
  | _ => cases ry <;> exact p.elim
/-! ### int(text), xs.count(x) -/
def wIntS : List W → Sto → An W
  | [.str z], st => if z.length ≤ 640 then (match PySem.intText? z with
    | some n => .ok (.int n) st
    | none => .bad) else .bad
  | [.int i], st => .ok (.int i) st
  | [.bl k], st => .ok (.int (if k then 1 else 0)) st
  | _, _ => .bad
theorem intS_rep {G : Gx} : CaRf G (fun xs H Q => ((∃ i, xs = [.int i] ∧ Q (.int i) H) ∨ ∃ k, xs = [.bl k] ∧ Q (.int (if k then 1 else 0)) H) ∨ ∃ a n, xs = [.str a] ∧ PySem.intText? a = some n ∧ a.length ≤ 640 ∧ Q (.int n) H) wIntS := by
  intro ws st l H vs Q Wx s sm k p
  cases k with
  | nil => exact p.elim
  | cons h k =>
    cases k with
    | nil =>
      cases h with
      | int i => exact .inl (.inl ⟨_, rfl, Po.ok p sm _ (.int _)⟩)
      | bl i => exact .inl (.inr ⟨_, rfl, Po.ok p sm _ (.int _)⟩)
      | str z =>
        simp only [wIntS] at p
        obtain ⟨hz, p⟩ := ite_bad p
        cases e : PySem.intText? z with
        | none => rw [e] at p; exact p.elim
        | some n => rw [e] at p; exact .inr ⟨z, n, rfl, e, hz, Po.ok p sm _ (.int _)⟩
      | _ => exact p.elim
    | cons h2 k => cases h <;> exact p.elim
theorem cr_intS : CallR X (.type "int") (fun xs H Q => ((∃ i, xs = [.int i] ∧ Q (.int i) H) ∨ ∃ k, xs = [.bl k] ∧ Q (.int (if k then 1 else 0)) H) ∨ ∃ a n, xs = [.str a] ∧ PySem.intText? a = some n ∧ a.length ≤ 640 ∧ Q (.int n) H) := call_int1.or call_int_str
/-! ### xs.count(x), flat items -/
theorem countP_eqU {x : V} : ∀ {xs : List V} {us : List Value}, Vals xs us → xs.all flatV = true → us.countP (eqU x) = xs.countP fun y => eqV y x
  | _, _, .nil, _ => rfl
  | y :: xs, u :: us, .cons r t, f => by
    rw [List.all_cons, Bool.and_eq_true] at f
    rw [List.countP_cons, List.countP_cons, eqU_of r f.1, countP_eqU t f.2]
def rCntF (K : PySem.W.Frag) : V → List V → Hp → VK → Prop := fun x xs H Q => ∃ (p : Addr) (ys : List V) (y : V), x = .ref p ∧ xs = [y] ∧ SqL K H p ys ∧ flatV y = true ∧ ys.all flatV = true ∧ Q (.int ((ys.countP fun z => eqV z y : Nat) : Int)) H
theorem mt_countF : MtR X "list.count" (rCntF X.K) := by
  intro pins s σ H x xs v us Q I rx rxs h
  obtain ⟨p, ys, y, rfl, rfl, hs, fy, fys, q⟩ := h
  cases rx
  obtain ⟨u, rfl, ru⟩ := rxs.one
  obtain ⟨its, rv, ⟨⟨cls, dd, data, sl⟩, n, ho, hc, hdn, hd⟩, hlen⟩ := I.list hs
  simp only at hc hd
  subst hc hd
  refine call_meets PySem.F.slot_list_count ⟨_, ho, rfl⟩ PySem.F.entry_list_count (PySem.F.args_list_count_2 _ _)
    (SeqAt.list_countAt p its.toArray n dd sl u (eqU y)) ⟨ho, fun z hz => mem_eqAt ru fy rv fys z (by simpa using hz), ?_⟩
  have ec : its.toArray.toList.countP (eqU y) = ys.countP fun z => eqV z y := by
    rw [show its.toArray.toList = its by simp]
    exact countP_eqU rv fys
  refine ⟨.int ((ys.countP fun z => eqV z y : Nat) : Int), H, I.tok _, ⟨s.toks, ?_⟩, q⟩
  rw [← ec]
def wCnt : W → List W → Sto → An W
  | x, [y], st => match getL st x with
    | some l => if flatW y = true ∧ l.all flatW = true then .ok (.int ((l.countP fun z => eqFW z y : Nat) : Int)) st else .bad
    | none => .bad
  | _, _, _ => .bad
theorem countF_rep {G : Gx} {r : List Addr} {H : Hp} {x : W} {v : V} (h : Rep G r H x v) : ∀ {l : List W} {vs : List V}, RepL G r H l vs → (vs.countP fun y => eqV y v) = l.countP fun y => eqFW y x
  | _, _, .nil => rfl
  | _, _, .cons h1 k => by rw [List.countP_cons, List.countP_cons, eqF_rep h1 h, countF_rep h k]
theorem rf_count {G : Gx} : MtRf G (rCntF G.K) wCnt := by
  intro o ws st l H vo vs Q Wx s sm ro k p
  cases k with
  | nil => exact p.elim
  | cons h1 k =>
    cases k with
    | cons _ _ => exact p.elim
    | nil =>
      rename_i y v
      simp only [wCnt] at p
      cases e : getL st o with
      | none => rw [e] at p; exact p.elim
      | some lw =>
        rw [e] at p
        obtain ⟨hz, p⟩ := ite_bad p
        obtain ⟨a, ys, rfl, hq, kk⟩ := getL_rep sm ro e
        refine ⟨a, ys, v, rfl, rfl, hq, by rw [flat_rep h1]; exact hz.1, by rw [flats_rep kk]; exact hz.2, ?_⟩
        rw [countF_rep h1 kk]
        exact Po.ok p sm _ (.int _)
theorem e_count {o : Expr} {g : FA} {apos cpos : Pos} (ho : PE X o (tE (gx X) Wx fa)) (ha : PA X (e :: es) (tL (gx X) Wx g)) (hbase : attributeBase o "count" X.env (eval o X.env) = eval o X.env := by rfl)
    (hfew : ((backTo cpos (starEach (e :: es) X.env)).all (fun x => !x.1) && (backToKw cpos (keywordEach [] X.env)).all (fun x => x.1.isSome)
      && decide ((e :: es).length + ([] : List Keyword).length + (if ([] : List Keyword).isEmpty then 0 else 1) < 30)) = true := by rfl)
    (hline : (apos.endLine == cpos.line) = true := by rfl) (hs : starEach (e :: es) X.env = (false, eval e X.env) :: starEach es X.env := by rfl) (hplain : (backTo cpos (starEach es X.env)).any (·.1) = false := by rfl) :
    PE X (.Call (.Attribute o "count" apos) (e :: es) [] cpos) (tE (gx X) Wx (fMt isLst wCnt fa g)) :=
  (pe_bm PySem.F.plainAttrs_list PySem.F.slot_list_count PySem.F.type_list_count mt_countF ho ha hbase hfew hline hs hplain).imp fun s H Q h => mt_imp isLst_rep rf_count h
/-! ### a, b = x, y -/
def fPar2 (i j : Nat) (f : FA) : FS := fun env st => (f env st).toS env fun ws st1 => match ws with
  | [x, y] => .nx ((env.set i (some x)).set j (some y)) st1
  | _ => .bad
theorem s_par2 {i j : Nat} {x y : Str} {px py pt : Pos} {kt k2 pt2} {f : FA} (hN : X.N.Nodup) (ha : PA X [a, b] (tL (gx X) Wx f)) (hc : X.calm = true := by rfl) (hi : X.N[i]? = some x := by rfl) (hj : X.N[j]? = some y := by rfl) (hij : i ≠ j := by decide)
    (hx : X.env.scope.names.lookup x = some .local := by rfl) (hy : X.env.scope.names.lookup y = some .local := by rfl)
    (hw : swappedStores [.Tuple [.Name x px, .Name y py] kt pt] (.Tuple [a, b] k2 pt2) X.env = pure (some [x, y]) := by rfl)
    (hs : swapsWithSole [.Tuple [.Name x px, .Name y py] kt pt] (.Tuple [a, b] k2 pt2) pos.line X.env = pure false := by rfl) :
    PS X (.Assign [.Tuple [.Name x px, .Name y py] kt pt] (.Tuple [a, b] k2 pt2) pos) (tS (gx X) Wx (fPar2 i j f)) := (ps_par hc hN hi hj hij hx hy ha hw hs).imp fun D s H h => by
  obtain ⟨env, l, st, en, sm, p⟩ := h
  refine ⟨env, l, st, en, sm, (SPo.toS en p).imp fun ws l1 H1 g1 ⟨st1, sm1, _, p1⟩ vs rx => ?_⟩
  cases rx with
  | nil => exact p1.elim
  | cons h1 k =>
    cases k with
    | nil => exact p1.elim
    | cons h2 k =>
      cases k with
      | cons _ _ => exact p1.elim
      | nil => exact ⟨_, _, rfl, p1 l1 H1 _ (Grow.refl l1 H1) sm1 (((en.grow g1).set h1).set h2)⟩
def fPar3 (i j m : Nat) (f : FA) : FS := fun env st => (f env st).toS env fun ws st1 => match ws with
  | [x, y, z] => .nx (((env.set i (some x)).set j (some y)).set m (some z)) st1
  | _ => .bad
theorem s_par3 {i j m : Nat} {x y z : Str} {px py pz pt : Pos} {kt k2 pt2} {f : FA} (hN : X.N.Nodup) (ha : PA X [a, b, c] (tL (gx X) Wx f)) (hc : X.calm = true := by rfl) (hi : X.N[i]? = some x := by rfl) (hj : X.N[j]? = some y := by rfl) (hm : X.N[m]? = some z := by rfl) (hij : i ≠ j := by decide) (him : i ≠ m := by decide) (hjm : j ≠ m := by decide)
    (hx : X.env.scope.names.lookup x = some .local := by rfl) (hy : X.env.scope.names.lookup y = some .local := by rfl) (hz : X.env.scope.names.lookup z = some .local := by rfl)
    (hw : swappedStores [.Tuple [.Name x px, .Name y py, .Name z pz] kt pt] (.Tuple [a, b, c] k2 pt2) X.env = pure (some [x, y, z]) := by rfl)
    (hs : swapsWithSole [.Tuple [.Name x px, .Name y py, .Name z pz] kt pt] (.Tuple [a, b, c] k2 pt2) pos.line X.env = pure false := by rfl) :
    PS X (.Assign [.Tuple [.Name x px, .Name y py, .Name z pz] kt pt] (.Tuple [a, b, c] k2 pt2) pos) (tS (gx X) Wx (fPar3 i j m f)) := (ps_par3 hc hN hi hj hm hij him hjm hx hy hz ha hw hs).imp fun D s H h => by
  obtain ⟨env, l, st, en, sm, p⟩ := h
  refine ⟨env, l, st, en, sm, (SPo.toS en p).imp fun ws l1 H1 g1 ⟨st1, sm1, _, p1⟩ vs rx => ?_⟩
  cases rx with
  | nil => exact p1.elim
  | cons h1 k =>
    cases k with
    | nil => exact p1.elim
    | cons h2 k =>
      cases k with
      | nil => exact p1.elim
      | cons h3 k =>
        cases k with
        | cons _ _ => exact p1.elim
        | nil => exact ⟨_, _, _, rfl, p1 l1 H1 _ (Grow.refl l1 H1) sm1 ((((en.grow g1).set h1).set h2).set h3)⟩
/-! ### a dict of the module's top -/
structure KTab (K : PySem.W.Frag) (w : World) (mg : Str → Option Value) (x : Str) (D : List (Str × W)) : Prop where
  at_ : ∃ d es n, mg x = some (.ref d) ∧ KDict K w d es n ∧ ∀ z : Str, match D.lookup z with
    | some y => ∃ u v, PySem.W.nsIn K d z = some (some u) ∧ RelV v u ∧ ∀ r H, Rep ⟨K, mg⟩ r H y v
    | none => PySem.W.nsIn K d z = some none
def wInK (x : Str) (D : List (Str × W)) (neg : Bool) : W → W → Sto → Option Bool
  | .str z, .gl y, _ => if y = x then some (if neg then !(D.lookup z).isSome else (D.lookup z).isSome) else none
  | _, _, _ => none
def rInK (K : PySem.W.Frag) (w : World) (neg : Bool) : R2 := fun vx vy H Q => ∃ d es n z r, KDict K w d es n ∧ vx = .str z ∧ vy = .ref d ∧ PySem.W.nsIn K d z = some r ∧ Q (.bl (if neg then !r.isSome else r.isSome)) H
theorem op_inK : OpR X (compareOp .In) (rInK X.K X.w false) := by
  intro pins s σ H x y v u Q I rx ry h
  obtain ⟨d, es, n, z, r, D, e1, e2, e3, q⟩ := h
  exact op_in_kd D pins s σ H x y v u Q I rx ry ⟨z, r, e1, e2, e3, q⟩
theorem op_notInK : OpR X (compareOp .NotIn) (rInK X.K X.w true) := by
  intro pins s σ H x y v u Q I rx ry h
  obtain ⟨d, es, n, z, r, D, e1, e2, e3, q⟩ := h
  exact op_notIn_kd D pins s σ H x y v u Q I rx ry ⟨z, r, e1, e2, e3, q⟩
theorem KTab.get {K : PySem.W.Frag} {w : World} {mg : Str → Option Value} {x : Str} {D : List (Str × W)} (T : KTab K w mg x D) (z : Str) : ∃ d es n r, mg x = some (.ref d) ∧ KDict K w d es n ∧ PySem.W.nsIn K d z = some r ∧ r.isSome = (D.lookup z).isSome := by
  obtain ⟨d, es, n, h1, h2, h3⟩ := T.at_
  have h := h3 z
  cases e : D.lookup z with
  | none => rw [e] at h; exact ⟨d, es, n, none, h1, h2, h, rfl⟩
  | some y => rw [e] at h; obtain ⟨u, v, h, _⟩ := h; exact ⟨d, es, n, some u, h1, h2, h, rfl⟩
theorem rb_inK {G : Gx} {w : World} {x : Str} {D : List (Str × W)} {neg : Bool} (T : KTab G.K w G.mg x D) : OpRb G (rInK G.K w neg) (wInK x D neg) := by
  intro vx vy st l H v u Q k sm rx ry e q
  cases rx with
  | str z =>
    cases ry with
    | @gl y a hy =>
      simp only [wInK] at e
      split at e
      · rename_i hxy
        subst hxy
        obtain ⟨d, es, n, r, h1, h2, h3, h4⟩ := T.get z
        rw [hy] at h1
        cases h1
        refine ⟨_, es, n, z, r, h2, rfl, rfl, h3, ?_⟩
        rw [h4, Option.some.inj e]
        exact q
      · cases e
    | _ => cases e
  | _ => cases ry <;> cases e
def wIxK (x : Str) (D : List (Str × W)) : W → W → Sto → An W
  | .gl y, .str z, st => if y = x then optB (D.lookup z) st else .bad
  | _, _, _ => .bad
theorem rf_ixK {G : Gx} {w : World} {x : Str} {D : List (Str × W)} (T : KTab G.K w G.mg x D) : OpRf G (rIxD G.K w) (wIxK x D) := by
  intro vx vy st l H v u Q Wx s sm rx ry p
  cases rx with
  | @gl y a hy =>
    cases ry with
    | str z =>
      simp only [wIxK] at p
      obtain ⟨hxy, p2⟩ := ite_bad p
      clear p
      subst hxy
      obtain ⟨b, hb, p⟩ := Po.optB p2 sm
      obtain ⟨d, es, n, h1, h2, h3⟩ := T.at_
      have h := h3 z
      rw [hb] at h
      obtain ⟨u0, v0, e1, e2, e3⟩ := h
      rw [hy] at h1
      cases h1
      exact ⟨_, z, v0, rfl, rfl, ⟨es, n, u0, h2.at_, h2.lit, e1, e2⟩, p _ (e3 _ _)⟩
    | _ => exact p.elim
  | _ => cases ry <;> exact p.elim
theorem e_ixK {x : Str} {D : List (Str × W)} (T : KTab X.K X.w X.mg x D) (ha : PE X a (tE (gx X) Wx fa)) (hb : PE X b (tE (gx X) Wx fb)) (hs : PlainIx b := by exact fun _ _ => rfl) : PE X (.Subscript a b pos) (tE (gx X) Wx (fBin (wIxK x D) fa fb)) := (pe_ix ix_kdict ha hb hs).imp fun s H Q h => bin_imp (rf_ixK T) h
end
/-! ### the facts of the tables -/
theorem nsNone {K : PySem.W.Frag} {w : World} {d : Addr} {ks : List Str} {z : Str} (h : He.dicW K d = some (He.keysIn w.params ks)) (hz : z ∉ ks) : PySem.W.nsIn K d z = some none := by
  unfold He.dicW at h
  split at h
  · rename_i c es n sl hl
    split at h
    · have h1 : es.toList.map He.keyOf = He.keysIn w.params ks := Option.some.inj h
      have key : ∀ (l : List DictEntry) (ks : List Str), l.map He.keyOf = He.keysIn w.params ks → z ∉ ks → l.find? (·.key.isStr z) = none ∧ l.any (·.refKey) = false := by
        intro l
        induction l with
        | nil => intro _ _ _; exact ⟨rfl, rfl⟩
        | cons e r ih =>
          intro ks h hz
          cases ks with
          | nil => cases h
          | cons k ks =>
            have h2 : He.keyOf e :: r.map He.keyOf = some (k, PyData.keyHash w.params k) :: He.keysIn w.params ks := h
            injection h2 with h3 h4
            obtain ⟨i1, i2⟩ := ih ks h4 (fun q => hz (List.mem_cons_of_mem _ q))
            unfold He.keyOf at h3
            split at h3
            · rename_i x t q
              have h5 := (Prod.mk.inj (Option.some.inj h3)).1
              have h6 : e.key.isStr z = false := by
                rw [q]
                show (x == z) = false
                rw [h5]
                exact beq_eq_false_iff_ne.mpr fun e => hz (by rw [e]; exact List.mem_cons_self)
              refine ⟨by rw [List.find?_cons, h6]; exact i1, ?_⟩
              rw [List.any_cons, i2]
              simp [DictEntry.refKey, q]
            · cases h3
      obtain ⟨k1, k2⟩ := key _ _ h1 hz
      unfold PySem.W.nsIn
      rw [hl]
      simp only [k1, k2]
      rfl
    · cases h
  · cases h
/-- the values, by key -/
def ktB (K : PySem.W.Frag) (x : Str) (kvs : List (Str × He.Dv)) : Bool := He.eqO (PySem.W.nsIn K mainGlobals x) (some (some (.ref (He.ga K x)))) && He.valsB K (He.ga K x) kvs
theorem lookup_mem {α : Type} {z : Str} {y : α} : ∀ {D : List (Str × α)}, D.lookup z = some y → (z, y) ∈ D
  | [], h => by cases h
  | (k, v) :: D, h => by
    rw [List.lookup_cons] at h
    split at h
    · rename_i e
      cases h
      rw [eq_of_beq e]
      exact List.mem_cons_self
    · exact List.mem_cons_of_mem _ (lookup_mem h)
theorem lookup_not {α : Type} {z : Str} : ∀ {D : List (Str × α)}, D.lookup z = none → z ∉ D.map (·.1)
  | [], _ => by simp
  | (k, v) :: D, h => by
    rw [List.lookup_cons] at h
    split at h
    · cases h
    · rename_i e
      have e : z ≠ k := by simpa using e
      simp only [List.map_cons, List.mem_cons, not_or]
      exact ⟨e, lookup_not h⟩
theorem ktab_ok {K : PySem.W.Frag} {w : World} {h : Heap} {mg : Str → Option Value} {x : Str} {kvs : List (Str × He.Dv)} {D : List (Str × W)} (X : K.In h) (G : h.Ns mainGlobals mg) (c : ktB K x kvs = true) (hd : He.dicW K (He.ga K x) = some (He.keysIn w.params (D.map (·.1))))
    (hr : ∀ p ∈ D, ∃ d, (p.1, d) ∈ kvs ∧ ∀ r H, Rep ⟨K, mg⟩ r H p.2 (d.v K)) : KTab K w mg x D := by
  obtain ⟨c1, c2⟩ := He.ba c
  obtain ⟨es, n, kd⟩ := He.dicW_ok hd
  refine ⟨He.ga K x, es, n, PySem.W.mg_of X G (He.eqO_ok c1), kd, fun z => ?_⟩
  cases e : D.lookup z with
  | none => exact nsNone hd (lookup_not e)
  | some y =>
    obtain ⟨d, h1, h2⟩ := hr _ (lookup_mem e)
    obtain ⟨u, e1, e2⟩ := He.valsB_ok c2 h1
    exact ⟨u, _, e1, e2, h2⟩
/-! ### the hook, by tables too -/
def obsC (chk : PySem.W.Frag → Bool) (fn : List He.DefD) (ts : List He.Tab) (K : PySem.W.Frag) : He.AlT := (obsB chk fn K, ts.map fun t => He.dicW K (t.1 K))
def SaysC (chk : PySem.W.Frag → Bool) (fn : List He.DefD) (ts : List He.Tab) (w : World) (K : PySem.W.Frag) : Prop := obsC chk fn ts K = He.valT fn ts w
def obsCG (n : Nat) (chk : PySem.W.Frag → Bool) (fn : List He.DefD) (ts : List He.Tab) (g : Addr → Option Obj) : He.AlT := obsC chk fn ts (He.frG g (asB g n))
def hookC (n : Nat) (chk : PySem.W.Frag → Bool) (fn : List He.DefD) (ts : List He.Tab) : PySem.W.Hook where
  α := He.AlT
  obs := fun s => obsCG n chk fn ts s.heap.get?
  val := fun w => He.valT fn ts w
  says := fun w h => ∃ K : PySem.W.Frag, K.In h ∧ SaysC chk fn ts w K
  of := fun _ _ e => ⟨_, He.frG_in, e⟩
  keeps := fun _ _ _ ⟨K, hK, c⟩ k => ⟨K, PySem.W.Frag.In.keeps hK k, c⟩
theorem obsCG_eq {n : Nat} {chk : PySem.W.Frag → Bool} {fn : List He.DefD} {ts : List He.Tab} {g : Addr → Option Obj} {s : Shared} (h : ∀ a, g a = s.heap.get? a) : obsCG n chk fn ts g = (hookC n chk fn ts).obs s := by
  have e : g = s.heap.get? := funext h
  rw [e] <;> rfl
section
variable {chk : PySem.W.Frag → Bool} {fn : List He.DefD} {ts : List He.Tab} {w : World} {K : PySem.W.Frag}
theorem SaysC.b (c : SaysC chk fn ts w K) : SaysB chk fn K := congrArg (fun z : He.AlT => z.1) c
theorem SaysC.tab (c : SaysC chk fn ts w K) (i : Nat) {t : He.Tab} (h : ts[i]? = some t := by rfl) : He.dicW K (t.1 K) = some (He.keysIn w.params t.2) := by
  have e : ts.map (fun t => He.dicW K (t.1 K)) = ts.map fun t => some (He.keysIn w.params t.2) := congrArg (fun z : He.AlT => z.2) c
  have e2 : (ts.map fun t => He.dicW K (t.1 K))[i]? = (ts.map fun t => some (He.keysIn w.params t.2))[i]? := by rw [e]
  rw [List.getElem?_map, List.getElem?_map, h] at e2
  exact Option.some.inj e2
end
end Sw
/-! Sw13: sorted(set(t)). -/
namespace Sw
open PySem PySem.Spec PyProof.Rows L2
theorem pw_ext {l m : List Int} (h : l.Pairwise (· < ·)) (k : m.Pairwise (· < ·)) (e : ∀ x, x ∈ l ↔ x ∈ m) : l = m := by
  induction l generalizing m with
  | nil =>
    cases m with
    | nil => rfl
    | cons a m => exact absurd ((e a).mpr List.mem_cons_self) List.not_mem_nil
  | cons a l ih =>
    cases m with
    | nil => exact absurd ((e a).mp List.mem_cons_self) List.not_mem_nil
    | cons b m =>
      rw [List.pairwise_cons] at h k
      have hab : a = b := by
        rcases List.mem_cons.mp ((e a).mp List.mem_cons_self) with q | q
        · exact q
        · rcases List.mem_cons.mp ((e b).mpr List.mem_cons_self) with r | r
          · exact r.symm
          · have := h.1 b r
            have := k.1 a q
            omega
      subst hab
      congr 1
      refine ih h.2 k.2 fun x => ?_
      have ex := e x
      constructor
      · intro hx
        rcases List.mem_cons.mp (ex.mp (List.mem_cons_of_mem _ hx)) with q | q
        · have := h.1 x hx; omega
        · exact q
      · intro hx
        rcases List.mem_cons.mp (ex.mpr (List.mem_cons_of_mem _ hx)) with q | q
        · have := k.1 x hx; omega
        · exact q
theorem leI_le {a b : Int} (h : leI a b = true) : a ≤ b := of_decide_eq_true h
theorem sorted_pw (ns : List Int) : (ns.mergeSort leI).Pairwise (· ≤ ·) := by
  have h := List.pairwise_mergeSort (le := leI) (fun a b c h1 h2 => decide_eq_true (by have := leI_le h1; have := leI_le h2; omega)) (fun a b => by
    unfold leI
    rcases Int.le_total a b with h | h
    · simp [h]
    · simp [h]) ns
  exact h.imp fun h => leI_le h
/-- the members, rising -/
def riseL : List Int → List Int
  | [] => []
  | [a] => [a]
  | a :: b :: l => if a = b then riseL (b :: l) else a :: riseL (b :: l)
theorem riseL_mem : ∀ (l : List Int) (x : Int), x ∈ riseL l ↔ x ∈ l
  | [], _ => Iff.rfl
  | [a], _ => Iff.rfl
  | a :: b :: l, x => by
    unfold riseL
    split
    · rename_i h
      subst h
      rw [riseL_mem (a :: l) x]
      simp
    · rw [List.mem_cons, riseL_mem (b :: l) x]
      simp
theorem riseL_pw : ∀ (l : List Int), l.Pairwise (· ≤ ·) → (riseL l).Pairwise (· < ·)
  | [], _ => .nil
  | [a], _ => by simp [riseL]
  | a :: b :: l, h => by
    rw [List.pairwise_cons] at h
    unfold riseL
    split
    · exact riseL_pw (b :: l) h.2
    · rename_i hab
      rw [List.pairwise_cons]
      refine ⟨fun x hx => ?_, riseL_pw (b :: l) h.2⟩
      have hx2 := (riseL_mem (b :: l) x).mp hx
      have h1 := h.1 x hx2
      rcases List.mem_cons.mp hx2 with rfl | hx3
      · omega
      · have h3 := (List.pairwise_cons.mp h.2).1 x hx3
        have h4 := h.1 b List.mem_cons_self
        omega
def setI (ns : List Int) : List Int := riseL (ns.mergeSort leI)
theorem setI_mem {ns : List Int} {x : Int} : x ∈ setI ns ↔ x ∈ ns := by
  unfold setI
  rw [riseL_mem]
  exact List.mem_mergeSort
theorem setI_pw (ns : List Int) : (setI ns).Pairwise (· < ·) := riseL_pw _ (sorted_pw ns)
theorem setI_len (ns : List Int) : (setI ns).length ≤ ns.length := by
  have h : ∀ l : List Int, (riseL l).length ≤ l.length := by
    intro l
    fun_induction riseL l with
    | case1 => exact Nat.le_refl _
    | case2 => exact Nat.le_refl _
    | case3 b l ih => simp only [List.length_cons] at ih ⊢; omega
    | case4 a b l e ih => simp only [List.length_cons] at ih ⊢; omega
  have := h (ns.mergeSort leI)
  simpa [setI] using this
theorem setI_of {ns l : List Int} (h : l.Pairwise (· < ·)) (e : ∀ x, x ∈ l ↔ x ∈ ns) : l = setI ns := pw_ext h (setI_pw ns) fun x => (e x).trans setI_mem.symm
section
variable {X : Cx} {Wx : WX} {pos p p2 q : Pos} {a : Expr} {ta : TE} {fa : FE}
def tSortSet (K : PySem.W.Frag) (ta : TE) : TE := fun σ H Q => ta σ H fun x H1 => ∃ (l : Addr) (ns : List Int), x = V.ref l ∧ SqT K H1 l (ns.map V.int) ∧ ns.length < 64 ∧ ∀ p, H1 p = none → Q (.ref p) (upd H1 p (.lst ((setI ns).map V.int)))
theorem pe_sortSet (hc : X.calm = true) (hg : Gl X "sorted") (hm : X.mg "sorted" = none) (hg2 : Gl X "set") (hm2 : X.mg "set" = none) (ha : PE X a ta)
    (na : starEach [a] X.env = (false, eval a X.env) :: starEach [] X.env := by rfl) : PE X (.Call (.Name "sorted" p) [.Call (.Name "set" p2) [a] [] q] [] pos) (tSortSet X.K ta) := by
  refine ⟨fun pins s σ H Q I h => ?_⟩
  refine Call_ (ld_blt I hg hm (show bootBuiltins ("sorted" : Str) = some (.builtin "sorted") from by decide +kernel) ?_)
  refine PyProof.Rows.callWith_builtin1 (PyProof.Rows.args_cons ?_ rfl) rfl rfl
  refine Call_ (ld_blt I hg2 hm2 PyProof.Rows.boot_set ?_)
  refine PyProof.Rows.callWith_type1 (PyProof.Rows.args_cons (thn (ha.run pins s σ H _ I h) fun v s1 ⟨x, H1, I1, r1, q1⟩ => PyProof.Rows.args_nil ?_) na) na rfl
  obtain ⟨l, ns, rfl, hq, h1, q1⟩ := q1
  cases r1
  obtain ⟨its, rv, pt, hz⟩ := I1.tuple hq
  have hi : IntsAre its.toArray.toList ns := ints_of_vals rv
  have hd := I1.ok.hd hc
  refine call_set_tupI ns hd (show s1.heap.IsTuple l its.toArray from pt) hi (by unfold scanBound; omega) fun h' tk c R1 hcn k => ?_
  refine PyProof.Rows.args_nil ?_
  have I2 : Inv X pins σ H1 { s1 with heap := h', toks := tk } := I1.kept fun b o e => k b o e
  refine sorted_set (s := { s1 with heap := h', toks := tk }) R1 hd (by omega) fun s' p' out c' ns' k' g o hp hg' hi' hs hmm hl => ?_
  have e : ns' = setI ns := setI_of hs fun x => by rw [hmm x, decide_eq_true_eq]
  subst e
  have hlen : ((setI ns).map V.int).length ≤ sizeLine := by rw [List.length_map, sizeLine_eq]; have := setI_len ns; omega
  have hn : H1 p' = none := I2.hok.fresh hp
  have J : Inv X pins σ (upd H1 p' (.lst ((setI ns).map V.int))) { s1 with heap := s'.heap, gens := s'.gens, drawn := s'.drawn, toks := s'.toks } := by
    have J0 := I2.call (h' := s'.heap) (g' := s'.gens) (d' := s'.drawn) (t' := s'.toks) (ch := []) (Un.laid k' hp hn) (I2.hok.laid k' hp (show ObjOk X.prog X.w _ _ _ (.lst ((setI ns).map V.int)) from ⟨hlen, out.toList, c', vals_of_ints hi', hg'⟩)) (by rw [g]; exact I2.bare) (fun _ z => nomatch z)
    exact J0
  have e : s' = { s1 with heap := s'.heap, gens := s'.gens, drawn := s'.drawn, toks := s'.toks } := by
    cases s'
    cases s1
    cases o
    rfl
  rw [e]
  exact ⟨.ref p', _, J, rfl, q1 p' hn⟩
def fSortSet (f : FE) : FE := fun env st => (f env st).bind fun x st1 => match x with
  | .tup l => (optB (getI l) st1).bind fun ns _ => if ns.length < 64 then .ok (.ref st1.length) (st1 ++ [.lst ((setI ns).map .int)]) else .bad
  | _ => .bad
theorem e_sortSet (hc : X.calm = true) (hg : Gl X "sorted") (hm : X.mg "sorted" = none) (hg2 : Gl X "set") (hm2 : X.mg "set" = none) (ha : PE X a (tE (gx X) Wx fa))
    (na : starEach [a] X.env = (false, eval a X.env) :: starEach [] X.env := by rfl) : PE X (.Call (.Name "sorted" p) [.Call (.Name "set" p2) [a] [] q] [] pos) (tE (gx X) Wx (fSortSet fa)) := (pe_sortSet hc hg hm hg2 hm2 ha na).imp fun s H Q h => by
  obtain ⟨env, l, st, en, sm, p⟩ := h
  refine ⟨env, l, st, en, sm, (Po.bind p).imp fun x l1 H1 g1 ⟨st1, sm1, _, p1⟩ vx rx => ?_⟩
  cases rx with
  | tup h k =>
    obtain ⟨ns, hns, st2, sm2, _, p3⟩ := Po.optB (Po.bind p1) sm1
    obtain ⟨hz, p3⟩ := ite_bad p3
    rw [getI_rep k hns] at h
    exact ⟨_, ns, rfl, h, hz, Po.newL sm1 (repL_ints _) p3⟩
  | _ => exact p1.elim
end
end Sw
/-! Pl: plain laws of the plain functions. -/
namespace Sw
open PySem PySem.Spec PyProof.Rows L2
/-! ### the store -/
@[simp] theorem sto_at {st : Sto} {o : Ob} {g : Sto} : (st ++ o :: g)[st.length]? = some o := by
  rw [List.getElem?_append_right (Nat.le_refl _)]
  simp
@[simp] theorem sto_at1 {st : Sto} {g : Sto} {k : Nat} : (st ++ g)[st.length + k]? = g[k]? := by
  rw [List.getElem?_append_right (Nat.le_add_right _ _)]
  simp
@[simp] theorem sto_set {st g : Sto} {k : Nat} {o : Ob} : (st ++ g).set (st.length + k) o = st ++ g.set k o := by
  rw [List.set_append_right _ _ (Nat.le_add_right _ _)]
  simp
@[simp] theorem sto_set0 {st g : Sto} {o : Ob} : (st ++ g).set st.length o = st ++ g.set 0 o := by
  rw [List.set_append_right _ _ (Nat.le_refl _)]
  simp
theorem sto_lt {st : Sto} {n : Nat} {o : Ob} (h : st[n]? = some o) : n < st.length := (List.getElem?_eq_some_iff.mp h).1
theorem sto_app {st g : Sto} {n : Nat} {o : Ob} (h : st[n]? = some o) : (st ++ g)[n]? = some o := by
  rw [List.getElem?_append_left (sto_lt h)]
  exact h
theorem sto_setl {st g : Sto} {n : Nat} {o : Ob} (h : n < st.length) : (st ++ g).set n o = st.set n o ++ g := by
  rw [List.set_append_left _ _ h]
/-! ### comprehensions that leave the store as it is -/
theorem lc_pure {bind : W → En → Option En} {t : FT} {f : FE} {env : En} {st : Sto} {g : W → W} : ∀ {items acc : List W}, acc.length + items.length ≤ 100000 →
    (∀ acc, ∀ w ∈ items, ∃ env1, bind w env = some env1 ∧ t env1 (st ++ [.lst acc]) = .ok true (st ++ [.lst acc]) ∧ f env1 (st ++ [.lst acc]) = .ok (g w) (st ++ [.lst acc])) →
    lcS none bind t f st.length env items (st ++ [.lst acc]) = .ok () (st ++ [.lst (acc ++ items.map g)])
  | [], acc, _, _ => by simp [lcS, gdOk]
  | w :: items, acc, hl, h => by
    obtain ⟨env1, h1, h2, h3⟩ := h acc w List.mem_cons_self
    have hl' : acc.length + (items.length + 1) ≤ 100000 := by simpa using hl
    have ih := lc_pure (bind := bind) (t := t) (f := f) (env := env) (st := st) (g := g) (items := items) (acc := acc ++ [g w]) (by simp; omega) fun acc x hx => h acc x (List.mem_cons_of_mem _ hx)
    have hlt : acc.length < 100000 := by omega
    simp only [lcS, gdOk, if_true, h1, h2, h3, An.noex_ok, An.bind_ok, sto_at, hlt, sto_set0, List.set_cons_zero]
    simpa using ih
theorem fYes_ok {env : En} {st : Sto} : fYes env st = .ok true st := rfl
/-- .. the whole of it -/
theorem fLc_pure {own : List Nat} {it : FI} {bind : W → En → Option En} {f : FE} {env : En} {st st1 : Sto} {items : List W} {g : W → W} (hi : it env st = .ok (items, none) st1) (hl : items.length ≤ 100000)
    (h : ∀ acc, ∀ w ∈ items, ∃ env1, bind w (wipeW env own) = some env1 ∧ f env1 (st1 ++ [.lst acc]) = .ok (g w) (st1 ++ [.lst acc])) : fLc own it bind fYes f env st = .ok (.ref st1.length) (st1 ++ [.lst (items.map g)]) := by
  unfold fLc
  rw [hi, An.bind_ok]
  have := lc_pure (bind := bind) (t := fYes) (f := f) (env := wipeW env own) (st := st1) (g := g) (items := items) (acc := []) (by simpa using hl) fun acc w hw => by
    obtain ⟨e, h1, h2⟩ := h acc w hw
    exact ⟨e, h1, fYes_ok, h2⟩
  rw [this]
  simp
/-! ### equal lists of plain things -/
theorem mapM_all {α β : Type} {f : α → Option β} {g : α → β} : ∀ {l : List α}, (∀ x ∈ l, f x = some (g x)) → l.mapM f = some (l.map g)
  | [], _ => rfl
  | x :: l, h => by
    rw [List.mapM_cons, h x List.mem_cons_self, mapM_all (l := l) fun y hy => h y (List.mem_cons_of_mem _ hy)]
    rfl
theorem toD_lst {st : Sto} {n k : Nat} {l : List W} (h : st[n]? = some (.lst l)) : toD st (k + 1) (.ref n) = (l.mapM (toD st k)).map .list := by
  unfold toD
  simp only [h]
theorem toD_bls {st : Sto} {n : Nat} {bs : List Bool} (h : st[n]? = some (.lst (bs.map W.bl))) : toD st 64 (.ref n) = some (.list (bs.map PyData.bool)) := by
  refine (toD_lst (k := 63) h).trans ?_
  rw [mapM_all (g := fun w => match w with | .bl b => .bool b | _ => .none)]
  · simp [Function.comp_def]
  · intro x hx
    obtain ⟨b, _, rfl⟩ := List.mem_map.mp hx
    rfl
theorem eqv_bls : ∀ {bs cs : List Bool}, PyData.eqv (.list (bs.map PyData.bool)) (.list (cs.map PyData.bool)) = decide (bs = cs)
  | [], [] => by simp [PyData.eqv, PyData.eqvAll]
  | [], _ :: _ => by simp [PyData.eqv, PyData.eqvAll]
  | _ :: _, [] => by simp [PyData.eqv, PyData.eqvAll]
  | a :: bs, b :: cs => by
    have ih := eqv_bls (bs := bs) (cs := cs)
    simp only [PyData.eqv, List.map_cons, PyData.eqvAll] at ih ⊢
    rw [ih]
    cases a <;> cases b <;> simp [PyData.eqv]
theorem eqW_bls {st : Sto} {n m : Nat} {bs cs : List Bool} (h : st[n]? = some (.lst (bs.map W.bl))) (k : st[m]? = some (.lst (cs.map W.bl))) : eqW st (.ref n) (.ref m) = some (decide (bs = cs)) := by
  show ((toD st 64 (.ref n)).bind fun d => (toD st 64 (.ref m)).map fun e => PyData.eqv d e) = _
  rw [toD_bls h, toD_bls k]
  simp only [Option.bind_some, Option.map_some, eqv_bls]
/-! ### what is forgotten -/
theorem clean_app' {F : FF} {ws : List W} {st : Sto} {w : W} (g : Sto) (h : F ws st = .ok w (st ++ g)) (h2 : closedW st.length w = true) : clean F ws st = .ok w st := clean_app h h2
theorem clean_id {F : FF} {ws : List W} {st : Sto} {w : W} (h : F ws st = .ok w st) : clean F ws st = .ok w st := by
  unfold clean
  rw [h]
  dsimp only
  split
  · rw [List.take_of_length_le (Nat.le_refl _)]
  · rfl
/-- one object changed, new ones behind -/
theorem clean_put {F : FF} {ws : List W} {st g : Sto} {w : W} {n : Nat} {o : Ob} (h : F ws st = .ok w (st.set n o ++ g)) (h1 : closedO st.length o = true) (h2 : closedW st.length w = true) : clean F ws st = .ok w (st.set n o) :=
  clean_set h (by simp) (fun i u e => by
    by_cases hi : n = i
    · subst hi
      by_cases hl : n < st.length
      · rw [List.getElem?_set_self hl] at e
        cases e
        exact .inr h1
      · rw [List.getElem?_eq_none (by simpa using hl)] at e
        cases e
    · rw [List.getElem?_set_ne hi] at e
      exact .inl e) h2
/-- what is handed out is new: nothing is forgotten -/
theorem clean_new {F : FF} {ws : List W} {st st' : Sto} {m : Nat} (h : F ws st = .ok (.ref m) st') (hm : st.length ≤ m) : clean F ws st = .ok (.ref m) st' := by
  unfold clean
  rw [h]
  dsimp only
  rw [if_neg]
  rintro ⟨_, c⟩
  simp only [closedW, decide_eq_true_eq] at c
  omega
/-! ### pots -/
/-- a pot of draws at n: at most c draws of its later kind so far -/
def Pot (st : Sto) (n : Nat) (c : Int) : Prop := ∃ a m k : Int, st[n]? = some (.lst [.int a, .int m, .int k]) ∧ 0 ≤ a ∧ a < 10 ^ 900 ∧ 0 ≤ m ∧ m < 10 ^ 20 ∧ 0 ≤ k ∧ k ≤ c
theorem Pot.mono {st : Sto} {n : Nat} {c d : Int} (h : Pot st n c) (l : c ≤ d) : Pot st n d := by
  obtain ⟨a, m, k, h1, h2, h3, h4, h5, h6, h7⟩ := h
  exact ⟨a, m, k, h1, h2, h3, h4, h5, h6, Int.le_trans h7 l⟩
theorem Pot.app {st g : Sto} {n : Nat} {c : Int} (h : Pot st n c) : Pot (st ++ g) n c := by
  obtain ⟨a, m, k, h1, h2⟩ := h
  exact ⟨a, m, k, sto_app h1, h2⟩
theorem Pot.lt {st : Sto} {n : Nat} {c : Int} (h : Pot st n c) : n < st.length := by
  obtain ⟨a, m, k, h1, h2⟩ := h
  exact sto_lt h1
theorem fRun_rt {n : Nat} {f : FS} {ws : List W} {st s : Sto} {w : W} {e : En} (he : Sw.start n ws = e) (h : f e st = .rt w s) : fRun n f ws st = .ok w s := by
  subst he
  unfold fRun
  rw [h]
theorem fRun_nx {n : Nat} {f : FS} {ws : List W} {st s : Sto} {e e' : En} (he : Sw.start n ws = e) (h : f e st = .nx e' s) : fRun n f ws st = .ok .non s := by
  subst he
  unfold fRun
  rw [h]
theorem fSeq_nx {f g : FS} {env env1 : En} {st st1 : Sto} (h : f env st = .nx env1 st1) : fSeq f g env st = g env1 st1 := by
  simp only [fSeq, h]
end Sw
/-! PotL: the laws' pots of draws. -/
namespace Sw
open PySem PySem.Spec PyProof.Rows L2
theorem wIx_list {st : Sto} {x : W} {l : List W} (h : getL st x = some l) (i : Int) : wIx x (.int i) st = atI l i := by
  cases x with
  | rol l' => simp only [getL, Option.some.injEq] at h; subst h; rfl
  | ref n => simp only [wIx, getS, h, Option.bind_some]
  | _ => simp [getL] at h
theorem wLen_list {st : Sto} {x : W} {l : List W} (h : getL st x = some l) : wLen [x] st = .ok (.int l.length) st := by
  cases x with
  | rol l' => simp only [getL, Option.some.injEq] at h; subst h; rfl
  | ref n =>
    simp only [getL] at h
    split at h
    · rename_i l' e
      cases h
      simp only [wLen, e]
    · cases h
  | _ => simp [getL] at h
theorem pow_big {i : Int} {k : Nat} (h0 : 0 ≤ i) : i ^ k = ((i.toNat ^ k : Nat) : Int) := by
  conv => lhs; rw [← Int.toNat_of_nonneg h0]
  simp
def potB : FS := (fSeq (fSet 2 (fC (.int 0))) (fSeq (fIfS (fCmp wLt (fVar 1) (fCall wLen (fCons (fVar 0) fNil))) (fSet 2 (fBin wMod (fCall wAbs (fCons (fBin wIxA (fVar 0) (fVar 1)) fNil)) (fBin wPow (fBin wPow (fC (.int 10)) (fC (.int 60))) (fC (.int 14))))) fNext) (fSeq (fSet 3 (fBin wMod (fBin wPow (fBin wAdd (fBin wAdd (fBin wMod (fVar 2) (fC (.int 2147483629))) (fBin wMul (fC (.int 7919)) (fVar 1))) (fC (.int 1))) (fC (.int 5))) (fC (.int 2305843009213693951)))) (fRet (fLst (fCons (fBin wMul (fVar 2) (fCall wInt (fCons (fCmpE wGe (fVar 2) (fBin wPow (fC (.int 10)) (fC (.int 18)))) fNil))) (fCons (fVar 3) (fCons (fC (.int 0)) fNil))))))))
noncomputable def potF : FF := clean (fRun 4 potB)
noncomputable def takeB : FS := (fSeq (fIfS (fCmp wGt (fBin wIxA (fVar 0) (fC (.int 0))) (fC (.int 0))) (fSeq (fSet 4 (fBin wMod (fBin wIxA (fVar 0) (fC (.int 0))) (fVar 1))) (fSeq (fAsg (fBin wFdiv (fBin wIxA (fVar 0) (fC (.int 0))) (fVar 1)) (gSubW (fVar 0) (fC (.int 0)))) (fRet (fVar 4)))) fNext) (fSeq (fAsg (fBin wAdd (fBin wIxA (fVar 0) (fC (.int 2))) (fC (.int 1))) (gSubW (fVar 0) (fC (.int 2)))) (fSeq (fSet 2 (fBin wMod (fBin wPow (fBin wAdd (fBin wIxA (fVar 0) (fC (.int 1))) (fBin wMul (fC (.int 104729)) (fBin wIxA (fVar 0) (fC (.int 2))))) (fC (.int 3))) (fC (.int 2305843009213693921)))) (fSeq (fSet 3 (fBin wMod (fBin wPow (fBin wAdd (fBin wAdd (fVar 2) (fBin wMod (fBin wIxA (fVar 0) (fC (.int 1))) (fC (.int 65537)))) (fBin wMul (fC (.int 31)) (fBin wIxA (fVar 0) (fC (.int 2))))) (fC (.int 5))) (fC (.int 2305843009213693907)))) (fRet (fBin wMod (fBin wFdiv (fVar 3) (fC (.int 1024))) (fVar 1)))))))
noncomputable def takeF : FF := clean (fRun 5 takeB)
/-- the cell of the draw -/
def cellOf (l : List Int) (k : Nat) : Int := if k < l.length then (if l.getD k 0 < 0 then -(l.getD k 0) else l.getD k 0) % (10 ^ 60) ^ 14 else 0
def mixOf (c : Int) (k : Nat) : Int := (c % 2147483629 + 7919 * k + 1) ^ 5 % 2305843009213693951
theorem e840 : (((10 : Int) ^ 60) ^ 14) = 10 ^ 840 := by decide +kernel
theorem cellOf_lt (l : List Int) (k : Nat) : 0 ≤ cellOf l k ∧ cellOf l k < 10 ^ 840 := by
  unfold cellOf
  have h0 : (0 : Int) < 10 ^ 840 := by decide +kernel
  split
  · rw [e840]
    exact ⟨Int.emod_nonneg _ (by omega), Int.emod_lt_of_pos _ h0⟩
  · exact ⟨Int.le_refl 0, h0⟩
theorem wPow_ok {i j : Int} {st : Sto} (h : cPow i j = true) : wPow (.int i) (.int j) st = .ok (.int (i ^ j.toNat)) st := by
  show (if cPow i j = true then An.ok (W.int (i ^ j.toNat)) st else .bad) = _
  rw [if_pos h]
theorem wMod_ok {i j : Int} {st : Sto} (h : 0 < j) : wMod (.int i) (.int j) st = .ok (.int (i % j)) st := by
  show (if cMod i j = true then An.ok (W.int (i % j)) st else .bad) = _
  have hc : cMod i j = true := decide_eq_true h
  rw [if_pos hc]
theorem wFdiv_ok {i j : Int} {st : Sto} (h : 0 < j) (h2 : j < 10 ^ 900) : wFdiv (.int i) (.int j) st = .ok (.int (i / j)) st := by
  show (if cDiv i j = true then An.ok (W.int (i / j)) st else .bad) = _
  have hb : (10 : Nat) ^ 900 < BigN := by decide +kernel
  have hc : cDiv i j = true := decide_eq_true ⟨h, by omega⟩
  rw [if_pos hc]
theorem wMul_ok {i j : Int} {st : Sto} (h : i.natAbs < 10 ^ 2000) (h2 : j.natAbs < 10 ^ 2000) : wMul (.int i) (.int j) st = .ok (.int (i * j)) st := by
  have hb : (10 : Nat) ^ 2000 < BigN := by decide +kernel
  show (if (i.natAbs < BigN ∧ j.natAbs < BigN) ∨ j.natAbs < 2 ^ 60 then An.ok (W.int (i * j)) st else .bad) = _
  rw [if_pos (.inl ⟨by omega, by omega⟩)]
@[simp] theorem wAdd_int {i j : Int} {st : Sto} : wAdd (.int i) (.int j) st = .ok (.int (i + j)) st := rfl
@[simp] theorem wSub_int {i j : Int} {st : Sto} : wSub (.int i) (.int j) st = .ok (.int (i - j)) st := rfl
theorem cPow_small {i : Int} {j : Int} (h0 : 0 ≤ j) (h1 : j ≤ 100) (h : i.natAbs < 10 ^ 90) : cPow i j = true := by
  have hb : (10 : Nat) ^ 90 < 2 ^ 300 := by decide +kernel
  exact decide_eq_true ⟨h0, h1, by omega⟩
theorem pow60 {st : Sto} : wPow (.int 10) (.int 60) st = .ok (.int (10 ^ 60)) st := wPow_ok (by decide +kernel)
theorem pow18 {st : Sto} : wPow (.int 10) (.int 18) st = .ok (.int 1000000000000000000) st := wPow_ok (by decide +kernel)
theorem pow39 {st : Sto} : wPow (.int 10) (.int 39) st = .ok (.int (10 ^ 39)) st := wPow_ok (by decide +kernel)
theorem pow840 {st : Sto} : wPow (.int (10 ^ 60)) (.int 14) st = .ok (.int ((10 ^ 60) ^ 14)) st := wPow_ok (by decide +kernel)
theorem p840 : (0 : Int) < (10 ^ 60) ^ 14 := by decide +kernel
/-- from the cell on -/
theorem pot_tail {x : W} {st : Sto} {k : Nat} {c : Int} (hk : k ≤ 10 ^ 6) (hc : 0 ≤ c ∧ c < 10 ^ 840) (f : FS) (hf : f [some x, some (.int k), some (.int 0), none] st = .nx [some x, some (.int k), some (.int c), none] st) :
    fSeq (fSet 2 (fC (.int 0))) (fSeq f (fSeq (fSet 3 (fBin wMod (fBin wPow (fBin wAdd (fBin wAdd (fBin wMod (fVar 2) (fC (.int 2147483629))) (fBin wMul (fC (.int 7919)) (fVar 1))) (fC (.int 1))) (fC (.int 5))) (fC (.int 2305843009213693951)))) (fRet (fLst (fCons (fBin wMul (fVar 2) (fCall wInt (fCons (fCmpE wGe (fVar 2) (fBin wPow (fC (.int 10)) (fC (.int 18)))) fNil))) (fCons (fVar 3) (fCons (fC (.int 0)) fNil))))))) [some x, some (.int k), none, none] st = .rt (.ref st.length) (st ++ [.lst [.int (c * (if 1000000000000000000 ≤ c then 1 else 0)), .int (mixOf c k), .int 0]]) := by
  have m0 : 0 ≤ c % 2147483629 := Int.emod_nonneg _ (by omega)
  have m1 : c % 2147483629 < 2147483629 := Int.emod_lt_of_pos _ (by omega)
  have e1 : wMul (.int 7919) (.int (k : Int)) st = .ok (.int (7919 * k)) st := wMul_ok (by decide +kernel) (by
    have : (10 : Nat) ^ 6 < 10 ^ 2000 := by decide +kernel
    omega)
  have e2 : wMod (.int c) (.int 2147483629) st = .ok (.int (c % 2147483629)) st := wMod_ok (by omega)
  have e3 : wPow (.int (c % 2147483629 + 7919 * k + 1)) (.int 5) st = .ok (.int ((c % 2147483629 + 7919 * k + 1) ^ 5)) st := wPow_ok (cPow_small (by omega) (by omega) (by
    have : (10 : Nat) ^ 20 < 10 ^ 90 := by decide +kernel
    omega))
  have e4 : ∀ z : Int, wMod (.int z) (.int 2305843009213693951) st = .ok (.int (z % 2305843009213693951)) st := fun z => wMod_ok (by omega)
  have e5 : wMul (.int c) (.int (if 1000000000000000000 ≤ c then 1 else 0)) st = .ok (.int (c * (if 1000000000000000000 ≤ c then 1 else 0))) st := wMul_ok (by
    have h1 : (10 : Nat) ^ 840 < 10 ^ 2000 := by decide +kernel
    omega) (by
    have h1 : 1 < 10 ^ 2000 := by decide +kernel
    split <;> simp only [Int.natAbs_one, Int.natAbs_zero] <;> omega)
  simp only [fSeq, fSet, fC, An.toS_ok, List.set_cons_succ, List.set_cons_zero, hf, fVar, fCall, fCons, fNil, fBin, List.getElem?_cons_zero, List.getElem?_cons_succ, An.bind_ok, e1, e2, e3, e4, wAdd_int, fCmpE, wGe, wIb, optB_some, pow18, wInt, decide_eq_true_eq, e5, fRet, fLst, mixOf]
  simp
theorem pot_raw {l : List Int} {x : W} {st : Sto} {k : Nat} (hx : getL st x = some (l.map W.int)) (hk : k ≤ 10 ^ 6) :
    potB [some x, some (.int k), none, none] st = .rt (.ref st.length) (st ++ [.lst [.int (cellOf l k * (if 1000000000000000000 ≤ cellOf l k then 1 else 0)), .int (mixOf (cellOf l k) k), .int 0]]) := by
  have hlen := wLen_list hx
  refine pot_tail hk (cellOf_lt l k) _ ?_
  by_cases h : k < l.length
  · have hix := wIx_list hx (k : Int)
    have hat : atI (l.map W.int) (k : Int) = some (.int (l.getD k 0)) := atI_nat (by simp [List.getD, h])
    rw [hat] at hix
    have hlt : ((k : Int) < ((l.map W.int).length : Nat)) := by simpa using h
    simp only [fSet, fIfS, fCmp, fVar, fC, fCall, fCons, fNil, List.getElem?_cons_zero, List.getElem?_cons_succ, An.bind_ok, An.toS_ok, hlen, wLt, wIb, optB_some, hlt, decide_true, if_true, List.set_cons_succ, List.set_cons_zero, fBin, wIxA, hix, wAbs, pow60, pow840, wMod_ok p840, cellOf, h]
  · have hlt : ¬ ((k : Int) < ((l.map W.int).length : Nat)) := by simpa using h
    simp only [fSet, fIfS, fCmp, fVar, fC, fCall, fCons, fNil, List.getElem?_cons_zero, List.getElem?_cons_succ, An.bind_ok, An.toS_ok, hlen, wLt, wIb, optB_some, hlt, decide_false, if_false, fNext, cellOf, h, Bool.false_eq_true]
theorem pot_ok {l : List Int} {x : W} {st : Sto} {k : Nat} (hx : getL st x = some (l.map W.int)) (hk : k ≤ 10 ^ 6) :
    ∃ o, potF [x, .int k] st = .ok (.ref st.length) (st ++ [o]) ∧ Pot (st ++ [o]) st.length 0 := by
  have h := pot_raw hx hk
  obtain ⟨c0, c1⟩ := cellOf_lt l k
  generalize hc : cellOf l k = c at h c0 c1
  refine ⟨.lst [.int (c * (if 1000000000000000000 ≤ c then 1 else 0)), .int (mixOf c k), .int 0], clean_new ?_ (Nat.le_refl _), c * (if 1000000000000000000 ≤ c then 1 else 0), mixOf c k, 0, sto_at, ?_, ?_, ?_, ?_, Int.le_refl _, Int.le_refl _⟩
  · show (match potB [some x, some (.int k), none, none] st with | .nx _ s => An.ok W.non s | .rt w s => .ok w s | .ex C fs _ s => .ex C fs s | _ => .bad) = _
    rw [h]
  · split <;> omega
  · have e9 : (10 : Int) ^ 840 < 10 ^ 900 := by decide +kernel
    split <;> omega
  · exact Int.emod_nonneg _ (by omega)
  · have := Int.emod_lt_of_pos ((c % 2147483629 + 7919 * k + 1) ^ 5) (show (0 : Int) < 2305843009213693951 by omega)
    unfold mixOf
    omega
theorem wIx_at {st : Sto} {n : Nat} {l : List W} (h : st[n]? = some (.lst l)) (i : Int) : wIx (.ref n) (.int i) st = atI l i := wIx_list (by simp only [getL, h]) i
theorem at0 {α : Type} {a b c : α} : atI [a, b, c] 0 = some a := rfl
theorem at1 {α : Type} {a b c : α} : atI [a, b, c] 1 = some b := rfl
theorem at2 {α : Type} {a b c : α} : atI [a, b, c] 2 = some c := rfl
theorem wSet_at {st : Sto} {n j : Nat} {l : List W} {w : W} (h : st[n]? = some (.lst l)) (hj : j < l.length) : wSet (.ref n) (.int j) w st = some (st.set n (.lst (l.set j w))) := by
  simp only [wSet, h]
  have e : ixN l.length (j : Int) = some j := by
    unfold ixN
    rw [if_pos (by omega), if_pos (by omega)]
    simp
  rw [e]
  rfl
theorem set_at {st : Sto} {n : Nat} {o : Ob} (h : n < st.length) : (st.set n o)[n]? = some o := List.getElem?_set_self h
theorem take_raw {st : Sto} {n : Nat} {c many : Int} (P : Pot st n c) (hc : c ≤ 10 ^ 15) (h0 : 0 < many) (h1 : many < 10 ^ 800) :
    ∃ (v a' k' m : Int), takeB [some (.ref n), some (.int many), none, none, none] st = .rt (.int v) (st.set n (.lst [.int a', .int m, .int k'])) ∧ 0 ≤ v ∧ v < many ∧ 0 ≤ a' ∧ a' < 10 ^ 900 ∧ 0 ≤ m ∧ m < 10 ^ 20 ∧ 0 ≤ k' ∧ k' ≤ c + 1 := by
  obtain ⟨a, m, k, hs, a0, a1, m0, m1, k0, k1⟩ := P
  have hl := sto_lt hs
  have ix : ∀ i : Int, wIx (.ref n) (.int i) st = atI [.int a, .int m, .int k] i := wIx_at hs
  have b9 : (10 : Int) ^ 800 < 10 ^ 900 := by decide +kernel
  by_cases ha : 0 < a
  · have e1 : wMod (.int a) (.int many) st = .ok (.int (a % many)) st := wMod_ok h0
    have e2 : wFdiv (.int a) (.int many) st = .ok (.int (a / many)) st := wFdiv_ok h0 (Int.lt_trans h1 b9)
    have e3 : wSet (.ref n) (.int 0) (.int (a / many)) st = some (st.set n (.lst [.int (a / many), .int m, .int k])) := wSet_at (j := 0) hs (by simp)
    refine ⟨a % many, a / many, k, m, ?_, Int.emod_nonneg _ (by omega), Int.emod_lt_of_pos _ h0, Int.ediv_nonneg a0 (by omega), ?_, m0, m1, k0, by omega⟩
    · simp only [takeB, fSeq, fSet, fIfS, fCmp, fVar, fC, fBin, fAsg, gSubW, fRet, wIxA, wGt, wIb, List.getElem?_cons_zero, List.getElem?_cons_succ, An.bind_ok, An.toS_ok, optB_some, ix, at0, at1, at2, ha, decide_true, if_true, e1, e2, e3, List.set_cons_succ, List.set_cons_zero]
    · exact Int.lt_of_le_of_lt (Int.ediv_le_self many a0) a1
  · have ea : a = 0 := by omega
    subst ea
    have e3 : wSet (.ref n) (.int 2) (.int (k + 1)) st = some (st.set n (.lst [.int 0, .int m, .int (k + 1)])) := wSet_at (j := 2) hs (by simp)
    have hs2 : (st.set n (.lst [.int 0, .int m, .int (k + 1)]))[n]? = some (.lst [.int 0, .int m, .int (k + 1)]) := set_at hl
    generalize hS : st.set n (.lst [.int 0, .int m, .int (k + 1)]) = S at e3 hs2
    have ix2 : ∀ i : Int, wIx (.ref n) (.int i) S = atI [.int 0, .int m, .int (k + 1)] i := wIx_at hs2
    have big : (10 : Nat) ^ 30 < 10 ^ 2000 := by decide +kernel
    have big2 : (10 : Nat) ^ 30 < 10 ^ 90 := by decide +kernel
    have e4 : wMul (.int 104729) (.int (k + 1)) S = .ok (.int (104729 * (k + 1))) S := wMul_ok (by omega) (by omega)
    have e5 : wPow (.int (m + 104729 * (k + 1))) (.int 3) S = .ok (.int ((m + 104729 * (k + 1)) ^ 3)) S := wPow_ok (cPow_small (by omega) (by omega) (by omega))
    have e6 : ∀ z : Int, wMod (.int z) (.int 2305843009213693921) S = .ok (.int (z % 2305843009213693921)) S := fun z => wMod_ok (by omega)
    have e7 : ∀ z : Int, wMod (.int z) (.int 65537) S = .ok (.int (z % 65537)) S := fun z => wMod_ok (by omega)
    have e8 : wMul (.int 31) (.int (k + 1)) S = .ok (.int (31 * (k + 1))) S := wMul_ok (by omega) (by omega)
    generalize hz : (m + 104729 * (k + 1)) ^ 3 = z at e5
    have z0 : 0 ≤ z % 2305843009213693921 := Int.emod_nonneg _ (by omega)
    have z1 : z % 2305843009213693921 < 2305843009213693921 := Int.emod_lt_of_pos _ (by omega)
    generalize hy : z % 2305843009213693921 = y at z0 z1
    have e9 : wPow (.int (y + m % 65537 + 31 * (k + 1))) (.int 5) S = .ok (.int ((y + m % 65537 + 31 * (k + 1)) ^ 5)) S := wPow_ok (cPow_small (by omega) (by omega) (by omega))
    generalize hw : (y + m % 65537 + 31 * (k + 1)) ^ 5 = x at e9
    have f1 : ∀ z : Int, wMod (.int z) (.int 2305843009213693907) S = .ok (.int (z % 2305843009213693907)) S := fun z => wMod_ok (by omega)
    have f2 : ∀ z : Int, wFdiv (.int z) (.int 1024) S = .ok (.int (z / 1024)) S := fun z => wFdiv_ok (by omega) (by decide +kernel)
    have f3 : ∀ z : Int, wMod (.int z) (.int many) S = .ok (.int (z % many)) S := fun z => wMod_ok h0
    refine ⟨x % 2305843009213693907 / 1024 % many, 0, k + 1, m, ?_, Int.emod_nonneg _ (by omega), Int.emod_lt_of_pos _ h0, Int.le_refl _, by decide +kernel, m0, m1, by omega, by omega⟩
    rw [hS]
    simp only [takeB, fSeq, fSet, fIfS, fCmp, fVar, fC, fBin, fAsg, gSubW, fRet, fNext, wIxA, wGt, wIb, List.getElem?_cons_zero, List.getElem?_cons_succ, An.bind_ok, An.toS_ok, optB_some, ix, ix2, at0, at1, at2, Int.lt_irrefl, decide_false, if_false, Bool.false_eq_true, e3, e4, e5, e6, e7, e8, hy, e9, f1, f2, f3, hz, hw, List.set_cons_succ, List.set_cons_zero, wAdd_int]
theorem take_ok {st : Sto} {n : Nat} {c many : Int} (P : Pot st n c) (hc : c ≤ 10 ^ 15) (h0 : 0 < many) (h1 : many < 10 ^ 800) :
    ∃ v o, takeF [.ref n, .int many] st = .ok (.int v) (st.set n o) ∧ 0 ≤ v ∧ v < many ∧ (∀ m, closedO m o = true) ∧ Pot (st.set n o) n (c + 1) := by
  obtain ⟨v, a, k, m, h, v0, v1, a0, a1, m0, m1, k0, k1⟩ := take_raw P hc h0 h1
  refine ⟨v, _, clean_put (g := []) ?_ (by simp [closedO, closedL, closedW]) rfl, v0, v1, fun _ => by simp [closedO, closedL, closedW], a, m, k, set_at P.lt, a0, a1, m0, m1, k0, k1⟩
  show (match takeB [some (.ref n), some (.int many), none, none, none] st with | .nx _ s => An.ok W.non s | .rt w s => .ok w s | .ex C fs _ s => .ex C fs s | _ => .bad) = _
  rw [h, List.append_nil]
theorem wAdd_lists {x y : W} {st : Sto} {a b : List W} (h1 : getL st x = some a) (h2 : getL st y = some b) (hl : a.length + b.length ≤ sizeLine) : wAdd x y st = .ok (.ref st.length) (st ++ [.lst (a ++ b)]) := by
  cases x with
  | ref n => cases y <;> first | (simp only [getL] at h2; cases h2; done) | (unfold wAdd; dsimp only; rw [h1, h2]; dsimp only; rw [if_pos hl])
  | rol n => cases y <;> first | (simp only [getL] at h2; cases h2; done) | (unfold wAdd; dsimp only; rw [h1, h2]; dsimp only; rw [if_pos hl])
  | _ => simp [getL] at h1
theorem wMul_any {i j : Int} {st : Sto} (h : j.natAbs < 2 ^ 60) : wMul (.int i) (.int j) st = .ok (.int (i * j)) st := by
  show (if (i.natAbs < BigN ∧ j.natAbs < BigN) ∨ j.natAbs < 2 ^ 60 then An.ok (W.int (i * j)) st else .bad) = _
  rw [if_pos (.inr h)]
end Sw
/-! Vc: what holds behind a plain function, rule by rule. -/
namespace Sw
open PySem PySem.Spec PyProof.Rows L2
abbrev XE := Str → Flds → Sto → Prop
def wp {α : Type} (m : An α) (Q : α → Sto → Prop) (E : XE) : Prop := match m with
  | .ok a st => Q a st
  | .ex C fs st => E C fs st
  | .bad => False
def ws (m : SA) (nx : En → Sto → Prop) (rt : W → Sto → Prop) (lp : Bool → En → Sto → Prop) (ex : Str → Flds → En → Sto → Prop) : Prop := match m with
  | .nx e s => nx e s
  | .rt w s => rt w s
  | .bk e s => lp true e s
  | .ct e s => lp false e s
  | .ex C fs e s => ex C fs e s
  | .bad => False
abbrev noX : XE := fun _ _ _ => False
section
variable {α β : Type} {m : An α} {Q Q' : α → Sto → Prop} {E E' : XE} {env : En} {st : Sto}
theorem wp_mono (h : wp m Q E) (k : ∀ a s, Q a s → Q' a s) (x : ∀ C fs s, E C fs s → E' C fs s) : wp m Q' E' := by
  cases m with
  | ok a s => exact k _ _ h
  | ex C fs s => exact x _ _ _ h
  | bad => exact h
/-- a call whose promise raises nothing -/
theorem wp_use {Q' : α → Sto → Prop} (h : wp m Q noX) (k : ∀ a s, Q a s → Q' a s) : wp m Q' E' := wp_mono h k fun _ _ _ h => h.elim
theorem wp_eq {a : α} {s : Sto} (h : m = .ok a s) (q : Q a s) : wp m Q E := by subst h; exact q
theorem wp_ok {a : α} (q : Q a st) : wp (.ok a st) Q E := q
theorem wp_bind {k : α → Sto → An β} {Q : β → Sto → Prop} (h : wp m (fun a s => wp (k a s) Q E) E) : wp (m.bind k) Q E := by
  cases m with
  | ok a s => exact h
  | ex C fs s => exact h
  | bad => exact h
theorem wp_get (h : wp m Q noX) : ∃ a s, m = .ok a s ∧ Q a s := by
  cases m with
  | ok a s => exact ⟨a, s, rfl, h⟩
  | ex C fs s => exact h.elim
  | bad => exact h.elim
theorem wp_of {a : α} {s : Sto} (h : m = .ok a s) : wp m (fun x y => x = a ∧ y = s) E := by subst h; exact ⟨rfl, rfl⟩
theorem wp_exq {C : Str} {fs : Flds} {s : Sto} (h : wp m (fun _ _ => False) (fun C' fs' s' => C' = C ∧ fs' = fs ∧ s' = s)) : m = .ex C fs s := by
  cases m with
  | ok a s => exact h.elim
  | ex C fs s => obtain ⟨rfl, rfl, rfl⟩ := h; rfl
  | bad => exact h.elim
theorem wp_ex {C : Str} {fs : Flds} {s : Sto} (h : m = .ex C fs s) (q : E C fs s) : wp m Q E := by subst h; exact q
theorem wp_noex (h : wp m Q noX) : wp m.noex Q E := by
  cases m with
  | ok a s => exact h
  | ex C fs s => exact h.elim
  | bad => exact h.elim
theorem wp_opt {o : Option α} {a : α} (h : o = some a) (q : Q a st) : wp (optB o st) Q E := by subst h; exact q
theorem wp_ite {c : Prop} [Decidable c] {a b : An α} (h1 : c → wp a Q E) (h2 : ¬c → wp b Q E) : wp (if c then a else b) Q E := by
  split
  · exact h1 ‹_›
  · exact h2 ‹_›
theorem wp_if1 {c : Prop} {i : Decidable c} {a b : An α} (h : c) (q : wp a Q E) : wp (if c then a else b) Q E := by rw [if_pos h]; exact q
theorem wp_if0 {c : Prop} {i : Decidable c} {a b : An α} (h : ¬c) (q : wp b Q E) : wp (if c then a else b) Q E := by rw [if_neg h]; exact q
theorem wp_ifd {p : Prop} {i : Decidable p} {j : Decidable (decide p = true)} {a b : An α} (h1 : p → wp a Q E) (h2 : ¬p → wp b Q E) : wp (if decide p = true then a else b) Q E := by
  by_cases h : p
  · rw [if_pos (decide_eq_true h)]; exact h1 h
  · rw [if_neg (by simpa using h)]; exact h2 h
theorem wp_ifd1 {p : Prop} {i : Decidable p} {j : Decidable (decide p = true)} {a b : An α} (h : p) (q : wp a Q E) : wp (if decide p = true then a else b) Q E := by rw [if_pos (decide_eq_true h)]; exact q
theorem wp_ifd0 {p : Prop} {i : Decidable p} {j : Decidable (decide p = true)} {a b : An α} (h : ¬p) (q : wp b Q E) : wp (if decide p = true then a else b) Q E := by rw [if_neg (by simpa using h)]; exact q
theorem wp_ifn {p : Bool} {j : Decidable ((!p) = true)} {a b : An α} (q : wp (if p = true then b else a) Q E) : wp (if (!p) = true then a else b) Q E := by
  cases p with
  | true => rw [if_pos rfl] at q; rw [if_neg (by simp)]; exact q
  | false => rw [if_neg (by simp)] at q; rw [if_pos (by simp)]; exact q
theorem wp_ifb1 {p : Bool} {j : Decidable (p = true)} {a b : An α} (h : p = true) (q : wp a Q E) : wp (if p = true then a else b) Q E := by rw [if_pos h]; exact q
theorem wp_ifb0 {p : Bool} {j : Decidable (p = true)} {a b : An α} (h : p = false) (q : wp b Q E) : wp (if p = true then a else b) Q E := by rw [if_neg (by simp [h])]; exact q
theorem wp_ift {j : Decidable (true = true)} {a b : An α} (q : wp a Q E) : wp (if true = true then a else b) Q E := by rw [if_pos rfl]; exact q
theorem wp_iff {j : Decidable (false = true)} {a b : An α} (q : wp b Q E) : wp (if false = true then a else b) Q E := by rw [if_neg Bool.false_ne_true]; exact q
end
section
variable {Q : W → Sto → Prop} {QL : List W → Sto → Prop} {QB : Bool → Sto → Prop} {QO : Option Int → Sto → Prop} {QI : List W × GD → Sto → Prop} {E : XE} {env : En} {st : Sto} {f fa fb fc : FE} {fl : FA} {t tb : FT}
/-! ### expressions -/
theorem v_var {i : Nat} {w : W} (h : env[i]? = some (some w)) (q : Q w st) : wp (fVar i env st) Q E := by
  unfold fVar
  rw [h]
  exact q
theorem v_c {w : W} (q : Q w st) : wp (fC w env st) Q E := q
theorem v_bin {g : W → W → Sto → An W} (h : wp (fa env st) (fun x s => wp (fb env s) (fun y s' => wp (g x y s') Q E) E) E) : wp (fBin g fa fb env st) Q E := wp_bind (wp_mono h (fun _ _ h => wp_bind h) fun _ _ _ h => h)
theorem v_cmp {g : W → W → Sto → Option Bool} (h : wp (fa env st) (fun x s => wp (fb env s) (fun y s' => wp (optB (g x y s') s') QB E) E) E) : wp (fCmp g fa fb env st) QB E := wp_bind (wp_mono h (fun _ _ h => wp_bind h) fun _ _ _ h => h)
theorem v_cmpE {g : W → W → Sto → Option Bool} (h : wp (fa env st) (fun x s => wp (fb env s) (fun y s' => wp (optB (g x y s') s') (fun k _ => Q (.bl k) s') E) E) E) : wp (fCmpE g fa fb env st) Q E :=
  wp_bind (wp_mono h (fun _ _ h => wp_bind (wp_mono h (fun _ _ h => wp_bind h) fun _ _ _ h => h)) fun _ _ _ h => h)
theorem v_chn {g g' : W → W → Sto → Option Bool} (h : wp (fa env st) (fun x s => wp (fb env s) (fun y s2 => wp (optB (g x y s2) s2) (fun k _ => wp (if k = true then (fc env s2).bind fun z s3 => optB (g' y z s3) s3 else .ok false s2) QB E) E) E) E) : wp (fChn g g' fa fb fc env st) QB E :=
  wp_bind (wp_mono h (fun _ _ h => wp_bind (wp_mono h (fun _ _ h => wp_bind h) fun _ _ _ h => h)) fun _ _ _ h => h)
theorem v_chnE {g g' : W → W → Sto → Option Bool} (h : wp (fa env st) (fun x s => wp (fb env s) (fun y s2 => wp (optB (g x y s2) s2) (fun k _ => wp (if k = true then (fc env s2).bind fun z s3 => (optB (g' y z s3) s3).bind fun k _ => .ok (.bl k) s3 else .ok (.bl false) s2) Q E) E) E) E) : wp (fChnE g g' fa fb fc env st) Q E :=
  wp_bind (wp_mono h (fun _ _ h => wp_bind (wp_mono h (fun _ _ h => wp_bind h) fun _ _ _ h => h)) fun _ _ _ h => h)
theorem v_tru (h : wp (f env st) (fun x s => wp (optB (truW s x) s) QB E) E) : wp (fTru f env st) QB E := wp_bind h
theorem v_notT (h : wp (t env st) (fun x s => QB (!x) s) E) : wp (fNotT t env st) QB E := wp_bind h
theorem v_andT (h : wp (t env st) (fun x s => wp (if x = true then tb env s else .ok false s) QB E) E) : wp (fAndT t tb env st) QB E := wp_bind h
theorem v_orT (h : wp (t env st) (fun x s => wp (if x = true then .ok true s else tb env s) QB E) E) : wp (fOrT t tb env st) QB E := wp_bind h
theorem v_or (h : wp (fa env st) (fun x s => wp (optB (truW s x) s) (fun k _ => wp (if k = true then .ok x s else fb env s) Q E) E) E) : wp (fOr fa fb env st) Q E := wp_bind (wp_mono h (fun _ _ h => wp_bind h) fun _ _ _ h => h)
theorem v_and (h : wp (fa env st) (fun x s => wp (optB (truW s x) s) (fun k _ => wp (if k = true then fb env s else .ok x s) Q E) E) E) : wp (fAnd fa fb env st) Q E := wp_bind (wp_mono h (fun _ _ h => wp_bind h) fun _ _ _ h => h)
theorem v_not (h : wp (fa env st) (fun x s => wp (optB (truW s x) s) (fun k _ => Q (.bl (!k)) s) E) E) : wp (fNot fa env st) Q E := wp_bind (wp_mono h (fun _ _ h => wp_bind h) fun _ _ _ h => h)
theorem v_if (h : wp (t env st) (fun x s => wp (if x = true then fa env s else fb env s) Q E) E) : wp (fIf t fa fb env st) Q E := wp_bind h
theorem v_neg (h : wp (f env st) (fun x s => ∃ i, x = .int i ∧ Q (.int (-i)) s) E) : wp (fNeg f env st) Q E := wp_bind (wp_mono h (fun _ _ ⟨i, e, q⟩ => by subst e; exact q) fun _ _ _ h => h)
theorem v_nil (q : QL [] st) : wp (fNil env st) QL E := q
theorem v_cons (h : wp (f env st) (fun w s => wp (fl env s) (fun ws s' => QL (w :: ws) s') E) E) : wp (fCons f fl env st) QL E := wp_bind (wp_mono h (fun _ _ h => wp_bind h) fun _ _ _ h => h)
theorem v_tup (h : wp (fl env st) (fun ws s => ws.length ≤ 1000 ∧ Q (.tup ws) s) E) : wp (fTup fl env st) Q E := wp_bind (wp_mono h (fun _ _ h => wp_if1 h.1 h.2) fun _ _ _ h => h)
theorem v_lst (h : wp (fl env st) (fun ws s => ws.length ≤ 1000 ∧ Q (.ref s.length) (s ++ [.lst ws])) E) : wp (fLst fl env st) Q E := wp_bind (wp_mono h (fun _ _ h => wp_if1 h.1 h.2) fun _ _ _ h => h)
theorem v_no (q : QO none st) : wp (fNo env st) QO E := q
theorem v_so (h : wp (f env st) (fun x s => ∃ i, x = .int i ∧ QO (some i) s) E) : wp (fSo f env st) QO E := wp_bind (wp_mono h (fun _ _ ⟨i, e, q⟩ => by subst e; exact q) fun _ _ _ h => h)
theorem v_sl {lo hi : FO} (h : wp (f env st) (fun x s => wp (lo env s) (fun l s2 => wp (hi env s2) (fun r s3 => wp (wSl x l r s3) Q E) E) E) E) : wp (fSl f lo hi env st) Q E :=
  wp_bind (wp_mono h (fun _ _ h => wp_bind (wp_mono h (fun _ _ h => wp_bind h) fun _ _ _ h => h)) fun _ _ _ h => h)
theorem v_call {g : List W → Sto → An W} (h : wp (fl env st) (fun ws s => wp (g ws s) Q E) E) : wp (fCall g fl env st) Q E := wp_bind h
theorem v_fn {n : Nat} {F : FF} (h : wp (fl env st) (fun ws s => ws.length = n ∧ wp (F ws s) Q E) E) : wp (fFn n F fl env st) Q E := wp_bind (wp_mono h (fun _ _ h => wp_if1 h.1 h.2) fun _ _ _ h => h)
theorem v_fnK {n m : Nat} {F : FF} {fm : FA} (h : wp (fl env st) (fun ws s => wp (fm env s) (fun zs s2 => (ws.length = n ∧ zs.length = m) ∧ wp (F (ws ++ zs) s2) Q noX) E) E) : wp (fFnK n m F fl fm env st) Q E :=
  wp_bind (wp_mono h (fun _ _ h => wp_bind (wp_mono h (fun _ _ h => wp_if1 h.1 (wp_noex h.2)) fun _ _ _ h => h)) fun _ _ _ h => h)
theorem v_ask {n i : Nat} {D : List (Str × FF)} {x : Str} {F : FF} (he : env[i]? = some (some (.gl x))) (hD : D.lookup x = some F) (h : wp (fl env st) (fun ws s => ws.length = n ∧ wp (F ws s) Q E) E) : wp (fAsk n i D fl env st) Q E := by
  unfold fAsk
  rw [he]
  dsimp only
  rw [hD]
  exact v_fn h
theorem v_mt {q : Sto → W → Bool} {g : W → List W → Sto → An W} (h : wp (f env st) (fun o s => q s o = true ∧ wp (fl env s) (fun ws s2 => wp (g o ws s2) Q E) E) E) : wp (fMt q g f fl env st) Q E := wp_bind (wp_mono h (fun _ _ h => wp_if1 h.1 (wp_bind h.2)) fun _ _ _ h => h)
theorem v_m1 {g : W → W → Sto → An W} (h : wp (fa env st) (fun x s => isStr x = true ∧ wp (fb env s) (fun y s2 => wp (g x y s2) Q E) E) E) : wp (fM1 g fa fb env st) Q E := wp_bind (wp_mono h (fun _ _ h => wp_if1 h.1 (wp_bind h.2)) fun _ _ _ h => h)
theorem v_listR (h : wp (f env st) (fun w s => ∃ n : Int, w = .int n ∧ (0 ≤ n ∧ n ≤ 1000000) ∧ Q (.ref s.length) (s ++ [.lst (rngW 0 n)])) E) : wp (fListR f env st) Q E := wp_bind (wp_mono h (fun _ _ ⟨i, e, c, q⟩ => by subst e; exact wp_if1 c q) fun _ _ _ h => h)
theorem v_tupleR (h : wp (f env st) (fun w s => ∃ n : Int, w = .int n ∧ (0 ≤ n ∧ n ≤ 1000000) ∧ Q (.tup (rngW 0 n)) s) E) : wp (fTupleR f env st) Q E := wp_bind (wp_mono h (fun _ _ ⟨i, e, c, q⟩ => by subst e; exact wp_if1 c q) fun _ _ _ h => h)
theorem v_dict0 (q : Q (.ref st.length) (st ++ [.dct []])) : wp (fDict0 env st) Q E := q
theorem v_rev (h : wp (f env st) (fun x s => ∃ l, getL s x = some l ∧ Q (.ref s.length) (s ++ [.lst l.reverse])) E) : wp (fRev f env st) Q E := wp_bind (wp_mono h (fun _ _ ⟨l, e, q⟩ => by rw [e]; exact q) fun _ _ _ h => h)
theorem v_mk {C : Str} (h : wp (f env st) (fun _ s => Q (.ref s.length) (s ++ [.exc C []])) E) : wp (fMk C f env st) Q E := wp_bind h
/-! ### whole numbers, texts, tuples -/
theorem v_addI {i j : Int} (q : Q (.int (i + j)) st) : wp (wAdd (.int i) (.int j) st) Q E := q
theorem v_addS {i j : Str} (h : i.length + j.length ≤ sizeLine) (q : Q (.str (i ++ j)) st) : wp (wAdd (.str i) (.str j) st) Q E := wp_if1 h q
theorem v_addT {a b : List W} (h : a.length + b.length ≤ sizeLine) (q : Q (.tup (a ++ b)) st) : wp (wAdd (.tup a) (.tup b) st) Q E := wp_if1 h q
theorem v_addIa {i j : Int} (q : Q (.int (i + j)) st) : wp (wAddI (.int i) (.int j) st) Q E := q
theorem v_addGI {i j : Int} (q : Q (.int (i + j)) st) : wp (wAddG (.int i) (.int j) st) Q E := q
theorem v_addGT {a b : List W} (h : a.length + b.length ≤ sizeLine) (q : Q (.tup (a ++ b)) st) : wp (wAddG (.tup a) (.tup b) st) Q E := wp_if1 h q
theorem v_subI {i j : Int} (q : Q (.int (i - j)) st) : wp (wSub (.int i) (.int j) st) Q E := q
theorem v_mulI {i j : Int} (h : j.natAbs < 2 ^ 60 ∨ (i.natAbs < BigN ∧ j.natAbs < BigN)) (q : Q (.int (i * j)) st) : wp (wMul (.int i) (.int j) st) Q E := wp_if1 (Or.comm.mp h) q
theorem v_mulT {a : List W} {k : Int} (h : a ≠ [] ∧ 2 ≤ k ∧ k ≤ 1000 ∧ a.length ≤ 1000) (q : Q (.tup (List.replicate k.toNat a).flatten) st) : wp (wMul (.tup a) (.int k) st) Q E := wp_if1 h q
theorem v_mulL {n : Nat} {a : List W} {k : Int} (hs : st[n]? = some (.lst a)) (h : 0 ≤ k ∧ k ≤ 1000 ∧ a.length ≤ 1000) (q : Q (.ref st.length) (st ++ [.lst (List.replicate k.toNat a).flatten])) : wp (wMul (.ref n) (.int k) st) Q E := wp_eq (by simp only [wMul, hs, if_pos h]) q
theorem getT_mapS {ys : List Str} : getT (ys.map W.str) = some ys := by
  induction ys with
  | nil => rfl
  | cons y ys ih => simp only [List.map_cons, getT, ih, Option.map_some]
theorem v_joinL {n : Nat} {a : Str} {ys : List Str} (hs : st[n]? = some (.lst (ys.map W.str))) (h : (ys.map (·.length)).sum + ys.length * a.length ≤ 16777216) (q : Q (.str (Txt.join a ys)) st) : wp (wJoin (.str a) (.ref n) st) Q E :=
  wp_eq (by simp only [wJoin, getS, getL, hs, Option.bind_some, getT_mapS, optB_some, An.bind_ok, if_pos h]) q
theorem v_fdivI {i j : Int} (h : 0 < j ∧ j.natAbs < BigN) (q : Q (.int (i / j)) st) : wp (wFdiv (.int i) (.int j) st) Q E := wp_if1 (decide_eq_true h) q
theorem v_modI {i j : Int} (h : 0 < j) (q : Q (.int (i % j)) st) : wp (wMod (.int i) (.int j) st) Q E := wp_if1 (decide_eq_true h) q
theorem v_powI {i j : Int} (h : 0 ≤ j ∧ j ≤ 100 ∧ i.natAbs < 2 ^ 300) (q : Q (.int (i ^ j.toNat)) st) : wp (wPow (.int i) (.int j) st) Q E := wp_if1 (decide_eq_true h) q
theorem v_powE {i j k : Int} (h : 0 ≤ j ∧ j ≤ 100 ∧ i.natAbs < 2 ^ 300) (e : i ^ j.toNat = k) (q : Q (.int k) st) : wp (wPow (.int i) (.int j) st) Q E := by
  subst e
  exact v_powI h q
theorem v_andI {i j : Int} (q : Q (.int (Builtin.bitAnd i j)) st) : wp (wAnd (.int i) (.int j) st) Q E := q
theorem v_orI {i j : Int} (q : Q (.int (Builtin.bitOr i j)) st) : wp (wOr (.int i) (.int j) st) Q E := q
theorem v_shrI {i j : Int} (h : 0 ≤ j) (q : Q (.int (i / 2 ^ j.toNat)) st) : wp (wShr (.int i) (.int j) st) Q E := wp_if1 (decide_eq_true h) q
theorem v_ltI {i j : Int} (q : QB (decide (i < j)) st) : wp (optB (wLt (.int i) (.int j) st) st) QB E := q
theorem v_leI {i j : Int} (q : QB (decide (i ≤ j)) st) : wp (optB (wLe (.int i) (.int j) st) st) QB E := q
theorem v_gtI {i j : Int} (q : QB (decide (j < i)) st) : wp (optB (wGt (.int i) (.int j) st) st) QB E := q
theorem v_geI {i j : Int} (q : QB (decide (j ≤ i)) st) : wp (optB (wGe (.int i) (.int j) st) st) QB E := q
theorem v_eqI {i j : Int} (q : QB (decide (i = j)) st) : wp (optB (wEq (.int i) (.int j) st) st) QB E := q
theorem v_neI {i j : Int} (q : QB (!decide (i = j)) st) : wp (optB (wNe (.int i) (.int j) st) st) QB E := q
theorem v_eqS {i j : Str} (q : QB (decide (i = j)) st) : wp (optB (wEq (.str i) (.str j) st) st) QB E := q
theorem v_neS {i j : Str} (q : QB (!decide (i = j)) st) : wp (optB (wNe (.str i) (.str j) st) st) QB E := q
theorem v_eqW {x y : W} {b : Bool} (h : eqW st x y = some b) (q : QB b st) : wp (optB (wEq x y st) st) QB E := wp_opt h q
theorem v_neW {x y : W} {b : Bool} (h : eqW st x y = some b) (q : QB (!b) st) : wp (optB (wNe x y st) st) QB E := by
  unfold wNe
  rw [h]
  exact q
theorem v_truB {b : Bool} (q : QB b st) : wp (optB (truW st (.bl b)) st) QB E := q
theorem v_truI {i : Int} (q : QB (i != 0) st) : wp (optB (truW st (.int i)) st) QB E := q
theorem v_truN (q : QB false st) : wp (optB (truW st .non) st) QB E := q
theorem v_truT {l : List W} (q : QB (!l.isEmpty) st) : wp (optB (truW st (.tup l)) st) QB E := q
theorem v_ixT {l : List W} {i : Int} {w : W} (h : atI l i = some w) (q : Q w st) : wp (wIxA (.tup l) (.int i) st) Q E := wp_opt (show (some l).bind (fun l => atI l i) = some w from h) q
theorem v_ixR {l : List W} {i : Int} {w : W} (h : atI l i = some w) (q : Q w st) : wp (wIxA (.rol l) (.int i) st) Q E := wp_opt (show (some l).bind (fun l => atI l i) = some w from h) q
theorem v_ixL {n : Nat} {l : List W} {i : Int} {w : W} (hs : st[n]? = some (.lst l)) (h : atI l i = some w) (q : Q w st) : wp (wIxA (.ref n) (.int i) st) Q E := wp_opt (by rw [wIx_at hs]; exact h) q
theorem v_slT {l : List W} {lo hi : Option Int} (q : Q (.tup (cutL l lo hi)) st) : wp (wSl (.tup l) lo hi st) Q E := q
theorem v_slL {n : Nat} {l : List W} {lo hi : Option Int} (hs : st[n]? = some (.lst l)) (q : Q (.ref st.length) (st ++ [.lst (cutL l lo hi)])) : wp (wSl (.ref n) lo hi st) Q E := by
  have e : getL st (.ref n) = some l := by simp only [getL, hs]
  show wp (match getL st (.ref n) with | some l => _ | none => _) Q E
  rw [e]
  exact q
theorem v_inK {x : Str} {D : List (Str × W)} {z : Str} (q : QB (D.lookup z).isSome st) : wp (optB (wInK x D false (.str z) (.gl x) st) st) QB E := wp_opt (show (if x = x then some (if false then !(D.lookup z).isSome else (D.lookup z).isSome) else none) = _ from if_pos rfl) q
theorem v_notInK {x : Str} {D : List (Str × W)} {z : Str} (q : QB (!(D.lookup z).isSome) st) : wp (optB (wInK x D true (.str z) (.gl x) st) st) QB E := wp_opt (show (if x = x then some (if true then !(D.lookup z).isSome else (D.lookup z).isSome) else none) = _ from if_pos rfl) q
theorem v_ixK {x : Str} {D : List (Str × W)} {z : Str} {w : W} (h : D.lookup z = some w) (q : Q w st) : wp (wIxK x D (.gl x) (.str z) st) Q E := by
  show wp (if x = x then optB (D.lookup z) st else .bad) Q E
  rw [if_pos rfl, h]
  exact q
theorem v_sortSet {f : FE} (h : wp (f env st) (fun x s => ∃ (l : List W) (ns : List Int), x = .tup l ∧ getI l = some ns ∧ ns.length < 64 ∧ Q (.ref s.length) (s ++ [.lst ((setI ns).map .int)])) E) : wp (fSortSet f env st) Q E :=
  wp_bind (wp_mono h (fun _ _ ⟨l, ns, e, e2, e3, q⟩ => by subst e; dsimp only; rw [e2]; exact wp_if1 e3 q) fun _ _ _ h => h)
theorem v_lenT {l : List W} (q : Q (.int l.length) st) : wp (wLen [.tup l] st) Q E := q
theorem v_lenR {l : List W} (q : Q (.int l.length) st) : wp (wLen [.rol l] st) Q E := q
theorem v_lenL {n : Nat} {l : List W} (hs : st[n]? = some (.lst l)) (q : Q (.int l.length) st) : wp (wLen [.ref n] st) Q E := wp_eq (by simp only [wLen, hs]) q
theorem v_lenS {z : Str} (h : z.length ≤ sizeLine) (q : Q (.int z.length) st) : wp (wLen [.str z] st) Q E := wp_if1 h q
theorem v_absI {i : Int} (q : Q (.int (if i < 0 then -i else i)) st) : wp (wAbs [.int i] st) Q E := q
theorem v_intI {i : Int} (q : Q (.int i) st) : wp (wInt [.int i] st) Q E := q
theorem v_intB {k : Bool} (q : Q (.int (if k then 1 else 0)) st) : wp (wInt [.bl k] st) Q E := q
theorem v_strI {i : Int} (h : i.natAbs < 10 ^ 400) (q : Q (.str (toString i)) st) : wp (wStr [.int i] st) Q E := wp_if1 h q
theorem v_max2 {i j : Int} (q : Q (.int (if j > i then j else i)) st) : wp (wMax [.int i, .int j] st) Q E := q
theorem v_min2 {i j : Int} (q : Q (.int (if j < i then j else i)) st) : wp (wMin2 [.int i, .int j] st) Q E := q
theorem v_listT {l : List W} (q : Q (.ref st.length) (st ++ [.lst l])) : wp (wList [.tup l] st) Q E := q
theorem v_listL {n : Nat} {l : List W} (hs : st[n]? = some (.lst l)) (q : Q (.ref st.length) (st ++ [.lst l])) : wp (wList [.ref n] st) Q E := wp_eq (by simp only [wList, getS, getL, hs]) q
theorem v_tupleT {l : List W} (q : Q (.tup l) st) : wp (wTuple [.tup l] st) Q E := q
theorem v_tupleL {n : Nat} {l : List W} (hs : st[n]? = some (.lst l)) (q : Q (.tup l) st) : wp (wTuple [.ref n] st) Q E := wp_eq (by simp only [wTuple, getL, hs]) q
theorem v_app {n : Nat} {l : List W} {w : W} (hs : st[n]? = some (.lst l)) (hl : l.length < 100000) (q : Q .non (st.set n (.lst (l ++ [w])))) : wp (wApp (.ref n) [w] st) Q E := wp_eq (by simp only [wApp, hs, hl, if_true]) q
theorem v_appT {g : Sto} {l : List W} {w : W} (hl : l.length < 100000) (q : Q .non (st ++ Ob.lst (l ++ [w]) :: g)) : wp (wApp (.ref st.length) [w] (st ++ Ob.lst l :: g)) Q E := v_app sto_at hl (by rw [sto_set0]; exact q)
theorem isLst_at {n : Nat} {l : List W} (hs : st[n]? = some (.lst l)) : isLst st (.ref n) = true := by simp only [isLst, hs]
theorem getB_map {α : Type} {f : α → Bool} : ∀ {l : List α}, getB (l.map fun x => .bl (f x)) = some (l.map f)
  | [] => rfl
  | x :: l => by simp only [List.map_cons, getB, getB_map (l := l), Option.map_some]
theorem v_allL {α : Type} {n : Nat} {l : List α} {f : α → Bool} (hs : st[n]? = some (.lst (l.map fun x => .bl (f x)))) (q : Q (.bl (l.all f)) st) : wp (wAll [.ref n] st) Q E := by
  refine wp_eq (a := .bl (l.all f)) (s := st) ?_ q
  show (optB ((getL st (.ref n)).bind getB) st).bind _ = _
  simp only [getL, hs, Option.bind_some, getB_map, optB_some, An.bind_ok]
  congr 2
  induction l with
  | nil => rfl
  | cons x l ih => simp [List.all_map]
theorem v_anyL {α : Type} {n : Nat} {l : List α} {f : α → Bool} (hs : st[n]? = some (.lst (l.map fun x => .bl (f x)))) (q : Q (.bl (l.any f)) st) : wp (wAny [.ref n] st) Q E := by
  refine wp_eq (a := .bl (l.any f)) (s := st) ?_ q
  show (optB ((getL st (.ref n)).bind getB) st).bind _ = _
  simp only [getL, hs, Option.bind_some, getB_map, optB_some, An.bind_ok]
  congr 2
  induction l with
  | nil => rfl
  | cons x l ih => simp [List.any_map]
/-! ### what is walked -/
theorem v_it {g : List W → Sto → An (List W × GD)} (h : wp (fl env st) (fun ws s => wp (g ws s) QI E) E) : wp (fIt g fl env st) QI E := wp_bind h
theorem v_it1 {g : W → Sto → An (List W × GD)} (h : wp (f env st) (fun x s => wp (g x s) QI E) E) : wp (fI1 g f env st) QI E := wp_bind h
theorem v_seqI (h : wp (f env st) (fun x s => wp (optB (seqJ s x) s) QI E) E) : wp (fSeqI f env st) QI E := wp_bind h
theorem v_seqT {l : List W} (q : QI (l, none) st) : wp (optB (seqJ st (.tup l)) st) QI E := q
theorem v_seqR {l : List W} (q : QI (l, none) st) : wp (optB (seqJ st (.rol l)) st) QI E := q
theorem v_seqS {z : Str} (q : QI (z.cps.toList.map fun c => .str ⟨#[c]⟩, none) st) : wp (optB (seqJ st (.str z)) st) QI E := q
theorem v_seqL {n : Nat} {l : List W} (hs : st[n]? = some (.lst l)) (q : QI (l, some (n, l)) st) : wp (optB (seqJ st (.ref n)) st) QI E := wp_opt (by simp only [seqJ, seqI, hs]) q
theorem v_rng1 {b : Int} (h : okR 0 b) (q : QI (rngW 0 b, none) st) : wp (wRng1 [.int b] st) QI E := wp_if1 h q
theorem v_rng2 {a b : Int} (h : okR a b) (q : QI (rngW a b, none) st) : wp (wRng2 [.int a, .int b] st) QI E := wp_if1 h q
theorem v_revR {b : Int} (h : okR 0 b) (q : QI ((rngW 0 b).reverse, none) st) : wp (wRevR (.int b) st) QI E := wp_if1 h q
theorem v_enumT {l : List W} (q : QI (enumW 0 l, none) st) : wp (wEnum (.tup l) st) QI E := q
theorem v_enumL {n : Nat} {l : List W} (hs : st[n]? = some (.lst l)) (q : QI (enumW 0 l, some (n, l)) st) : wp (wEnum (.ref n) st) QI E := wp_bind (wp_opt (a := (l, some (n, l))) (by simp only [seqI, hs]) q)
theorem v_enumL1 {n : Nat} {l : List W} (hs : st[n]? = some (.lst l)) (q : QI (enumW 0 l, some (n, l)) st) : wp (wEnum (.ref n) st) QI E := v_enumL hs q
theorem v_zipT {l m : List W} (q : QI (zipW l m, none) st) : wp (wZip [.tup l, .tup m] st) QI E := q
end
/-! ### statements -/
section
variable {nx : En → Sto → Prop} {rt : W → Sto → Prop} {lp : Bool → En → Sto → Prop} {ex : Str → Flds → En → Sto → Prop} {env : En} {st : Sto} {f g : FS} {t : FT} {fe : FE}
theorem ws_mono {m : SA} {nx' : En → Sto → Prop} {rt' : W → Sto → Prop} {lp' : Bool → En → Sto → Prop} {ex' : Str → Flds → En → Sto → Prop} (h : ws m nx rt lp ex) (k1 : ∀ e s, nx e s → nx' e s) (k2 : ∀ e s, rt e s → rt' e s) (k3 : ∀ b e s, lp b e s → lp' b e s) (k4 : ∀ C fs e s, ex C fs e s → ex' C fs e s) : ws m nx' rt' lp' ex' := by
  cases m with
  | nx e s => exact k1 _ _ h
  | rt e s => exact k2 _ _ h
  | bk e s => exact k3 _ _ _ h
  | ct e s => exact k3 _ _ _ h
  | ex C fs e s => exact k4 _ _ _ _ h
  | bad => exact h
theorem ws_toS {α : Type} {m : An α} {k : α → Sto → SA} (h : wp m (fun a s => ws (k a s) nx rt lp ex) fun C fs s => ex C fs env s) : ws (m.toS env k) nx rt lp ex := by
  cases m with
  | ok a s => exact h
  | ex C fs s => exact h
  | bad => exact h
theorem ws_seq (h : ws (f env st) (fun e s => ws (g e s) nx rt lp ex) rt lp ex) : ws (fSeq f g env st) nx rt lp ex := by
  unfold fSeq
  cases e : f env st with
  | nx e s => rw [e] at h; exact h
  | rt e s => rw [e] at h; exact h
  | bk e s => rw [e] at h; exact h
  | ct e s => rw [e] at h; exact h
  | ex C fs e s => rw [e] at h; exact h
  | bad => rw [e] at h; exact h
/-- environments, written out -/
class NSet (e : En) (i : Nat) (v : Option W) (e' : outParam En) : Prop where
  eq : e.set i v = e'
instance {x v : Option W} {r : En} : NSet (x :: r) 0 v (v :: r) := ⟨rfl⟩
instance {x v : Option W} {r r' : En} {i : Nat} [h : NSet r i v r'] : NSet (x :: r) (i + 1) v (x :: r') := ⟨by rw [List.set_cons_succ, h.eq]⟩
instance {e e1 e2 : En} {i j : Nat} {v u : Option W} [h : NSet e i v e1] [k : NSet e1 j u e2] : NSet (e.set i v) j u e2 := ⟨by rw [h.eq, k.eq]⟩
class NRep (n : Nat) (e : outParam En) : Prop where
  eq : List.replicate n none = e
instance : NRep 0 [] := ⟨rfl⟩
instance {n : Nat} {r : En} [h : NRep n r] : NRep (n + 1) (none :: r) := ⟨by rw [List.replicate_succ, h.eq]⟩
class NSta (n : Nat) (a : List W) (e : outParam En) : Prop where
  eq : Sw.start n a = e
instance {n : Nat} {r : En} [h : NRep n r] : NSta n [] r := ⟨by simpa [Sw.start] using h.eq⟩
instance {n : Nat} {a : W} {l : List W} {r : En} [h : NSta n l r] : NSta (n + 1) (a :: l) (some a :: r) := ⟨by
  have := h.eq
  simp only [Sw.start, List.map_cons, List.length_cons, List.cons_append, Nat.add_sub_add_right] at this ⊢
  rw [this]⟩
theorem ws_seqS {e e' : En} {i : Nat} {v : Option W} [h : NSet e i v e'] (q : ws (fSeq f g e' st) nx rt lp ex) : ws (fSeq f g (e.set i v) st) nx rt lp ex := by rw [h.eq]; exact q
theorem ws_ifS {e e' : En} {i : Nat} {v : Option W} [h : NSet e i v e'] (q : ws (fIfS t f g e' st) nx rt lp ex) : ws (fIfS t f g (e.set i v) st) nx rt lp ex := by rw [h.eq]; exact q
theorem ws_forN {it : FI} {tg : FG} {e e' : En} {i : Nat} {v : Option W} [h : NSet e i v e'] (q : ws (fFor it tg f e' st) nx rt lp ex) : ws (fFor it tg f (e.set i v) st) nx rt lp ex := by rw [h.eq]; exact q
theorem ws_next (q : nx env st) : ws (fNext env st) nx rt lp ex := q
theorem ws_brk (q : lp true env st) : ws (fBrk env st) nx rt lp ex := q
theorem ws_cnt (q : lp false env st) : ws (fCnt env st) nx rt lp ex := q
theorem ws_set {i : Nat} (h : wp (fe env st) (fun w s => nx (env.set i (some w)) s) fun C fs s => ex C fs env s) : ws (fSet i fe env st) nx rt lp ex := ws_toS h
theorem ws_ret (h : wp (fe env st) rt fun C fs s => ex C fs env s) : ws (fRet fe env st) nx rt lp ex := ws_toS h
theorem ws_retN (q : rt .non st) : ws (fRetN env st) nx rt lp ex := q
theorem ws_drop (h : wp (fe env st) (fun _ s => nx env s) fun C fs s => ex C fs env s) : ws (fDrop fe env st) nx rt lp ex := ws_toS h
theorem ws_if (h : wp (t env st) (fun k s => ws (if k = true then f env s else g env s) nx rt lp ex) fun C fs s => ex C fs env s) : ws (fIfS t f g env st) nx rt lp ex := ws_toS h
theorem ws_ite {c : Prop} {i : Decidable c} {a b : SA} (h1 : c → ws a nx rt lp ex) (h2 : ¬c → ws b nx rt lp ex) : ws (if c then a else b) nx rt lp ex := by
  split
  · exact h1 ‹_›
  · exact h2 ‹_›
theorem ws_if1 {c : Prop} {i : Decidable c} {a b : SA} (h : c) (q : ws a nx rt lp ex) : ws (if c then a else b) nx rt lp ex := by rw [if_pos h]; exact q
theorem ws_if0 {c : Prop} {i : Decidable c} {a b : SA} (h : ¬c) (q : ws b nx rt lp ex) : ws (if c then a else b) nx rt lp ex := by rw [if_neg h]; exact q
theorem ws_ifd {p : Prop} {i : Decidable p} {j : Decidable (decide p = true)} {a b : SA} (h1 : p → ws a nx rt lp ex) (h2 : ¬p → ws b nx rt lp ex) : ws (if decide p = true then a else b) nx rt lp ex := by
  by_cases h : p
  · rw [if_pos (decide_eq_true h)]; exact h1 h
  · rw [if_neg (by simpa using h)]; exact h2 h
theorem ws_ifd1 {p : Prop} {i : Decidable p} {j : Decidable (decide p = true)} {a b : SA} (h : p) (q : ws a nx rt lp ex) : ws (if decide p = true then a else b) nx rt lp ex := by rw [if_pos (decide_eq_true h)]; exact q
theorem ws_ifd0 {p : Prop} {i : Decidable p} {j : Decidable (decide p = true)} {a b : SA} (h : ¬p) (q : ws b nx rt lp ex) : ws (if decide p = true then a else b) nx rt lp ex := by rw [if_neg (by simpa using h)]; exact q
theorem ws_ifn {p : Bool} {j : Decidable ((!p) = true)} {a b : SA} (q : ws (if p = true then b else a) nx rt lp ex) : ws (if (!p) = true then a else b) nx rt lp ex := by
  cases p with
  | true => rw [if_pos rfl] at q; rw [if_neg (by simp)]; exact q
  | false => rw [if_neg (by simp)] at q; rw [if_pos (by simp)]; exact q
theorem ws_ift {j : Decidable (true = true)} {a b : SA} (q : ws a nx rt lp ex) : ws (if true = true then a else b) nx rt lp ex := by rw [if_pos rfl]; exact q
theorem ws_iff {j : Decidable (false = true)} {a b : SA} (q : ws b nx rt lp ex) : ws (if false = true then a else b) nx rt lp ex := by rw [if_neg Bool.false_ne_true]; exact q
theorem ws_ifb1 {p : Bool} {j : Decidable (p = true)} {a b : SA} (h : p = true) (q : ws a nx rt lp ex) : ws (if p = true then a else b) nx rt lp ex := by rw [if_pos h]; exact q
theorem ws_ifb0 {p : Bool} {j : Decidable (p = true)} {a b : SA} (h : p = false) (q : ws b nx rt lp ex) : ws (if p = true then a else b) nx rt lp ex := by rw [if_neg (by simp [h])]; exact q
theorem ws_par2 {i j : Nat} {fl : FA} (h : wp (fl env st) (fun ws s => ∃ x y, ws = [x, y] ∧ nx ((env.set i (some x)).set j (some y)) s) fun C fs s => ex C fs env s) : ws (fPar2 i j fl env st) nx rt lp ex :=
  ws_toS (wp_mono h (fun _ _ ⟨x, y, e, q⟩ => by subst e; exact q) fun _ _ _ h => h)
theorem ws_par3 {i j m : Nat} {fl : FA} (h : wp (fl env st) (fun ws s => ∃ x y z, ws = [x, y, z] ∧ nx (((env.set i (some x)).set j (some y)).set m (some z)) s) fun C fs s => ex C fs env s) : ws (fPar3 i j m fl env st) nx rt lp ex :=
  ws_toS (wp_mono h (fun _ _ ⟨x, y, z, e, q⟩ => by subst e; exact q) fun _ _ _ h => h)
theorem ws_gSeqN {n : Nat} {gs : FGs} {w : W} {l : List W} (hg : getS st w = some l) (hi : l.length = n) (h : ws (gs l env st) nx rt lp ex) : ws (gSeqN n gs w env st) nx rt lp ex := by
  unfold gSeqN
  rw [hg]
  dsimp only
  rw [if_pos hi]
  exact h
theorem getS_at {n : Nat} {l : List W} (hs : st[n]? = some (.lst l)) : getS st (.ref n) = some l := by simp only [getS, getL, hs]
theorem ws_gStarN {i : Nat} {gs : FGs} {w : W} {l : List W} (hg : getS st w = some l) (hi : i ≤ l.length) (h : ws (gs (l.take i ++ [.ref st.length]) env (st ++ [.lst (l.drop i)])) nx rt lp ex) : ws (gStarN i gs w env st) nx rt lp ex := by
  unfold gStarN
  rw [hg]
  dsimp only
  rw [if_pos hi]
  exact h
theorem ws_asg {tg : FG} (h : wp (fe env st) (fun w s => ws (tg w env s) nx (fun _ _ => False) (fun _ _ _ => False) fun _ _ _ _ => False) fun C fs s => ex C fs env s) : ws (fAsg fe tg env st) nx rt lp ex := by
  refine ws_toS (wp_mono h (fun w s h => ?_) fun _ _ _ h => h)
  cases e : tg w env s with
  | nx e s => rw [e] at h; exact h
  | _ => rw [e] at h; exact h.elim
theorem ws_aug {i : Nat} {g : W → W → Sto → An W} {x : W} (hx : env[i]? = some (some x)) (h : wp (fe env st) (fun y s => wp (g x y s) (fun z s' => nx (env.set i (some z)) s') fun C fs s => ex C fs env s) fun C fs s => ex C fs env s) : ws (fAug i g fe env st) nx rt lp ex := by
  refine ws_toS (v_var hx (ws_toS (wp_bind h)))
theorem ws_gN {i : Nat} {w : W} (q : nx (env.set i (some w)) st) : ws (gN i w env st) nx rt lp ex := q
theorem ws_gTup {n : Nat} {gs : FGs} {l : List W} (h : l.length = n) (q : ws (gs l env st) nx rt lp ex) : ws (gTupW n gs (.tup l) env st) nx rt lp ex := by
  show ws (if l.length = n then gs l env st else .bad) nx rt lp ex
  rw [if_pos h]
  exact q
theorem ws_gsNil (q : nx env st) : ws (gsNil [] env st) nx rt lp ex := q
theorem ws_gsCons {gg : FG} {gs : FGs} {w : W} {l : List W} (h : ws (gg w env st) (fun e s => ws (gs l e s) nx rt lp ex) (fun _ _ => False) (fun _ _ _ => False) fun _ _ _ _ => False) : ws (gsCons gg gs (w :: l) env st) nx rt lp ex := by
  show ws (match gg w env st with | .nx env1 st1 => gs l env1 st1 | _ => .bad) nx rt lp ex
  cases e : gg w env st with
  | nx e s => rw [e] at h; exact h
  | _ => rw [e] at h; exact h.elim
theorem ws_gsConsE {gg : FG} {gs : FGs} {w : W} {l l' : List W} (e : l' = w :: l) (h : ws (gg w env st) (fun e s => ws (gs l e s) nx rt lp ex) (fun _ _ => False) (fun _ _ _ => False) fun _ _ _ _ => False) : ws (gsCons gg gs l' env st) nx rt lp ex := by
  subst e
  exact ws_gsCons h
theorem ws_gsNilE {l : List W} (e : l = []) (q : nx env st) : ws (gsNil l env st) nx rt lp ex := by
  subst e
  exact q
theorem ws_gStar {gs : FGs} {n : Nat} {x : W} {l : List W} (hs : st[n]? = some (.lst (x :: l))) (h : ws (gs [x, .ref st.length] env (st ++ [.lst l])) nx rt lp ex) : ws (gStarW gs (.ref n) env st) nx rt lp ex := by
  unfold gStarW
  simp only [getL, hs]
  exact h
theorem ws_gSub {fo fi : FE} {w : W} (h : wp (fo env st) (fun o s => wp (fi env s) (fun i s2 => ∃ s3, wSet o i w s2 = some s3 ∧ nx env s3) noX) noX) : ws (gSubW fo fi w env st) nx rt lp ex := by
  obtain ⟨o, s, e1, h⟩ := wp_get h
  obtain ⟨i, s2, e2, s3, e3, h⟩ := wp_get h
  unfold gSubW
  simp only [e1, e2, An.bind_ok, e3, optB_some]
  exact h
theorem ws_raise {C : Str} (q : ex C [] env st) : ws (fRaise C env st) nx rt lp ex := q
theorem ws_raiseD {C fl : Str} (h : wp (fe env st) (fun w s => ex C [(fl, w)] env s) fun C fs s => ex C fs env s) : ws (fRaiseD C fl fe env st) nx rt lp ex := ws_toS h
theorem ws_tryK {tab : Str → Option Bool} {i j : Nat} (h : ws (f env st) nx rt lp fun C fs e s => (tab C = some true ∧ i < e.length ∧ nx (((e.set i (some (.ref s.length))).set j (some (.ref s.length))).set i none) (s ++ [.exc C fs])) ∨ (tab C = some false ∧ ex C fs e s)) : ws (fTryK tab i j f env st) nx rt lp ex := by
  unfold fTryK
  cases e : f env st with
  | ex C fs e' s =>
    rw [e] at h
    rcases h with ⟨a, b, c⟩ | ⟨a, c⟩
    · dsimp only
      rw [a]
      dsimp only
      rw [if_pos b]
      exact c
    · dsimp only
      rw [a]
      exact c
  | nx _ _ => rw [e] at h; exact h
  | rt _ _ => rw [e] at h; exact h
  | bk _ _ => rw [e] at h; exact h
  | ct _ _ => rw [e] at h; exact h
  | bad => rw [e] at h; exact h
theorem ws_for {it : FI} {tg : FG} (h : wp (it env st) (fun p s => ws (forS p.2 tg f p.1 env s) nx rt lp ex) fun C fs s => ex C fs env s) : ws (fFor it tg f env st) nx rt lp ex := ws_toS h
/-- a loop by what holds ahead of each turn -/
theorem ws_forS {gd : GD} {tg : FG} {items : List W} (I : List W → En → Sto → Prop) (h0 : I items env st)
    (hd : ∀ w r e s, I (w :: r) e s → gdOk gd s ∧ ws (tg w e s) (fun e1 s1 => ws (f e1 s1) (I r) rt (fun b e2 s2 => if b = true then nx e2 s2 else I r e2 s2) ex) (fun _ _ => False) (fun _ _ _ => False) fun _ _ _ _ => False)
    (he : ∀ e s, I [] e s → gdOk gd s ∧ nx e s) : ws (forS gd tg f items env st) nx rt lp ex := by
  induction items generalizing env st with
  | nil =>
    unfold forS
    rw [if_pos (he _ _ h0).1]
    exact (he _ _ h0).2
  | cons w r ih =>
    obtain ⟨g1, h1⟩ := hd w r _ _ h0
    unfold forS
    rw [if_pos g1]
    cases e : tg w env st with
    | nx e1 s1 =>
      rw [e] at h1
      dsimp only [ws] at h1 ⊢
      cases e2 : f e1 s1 with
      | nx e2 s2 => rw [e2] at h1; exact ih h1
      | ct e2 s2 => rw [e2] at h1; exact ih h1
      | bk e2 s2 => rw [e2] at h1; exact h1
      | rt e2 s2 => rw [e2] at h1; exact h1
      | ex C fs e2 s2 => rw [e2] at h1; exact h1
      | bad => rw [e2] at h1; exact h1.elim
    | _ => rw [e] at h1; exact h1.elim
/-- turn by turn -/
theorem ws_fnil {gd : GD} {tg : FG} {items : List W} (e : items = []) (hg : gdOk gd st) (q : nx env st) : ws (forS gd tg f items env st) nx rt lp ex := by
  subst e
  unfold forS
  rw [if_pos hg]
  exact q
theorem ws_fcons {gd : GD} {tg : FG} {items : List W} {w : W} {r : List W} (e : items = w :: r) (hg : gdOk gd st)
    (h : ws (tg w env st) (fun e1 s1 => ws (f e1 s1) (fun e2 s2 => ws (forS gd tg f r e2 s2) nx rt lp ex) rt (fun b e2 s2 => if b = true then nx e2 s2 else ws (forS gd tg f r e2 s2) nx rt lp ex) ex) (fun _ _ => False) (fun _ _ _ => False) fun _ _ _ _ => False) : ws (forS gd tg f items env st) nx rt lp ex := by
  subst e
  unfold forS
  rw [if_pos hg]
  cases e : tg w env st with
  | nx e1 s1 =>
    rw [e] at h
    dsimp only [ws] at h ⊢
    cases e2 : f e1 s1 with
    | nx e2 s2 => rw [e2] at h; exact h
    | ct e2 s2 => rw [e2] at h; exact h
    | bk e2 s2 => rw [e2] at h; exact h
    | rt e2 s2 => rw [e2] at h; exact h
    | ex C fs e2 s2 => rw [e2] at h; exact h
    | bad => rw [e2] at h; exact h.elim
  | _ => rw [e] at h; exact h.elim
/-- .. whose turns leave the store -/
theorem ws_forK {gd : GD} {tg : FG} {items : List W} (I : Sto → List W → En → Prop) (hg : gdOk gd st) (h0 : I st items env)
    (hd : ∀ w r e, I st (w :: r) e → ws (tg w e st) (fun e1 s1 => ws (f e1 s1) (fun e2 s2 => s2 = st ∧ I st r e2) rt (fun b e2 s2 => if b = true then nx e2 s2 else s2 = st ∧ I st r e2) ex) (fun _ _ => False) (fun _ _ _ => False) fun _ _ _ _ => False)
    (he : ∀ e, I st [] e → nx e st) : ws (forS gd tg f items env st) nx rt lp ex :=
  ws_forS (fun r e s => s = st ∧ I st r e) ⟨rfl, h0⟩ (fun w r e s h => by
    obtain ⟨rfl, h⟩ := h
    exact ⟨hg, hd w r e h⟩) fun e s h => by
    obtain ⟨rfl, h⟩ := h
    exact ⟨hg, he e h⟩
/-- a while by what holds ahead of each turn, and a measure -/
theorem ws_whS {n : Nat} (I : Nat → En → Sto → Prop) (k : Nat) (hk : k < n) (h0 : I k env st)
    (hd : ∀ k e s, I k e s → wp (t e s) (fun b s1 => if b = true then ws (f e s1) (fun e2 s2 => ∃ k', k' < k ∧ I k' e2 s2) rt (fun b e2 s2 => if b = true then nx e2 s2 else ∃ k', k' < k ∧ I k' e2 s2) ex else nx e s1) fun C fs s => ex C fs e s) : ws (whS t f n env st) nx rt lp ex := by
  induction n generalizing env st k with
  | zero => omega
  | succ n ih =>
    unfold whS
    refine ws_toS (wp_mono (hd k _ _ h0) (fun b s h => ?_) fun _ _ _ h => h)
    cases b with
    | false => exact h
    | true =>
      simp only [if_true] at h ⊢
      cases e2 : f env s with
      | nx e2 s2 => rw [e2] at h; obtain ⟨k', hk', h⟩ := h; exact ih k' (by omega) h
      | ct e2 s2 => rw [e2] at h; simp only [ws, Bool.false_eq_true, if_false] at h; obtain ⟨k', hk', h⟩ := h; exact ih k' (by omega) h
      | bk e2 s2 => rw [e2] at h; simpa only [ws, if_true] using h
      | rt e2 s2 => rw [e2] at h; exact h
      | ex C fs e2 s2 => rw [e2] at h; exact h
      | bad => rw [e2] at h; exact h.elim
end
/-! ### comprehensions -/
theorem v_lcS {gd : GD} {bind : W → En → Option En} {t : FT} {f : FE} {n : Nat} {env : En} {items acc : List W} {st : Sto} {Q : Unit → Sto → Prop} {E : XE} (I : List W → List W → Sto → Prop) (h0 : I items acc st)
    (hd : ∀ w r acc s, I (w :: r) acc s → gdOk gd s ∧ ∃ env1, bind w env = some env1 ∧ wp (t env1 s) (fun k s2 => if k = true then wp (f env1 s2) (fun y s3 => s3[n]? = some (.lst acc) ∧ acc.length < 100000 ∧ I r (acc ++ [y]) (s3.set n (.lst (acc ++ [y])))) noX else I r acc s2) noX)
    (he : ∀ acc s, I [] acc s → gdOk gd s ∧ Q () s) : wp (lcS gd bind t f n env items st) Q E := by
  induction items generalizing acc st with
  | nil =>
    unfold lcS
    rw [if_pos (he _ _ h0).1]
    exact (he _ _ h0).2
  | cons w r ih =>
    obtain ⟨g1, env1, e1, h1⟩ := hd w r _ _ h0
    unfold lcS
    rw [if_pos g1, e1]
    refine wp_bind (wp_noex (wp_mono h1 (fun k s2 h => ?_) fun _ _ _ h => h))
    cases k with
    | false => simp only [Bool.false_eq_true, if_false] at h ⊢; exact ih h
    | true =>
      simp only [if_true] at h ⊢
      refine wp_bind (wp_noex (wp_mono h (fun y s3 h => ?_) fun _ _ _ h => h))
      obtain ⟨a, b, c⟩ := h
      rw [a]
      simp only [if_pos b]
      exact ih c
theorem v_lc {own : List Nat} {it : FI} {bind : W → En → Option En} {t : FT} {f : FE} {env : En} {st : Sto} {Q : W → Sto → Prop} {E : XE}
    (h : wp (it env st) (fun p s => wp (lcS p.2 bind t f s.length (wipeW env own) p.1 (s ++ [.lst []])) (fun _ s2 => Q (.ref s.length) s2) E) E) : wp (fLc own it bind t f env st) Q E :=
  wp_bind (wp_mono h (fun _ _ h => wp_bind h) fun _ _ _ h => h)
/-- .. that leaves the store as it is -/
theorem v_lcP {gd : GD} {bind : W → En → Option En} {t : FT} {f : FE} {env : En} {items : List W} {st : Sto} {Q : Unit → Sto → Prop} {E : XE} (p : W → Bool) (g : W → W) (hl : items.length ≤ 100000) (hg : ∀ a, gdOk gd (st ++ [.lst a]))
    (h : ∀ acc, ∀ w ∈ items, ∃ env1, bind w env = some env1 ∧ t env1 (st ++ [.lst acc]) = .ok (p w) (st ++ [.lst acc]) ∧ (p w = true → f env1 (st ++ [.lst acc]) = .ok (g w) (st ++ [.lst acc])))
    (q : Q () (st ++ [.lst ((items.filter p).map g)])) : wp (lcS gd bind t f st.length env items (st ++ [.lst []])) Q E := by
  have key : ∀ (its acc : List W), acc.length + its.length ≤ 100000 → (∀ w ∈ its, w ∈ items) → wp (lcS gd bind t f st.length env its (st ++ [.lst acc])) (fun _ s => s = st ++ [.lst (acc ++ (its.filter p).map g)]) E := by
    intro its
    induction its with
    | nil =>
      intro acc _ _
      unfold lcS
      rw [if_pos (hg acc)]
      simp [wp]
    | cons w r ih =>
      intro acc hl hm
      simp only [List.length_cons] at hl
      obtain ⟨env1, e1, e2, e3⟩ := h acc w (hm w List.mem_cons_self)
      unfold lcS
      rw [if_pos (hg acc), e1]
      simp only [e2, An.noex_ok, An.bind_ok]
      by_cases hp : p w = true
      · rw [if_pos hp, e3 hp]
        simp only [An.noex_ok, An.bind_ok, sto_at]
        rw [if_pos (by omega), sto_set0]
        have := ih (acc ++ [g w]) (by simp; omega) fun x hx => hm x (List.mem_cons_of_mem _ hx)
        simpa [hp] using this
      · rw [if_neg hp]
        have := ih acc (by omega) fun x hx => hm x (List.mem_cons_of_mem _ hx)
        simpa [hp] using this
  refine wp_mono (key items [] (by simpa using hl) fun _ h => h) (fun a s h => ?_) fun _ _ _ h => h
  subst h
  simpa using q
theorem v_lcM {gd : GD} {bind : W → En → Option En} {f : FE} {env : En} {items : List W} {st : Sto} {Q : Unit → Sto → Prop} {E : XE} (g : W → W) (hl : items.length ≤ 100000) (hg : ∀ a, gdOk gd (st ++ [.lst a]))
    (h : ∀ acc, ∀ w ∈ items, ∃ env1, bind w env = some env1 ∧ wp (f env1 (st ++ [.lst acc])) (fun x s => x = g w ∧ s = st ++ [.lst acc]) noX)
    (q : Q () (st ++ [.lst (items.map g)])) : wp (lcS gd bind fYes f st.length env items (st ++ [.lst []])) Q E := by
  refine v_lcP (fun _ => true) g hl hg (fun acc w hw => ?_) (by rw [List.filter_eq_self.mpr (fun _ _ => rfl)]; exact q)
  obtain ⟨env1, h1, h2⟩ := h acc w hw
  obtain ⟨x, s, e, rfl, rfl⟩ := wp_get h2
  exact ⟨env1, h1, rfl, fun _ => e⟩
theorem v_lcPM {gd : GD} {bind : W → En → Option En} {t : FT} {f : FE} {env : En} {items : List W} {st : Sto} {Q : Unit → Sto → Prop} {E : XE} (p : W → Bool) (g : W → W) (hl : items.length ≤ 100000) (hg : ∀ a, gdOk gd (st ++ [.lst a]))
    (h : ∀ acc, ∀ w ∈ items, ∃ env1, bind w env = some env1 ∧ wp (t env1 (st ++ [.lst acc])) (fun b s => b = p w ∧ s = st ++ [.lst acc] ∧ (p w = true → wp (f env1 s) (fun x s => x = g w ∧ s = st ++ [.lst acc]) noX)) noX)
    (q : Q () (st ++ [.lst ((items.filter p).map g)])) : wp (lcS gd bind t f st.length env items (st ++ [.lst []])) Q E := by
  refine v_lcP p g hl hg (fun acc w hw => ?_) q
  obtain ⟨env1, h1, h2⟩ := h acc w hw
  obtain ⟨b, s, e, rfl, rfl, h3⟩ := wp_get h2
  refine ⟨env1, h1, e, fun hp => ?_⟩
  obtain ⟨x, s, e, rfl, rfl⟩ := wp_get (h3 hp)
  exact e
theorem cutL_to {l : List W} {v : Nat} (h : v ≤ l.length) : cutL l none (some (v : Int)) = l.take v := by
  simp only [cutL, HT.sIx_none, HT.sIx_nat, List.drop_zero, Nat.sub_zero, Nat.min_eq_left h]
theorem cutL_from {l : List W} {v : Nat} (h : v ≤ l.length) : cutL l (some (v : Int)) none = l.drop v := by
  simp only [cutL, HT.sIx_none, HT.sIx_nat, Nat.min_eq_left h]
  exact List.take_of_length_le (by simp)
/-! ### what stays but for the pot -/
structure Keep (n : Nat) (s s' : Sto) : Prop where
  le : s.length ≤ s'.length
  eq : ∀ j, j ≠ n → j < s.length → s'[j]? = s[j]?
theorem Keep.refl {n : Nat} {s : Sto} : Keep n s s := ⟨Nat.le_refl _, fun _ _ _ => rfl⟩
theorem Keep.trans {n : Nat} {s t u : Sto} (a : Keep n s t) (b : Keep n t u) : Keep n s u := ⟨Nat.le_trans a.le b.le, fun j h1 h2 => (b.eq j h1 (Nat.lt_of_lt_of_le h2 a.le)).trans (a.eq j h1 h2)⟩
theorem Keep.app {n : Nat} {s g : Sto} : Keep n s (s ++ g) := ⟨by simp, fun j _ h => List.getElem?_append_left h⟩
theorem Keep.set {n : Nat} {s : Sto} {o : Ob} : Keep n s (s.set n o) := ⟨by simp, fun j h _ => List.getElem?_set_ne (Ne.symm h)⟩
theorem Keep.above {n m : Nat} {s t : Sto} {o : Ob} (k : Keep n s t) (h : s.length ≤ m) : Keep n s (t.set m o) := ⟨by simpa using k.le, fun j h1 h2 => by rw [List.getElem?_set_ne (by omega)]; exact k.eq j h1 h2⟩
theorem Keep.take {n : Nat} {s s' : Sto} (k : Keep n s s') : Keep n s (s'.take s.length) := ⟨by rw [List.length_take]; have := k.le; omega, fun j h1 h2 => by rw [List.getElem?_take_of_lt h2]; exact k.eq j h1 h2⟩
theorem Keep.at {n j : Nat} {s s' : Sto} {o : Ob} (k : Keep n s s') (h : s[j]? = some o) (hj : j ≠ n) : s'[j]? = some o := (k.eq j hj (sto_lt h)).trans h
theorem Pot.take' {n m : Nat} {s : Sto} {c : Int} (P : Pot s n c) (h : n < m) : Pot (s.take m) n c := by
  obtain ⟨a, b, k, e, r⟩ := P
  exact ⟨a, b, k, by rw [List.getElem?_take_of_lt h]; exact e, r⟩
theorem Pot.at' {n m : Nat} {s : Sto} {c : Int} {o : Ob} (P : Pot s n c) (h : n ≠ m) : Pot (s.set m o) n c := by
  obtain ⟨a, b, k, e, r⟩ := P
  exact ⟨a, b, k, by rw [List.getElem?_set_ne (Ne.symm h)]; exact e, r⟩
theorem take_wp {st : Sto} {n : Nat} {c many : Int} (P : Pot st n c) (hc : c ≤ 10 ^ 15) (h0 : 0 < many) (h1 : many < 10 ^ 800) : wp (takeF [.ref n, .int many] st) (fun w s => ∃ v : Nat, w = .int v ∧ (v : Int) < many ∧ Keep n st s ∧ Pot s n (c + 1)) noX := by
  obtain ⟨v, o, h, a, b, d, e⟩ := take_ok P hc h0 h1
  exact wp_eq h ⟨v.toNat, by rw [Int.toNat_of_nonneg a], by omega, Keep.set, e⟩
theorem v_ixM {n : Nat} {l : List W} {i : Nat} {st : Sto} {Q : W → Sto → Prop} {E : XE} (hs : st[n]? = some (.lst l)) (hi : i < l.length) (q : ∀ w ∈ l, Q w st) : wp (wIxA (.ref n) (.int (i : Nat)) st) Q E := Sw.v_ixL hs (atI_nat (List.getElem?_eq_getElem hi)) (q _ (List.getElem_mem _))
theorem v_sl0 {l : List W} {v : Nat} {st : Sto} {Q : W → Sto → Prop} {E : XE} (h : v ≤ l.length) (q : Q (.tup (l.take v)) st) : wp (wSl (.tup l) none (some (v : Int)) st) Q E := by
  rw [← cutL_to h] at q
  exact q
theorem v_sl1 {l : List W} {v : Nat} {st : Sto} {Q : W → Sto → Prop} {E : XE} (h : v < l.length) (q : Q (.tup (l.drop (v + 1))) st) : wp (wSl (.tup l) (some ((v : Int) + 1)) none st) Q E := by
  have e := cutL_from (l := l) (v := v + 1) h
  rw [← e] at q
  exact q
theorem atc0 {α : Type} {a : α} {l : List α} : atI (a :: l) 0 = some a := by
  have := atI_nat (xs := a :: l) (j := 0) (v := a) rfl
  simpa using this
theorem atc1 {α : Type} {a b : α} {l : List α} : atI (a :: b :: l) 1 = some b := by
  have := atI_nat (xs := a :: b :: l) (j := 1) (v := b) rfl
  simpa using this
theorem atc2 {α : Type} {a b c : α} {l : List α} : atI (a :: b :: c :: l) 2 = some c := by
  have := atI_nat (xs := a :: b :: c :: l) (j := 2) (v := c) rfl
  simpa using this
theorem ex_app {α : Type} {st a b : List α} (h : ∃ g, a = st ++ g) : ∃ g, a ++ b = st ++ g := by
  obtain ⟨g, rfl⟩ := h
  exact ⟨g ++ b, List.append_assoc _ _ _⟩
theorem join_b {ys : List Str} {a : Str} (ha : a.length ≤ 10) (h : ∀ p ∈ ys, p.length ≤ 2000) (hl : ys.length ≤ 1000) : (ys.map (·.length)).sum + ys.length * a.length ≤ 16777216 := by
  have h1 : ∀ l : List Str, (∀ p ∈ l, p.length ≤ 2000) → (l.map (·.length)).sum ≤ l.length * 2000 := by
    intro l
    induction l with
    | nil => intro _; simp
    | cons x l ih =>
      intro h
      have h2 := h x List.mem_cons_self
      have h3 := ih fun p hp => h p (List.mem_cons_of_mem _ hp)
      simp only [List.map_cons, List.sum_cons, List.length_cons]
      omega
  have h2 := h1 ys h
  have h3 : ys.length * a.length ≤ ys.length * 10 := Nat.mul_le_mul_left _ ha
  omega
theorem cutL_1 {α : Type} {l : List α} : cutL l (some 1) none = l.drop 1 := by
  have e : HT.sIx l.length 0 (some (1 : Int)) = min 1 l.length := HT.sIx_nat _ _ 1
  simp only [cutL, HT.sIx_none, e]
  cases l with
  | nil => rfl
  | cons a l => simp
theorem v_slc1 {l : List W} {st : Sto} {Q : W → Sto → Prop} {E : XE} (q : Q (.tup (l.drop 1)) st) : wp (wSl (.tup l) (some 1) none st) Q E := by
  rw [← cutL_1] at q
  exact q
theorem cutL_fromN {α : Type} {l : List α} {k : Nat} : cutL l (some (k : Int)) none = l.drop k := by
  simp only [cutL, HT.sIx_none, HT.sIx_nat]
  rcases Nat.le_total k l.length with h | h
  · rw [Nat.min_eq_left h]; exact List.take_of_length_le (by simp)
  · rw [Nat.min_eq_right h, List.drop_eq_nil_of_le h]; simp
theorem cutL_toN {α : Type} {l : List α} {k : Nat} : cutL l none (some (k : Int)) = l.take k := by
  simp only [cutL, HT.sIx_none, HT.sIx_nat, List.drop_zero, Nat.sub_zero]
  rcases Nat.le_total k l.length with h | h
  · rw [Nat.min_eq_left h]
  · rw [Nat.min_eq_right h, List.take_of_length_le (Nat.le_refl _), List.take_of_length_le h]
section
variable {l : List W} {n : Nat} {st : Sto} {Q : W → Sto → Prop} {E : XE}
theorem v_slc2 (q : Q (.tup (l.drop 2)) st) : wp (wSl (.tup l) (some 2) none st) Q E := by
  rw [← cutL_fromN (k := 2)] at q
  exact q
theorem v_slLt1 (hs : st[n]? = some (.lst l)) (q : Q (.ref st.length) (st ++ [.lst (l.take 1)])) : wp (wSl (.ref n) none (some 1) st) Q E := by
  rw [← cutL_toN (k := 1)] at q
  exact v_slL hs q
theorem v_slLt2 (hs : st[n]? = some (.lst l)) (q : Q (.ref st.length) (st ++ [.lst (l.take 2)])) : wp (wSl (.ref n) none (some 2) st) Q E := by
  rw [← cutL_toN (k := 2)] at q
  exact v_slL hs q
theorem v_slLd1 (hs : st[n]? = some (.lst l)) (q : Q (.ref st.length) (st ++ [.lst (l.drop 1)])) : wp (wSl (.ref n) (some 1) none st) Q E := by
  rw [← cutL_fromN (k := 1)] at q
  exact v_slL hs q
theorem v_addL {n m : Nat} {a b : List W} (h1 : st[n]? = some (.lst a)) (h2 : st[m]? = some (.lst b)) (hl : a.length + b.length ≤ 1000) (q : Q (.ref st.length) (st ++ [.lst (a ++ b)])) : wp (wAdd (.ref n) (.ref m) st) Q E :=
  wp_eq (wAdd_lists (by simp only [getL, h1]) (by simp only [getL, h2]) (line1000 hl)) q
theorem v_splitS {a b : Str} (h : (b.length == 0) = false ∧ a.length + 2 ≤ sizeLine) (q : Q (.ref st.length) (st ++ [.lst ((Txt.split a b).map .str)])) : wp (wSplit (.str a) (.str b) st) Q E := wp_if1 h q
end
/-! ### defs -/
theorem wp_run {n : Nat} {b : FS} {args : List W} {st : Sto} {e : En} {Q : W → Sto → Prop} {E : XE} (he : Sw.start n args = e) (h : ws (b e st) (fun _ s => Q .non s) Q (fun _ _ _ => False) fun C fs _ s => E C fs s) : wp (fRun n b args st) Q E := by
  subst he
  unfold fRun
  cases e : b (Sw.start n args) st with
  | nx e s => rw [e] at h; exact h
  | rt e s => rw [e] at h; exact h
  | ex C fs e s => rw [e] at h; exact h
  | bk e s => rw [e] at h; exact h.elim
  | ct e s => rw [e] at h; exact h.elim
  | bad => rw [e] at h; exact h.elim
theorem wp_runN {n : Nat} {b : FS} {args : List W} {st : Sto} {e : En} {Q : W → Sto → Prop} {E : XE} [h : NSta n args e] (q : ws (b e st) (fun _ s => Q .non s) Q (fun _ _ _ => False) fun C fs _ s => E C fs s) : wp (fRun n b args st) Q E := wp_run h.eq q
/-- a function that only makes: it is as if nothing was made -/
theorem clean_wp {F : FF} {args : List W} {st : Sto} {w : W} (h : wp (F args st) (fun x s => x = w ∧ ∃ g, s = st ++ g) noX) (hc : closedW st.length w = true) : clean F args st = .ok w st := by
  obtain ⟨a, s, e, rfl, g, rfl⟩ := wp_get h
  exact clean_app e hc
theorem wp_clean {F : FF} {args : List W} {st : Sto} {Q : W → Sto → Prop} {E : XE} (h : wp (F args st) Q E) (k : ∀ w s, Q w s → closedW st.length w = true → Shut st.length st s → Q w (s.take st.length)) : wp (clean F args st) Q E := by
  unfold clean
  cases e : F args st with
  | ok w s =>
    rw [e] at h
    dsimp only
    by_cases hc : Shut st.length st s ∧ closedW st.length w = true
    · rw [if_pos hc]; exact k w s h hc.2 hc.1
    · rw [if_neg hc]; exact h
  | ex C fs s => rw [e] at h; exact h
  | bad => rw [e] at h; exact h
/-- what is put into an exception is not cleaned -/
theorem clean_wpx {F : FF} {args : List W} {st : Sto} {C : Str} {fs : Flds} {s : Sto} (h : F args st = .ex C fs s) : clean F args st = .ex C fs s := clean_ex h
/-! ### what kind of goal it is -/
theorem gWi {c : Prop} {i : Decidable c} {a b : SA} {nx : En → Sto → Prop} {rt : W → Sto → Prop} {lp : Bool → En → Sto → Prop} {ex : Str → Flds → En → Sto → Prop} (h : ws (if c then a else b) nx rt lp ex) : ws (if c then a else b) nx rt lp ex := h
theorem gW {m : SA} {nx : En → Sto → Prop} {rt : W → Sto → Prop} {lp : Bool → En → Sto → Prop} {ex : Str → Flds → En → Sto → Prop} (h : ws m nx rt lp ex) : ws m nx rt lp ex := h
theorem gI {α : Type} {c : Prop} {i : Decidable c} {a b : An α} {Q : α → Sto → Prop} {E : XE} (h : wp (if c then a else b) Q E) : wp (if c then a else b) Q E := h
theorem gF {α : Type} {f : En → Sto → An α} {env : En} {st : Sto} {Q : α → Sto → Prop} {E : XE} (h : wp (f env st) Q E) : wp (f env st) Q E := h
theorem gO {α : Type} {o : Option α} {st : Sto} {Q : α → Sto → Prop} {E : XE} (h : wp (optB o st) Q E) : wp (optB o st) Q E := h
theorem gE {α : Type} {m : An α} {Q : α → Sto → Prop} {E : XE} (h : wp m Q E) : wp m Q E := h
end Sw

namespace Lw
open PySem PySem.Spec PyProof.Rows L2 Sw
def topS (i : Nat) : Stmt := PySem.Challenge.pw_lodgewalk_k79_deeds_and_letters_written.main.body.getD i (.Pass ⟨0, 0, 0, 0⟩)
abbrev s_is_within : Stmt := topS 18
abbrev s_is_count : Stmt := topS 32
abbrev s_is_row : Stmt := topS 34
abbrev s_is_bare_rest : Stmt := topS 38
abbrev s_hexed : Stmt := topS 46
abbrev s_rowed : Stmt := topS 47
abbrev s_number_in : Stmt := topS 51
abbrev s_cell_in : Stmt := topS 52
abbrev s_words_in : Stmt := topS 55
abbrev s_law_pot : Stmt := topS 60
abbrev s_law_take : Stmt := topS 61
abbrev s_law_by_sixteen : Stmt := topS 67
abbrev s_law_is_from : Stmt := topS 73
abbrev s_is_cell : Stmt := topS 19
abbrev s_is_number : Stmt := topS 21
abbrev s_is_address : Stmt := topS 22
abbrev s_is_move : Stmt := topS 31
abbrev s_is_page_number : Stmt := topS 33
abbrev s_is_last_rest : Stmt := topS 36
abbrev s_numbers_in : Stmt := topS 53
abbrev s_page_in : Stmt := topS 54
abbrev s_law_entry : Stmt := topS 62
abbrev s_law_root : Stmt := topS 64
abbrev s_law_address : Stmt := topS 65
abbrev s_law_written : Stmt := topS 68
abbrev s_law_count : Stmt := topS 70
abbrev s_law_is_deed : Stmt := topS 74
abbrev s_law_is_page : Stmt := topS 75
abbrev s_law_is_row : Stmt := topS 76
abbrev s_law_spoilt : Stmt := topS 78
abbrev s_is_page : Stmt := topS 20
abbrev s_is_load : Stmt := topS 24
abbrev s_is_store : Stmt := topS 25
abbrev s_is_numbered : Stmt := topS 26
abbrev s_is_lack_rest : Stmt := topS 37
abbrev s_letter_in : Stmt := topS 57
abbrev s_law_page : Stmt := topS 63
abbrev s_law_deed : Stmt := topS 66
abbrev s_law_told : Stmt := topS 72
abbrev s_law_is_letter : Stmt := topS 77
abbrev s_is_deed : Stmt := topS 28
abbrev s_is_page_rest : Stmt := topS 35
abbrev s_page_text : Stmt := topS 48
abbrev s_law_letter : Stmt := topS 71
abbrev s_is_letter : Stmt := topS 40
abbrev s_deed_text : Stmt := topS 49
abbrev s_letter_text : Stmt := topS 50
abbrev s_read_deed : Stmt := topS 56
abbrev s_read_letter : Stmt := topS 58
abbrev s_law_same : Stmt := topS 69
abbrev s_law_met : Stmt := topS 79
abbrev s_law : Stmt := topS 80
abbrev s_i_NoDeed : Stmt := inClass (topS 10) 0
def clsL : List Str := ["WalkError", "NoCell", "NoPages", "NoAddress", "NoRoot", "NoPage", "NoLetter", "NoText", "NoLine", "NoDeed"]
def isiT : Tg → Tg → Option Bool := xTab clsL "WalkError"
def isiC : Str → Bool := fun C => decide (C ∈ clsL)
def xmT : Str → Option Bool := xmTab clsL
def xa_number : Str → Bool := fun C => C == "NoDeed"
def gloL : List Str := (["is_within", "is_count", "is_row", "is_bare_rest", "hexed", "rowed", "number_in", "cell_in", "words_in", "_law_pot", "_law_take", "_law_by_sixteen", "_law_is_from", "is_cell", "is_number", "is_address", "is_move", "is_page_number", "is_last_rest", "numbers_in", "page_in", "_law_entry", "_law_root", "_law_address"] : List Str) ++ (["_law_written", "_law_count", "_law_is_deed", "_law_is_page", "_law_is_row", "_law_spoilt", "is_page", "is_load", "is_store", "is_numbered", "is_lack_rest", "letter_in", "_law_page", "_law_deed", "_law_told", "_law_is_letter", "is_deed", "is_page_rest", "page_text", "_law_letter", "is_letter", "deed_text", "letter_text", "read_deed"] : List Str) ++ (["read_letter", "_law_same", "_law_met", "law", "WalkError", "NoCell", "NoPages", "NoAddress", "NoRoot", "NoPage", "NoLetter", "NoText", "NoLine", "NoDeed", "FORMS", "RESTS"] : List Str)
def freeL : List Str := ["ValueError", "abs", "all", "bool", "enumerate", "int", "isinstance", "len", "list", "max", "min", "range", "set", "sorted", "str", "tuple", "zip"]
def excL : List Str := ["NoLetter", "NoPages", "NoText"]
def kd_FORMS : List (Str × W) := [("load", .gl "is_load"), ("store", .gl "is_store"), ("turn", .gl "is_numbered"), ("give", .gl "is_numbered")]
def kv_FORMS : List (Str × He.Dv) := [("load", .glo "is_load"), ("store", .glo "is_store"), ("turn", .glo "is_numbered"), ("give", .glo "is_numbered")]
def kd_RESTS : List (Str × W) := [("page", .gl "is_page_rest"), ("last", .gl "is_last_rest"), ("lack", .gl "is_lack_rest"), ("go", .gl "is_bare_rest"), ("off", .gl "is_bare_rest"), ("have", .gl "is_bare_rest"), ("runs", .gl "is_bare_rest")]
def kv_RESTS : List (Str × He.Dv) := [("page", .glo "is_page_rest"), ("last", .glo "is_last_rest"), ("lack", .glo "is_lack_rest"), ("go", .glo "is_bare_rest"), ("off", .glo "is_bare_rest"), ("have", .glo "is_bare_rest"), ("runs", .glo "is_bare_rest")]
def tabL : List He.Tab := [((fun K => He.ga K "FORMS"), ["load", "store", "turn", "give"]), ((fun K => He.ga K "RESTS"), ["page", "last", "lack", "go", "off", "have", "runs"])]
abbrev k_BLANK : W := .tup [.int 0, .int 0, .int 0, .int 0, .int 0, .int 0, .int 0, .int 0]
abbrev k_BLANK_TEXT : W := .str "-"
abbrev k_FIGURES : W := .str "0123456789"
abbrev k_LAST_ADDRESS : W := .int 511
abbrev k_MOST : W := .int 65535
abbrev k_MOST_FIGURES : W := .int 40
abbrev k_MOST_MOVE : W := .int 1000000
abbrev k_MOST_NUMBER : W := .int 4095
abbrev k_MOST_PAGES : W := .int 16
abbrev k_PLACES : W := .int 8
abbrev k_SIGNS : W := .str "0123456789abcdef"
structure Tx (P : Program) (w : World) (K : PySem.W.Frag) (mg : Str → Option Value) (base : Heap) where
  fd_is_within : FuncData
  F_is_within : FunD K "is_within" "is_within" (defArgs s_is_within) (defBody s_is_within) (defScope s_is_within) [] [] (He.ga K "is_within") fd_is_within
  g_is_within : mg "is_within" = some (.ref (He.ga K "is_within"))
  b_is_within : Binds K fd_is_within ["thing", "least", "most"] []
  fd_is_count : FuncData
  F_is_count : FunD K "is_count" "is_count" (defArgs s_is_count) (defBody s_is_count) (defScope s_is_count) [] [] (He.ga K "is_count") fd_is_count
  g_is_count : mg "is_count" = some (.ref (He.ga K "is_count"))
  b_is_count : Binds K fd_is_count ["thing"] []
  fd_is_row : FuncData
  F_is_row : FunD K "is_row" "is_row" (defArgs s_is_row) (defBody s_is_row) (defScope s_is_row) [] [] (He.ga K "is_row") fd_is_row
  g_is_row : mg "is_row" = some (.ref (He.ga K "is_row"))
  b_is_row : Binds K fd_is_row ["thing"] []
  fd_is_bare_rest : FuncData
  F_is_bare_rest : FunD K "is_bare_rest" "is_bare_rest" (defArgs s_is_bare_rest) (defBody s_is_bare_rest) (defScope s_is_bare_rest) [] [] (He.ga K "is_bare_rest") fd_is_bare_rest
  g_is_bare_rest : mg "is_bare_rest" = some (.ref (He.ga K "is_bare_rest"))
  b_is_bare_rest : Binds K fd_is_bare_rest ["rest"] []
  fd_hexed : FuncData
  F_hexed : FunD K "hexed" "hexed" (defArgs s_hexed) (defBody s_hexed) (defScope s_hexed) [] [] (He.ga K "hexed") fd_hexed
  g_hexed : mg "hexed" = some (.ref (He.ga K "hexed"))
  b_hexed : Binds K fd_hexed ["cell"] []
  fd_rowed : FuncData
  F_rowed : FunD K "rowed" "rowed" (defArgs s_rowed) (defBody s_rowed) (defScope s_rowed) [] [] (He.ga K "rowed") fd_rowed
  g_rowed : mg "rowed" = some (.ref (He.ga K "rowed"))
  b_rowed : Binds K fd_rowed ["numbers"] []
  fd_number_in : FuncData
  F_number_in : FunD K "number_in" "number_in" (defArgs s_number_in) (defBody s_number_in) (defScope s_number_in) [] [] (He.ga K "number_in") fd_number_in
  g_number_in : mg "number_in" = some (.ref (He.ga K "number_in"))
  b_number_in : Binds K fd_number_in ["word"] []
  fd_cell_in : FuncData
  F_cell_in : FunD K "cell_in" "cell_in" (defArgs s_cell_in) (defBody s_cell_in) (defScope s_cell_in) [] [] (He.ga K "cell_in") fd_cell_in
  g_cell_in : mg "cell_in" = some (.ref (He.ga K "cell_in"))
  b_cell_in : Binds K fd_cell_in ["word"] []
  fd_words_in : FuncData
  F_words_in : FunD K "words_in" "words_in" (defArgs s_words_in) (defBody s_words_in) (defScope s_words_in) [] [] (He.ga K "words_in") fd_words_in
  g_words_in : mg "words_in" = some (.ref (He.ga K "words_in"))
  b_words_in : Binds K fd_words_in ["text"] []
  fd_law_pot : FuncData
  F_law_pot : FunD K "_law_pot" "_law_pot" (defArgs s_law_pot) (defBody s_law_pot) (defScope s_law_pot) [] [] (He.ga K "_law_pot") fd_law_pot
  g_law_pot : mg "_law_pot" = some (.ref (He.ga K "_law_pot"))
  b_law_pot : Binds K fd_law_pot ["script", "k"] []
  fd_law_take : FuncData
  F_law_take : FunD K "_law_take" "_law_take" (defArgs s_law_take) (defBody s_law_take) (defScope s_law_take) [] [] (He.ga K "_law_take") fd_law_take
  g_law_take : mg "_law_take" = some (.ref (He.ga K "_law_take"))
  b_law_take : Binds K fd_law_take ["pot", "many"] []
  fd_law_by_sixteen : FuncData
  F_law_by_sixteen : FunD K "_law_by_sixteen" "_law_by_sixteen" (defArgs s_law_by_sixteen) (defBody s_law_by_sixteen) (defScope s_law_by_sixteen) [] [] (He.ga K "_law_by_sixteen") fd_law_by_sixteen
  g_law_by_sixteen : mg "_law_by_sixteen" = some (.ref (He.ga K "_law_by_sixteen"))
  b_law_by_sixteen : Binds K fd_law_by_sixteen ["number"] []
  fd_law_is_from : FuncData
  F_law_is_from : FunD K "_law_is_from" "_law_is_from" (defArgs s_law_is_from) (defBody s_law_is_from) (defScope s_law_is_from) [] [] (He.ga K "_law_is_from") fd_law_is_from
  g_law_is_from : mg "_law_is_from" = some (.ref (He.ga K "_law_is_from"))
  b_law_is_from : Binds K fd_law_is_from ["thing", "least", "most"] []
  fd_is_cell : FuncData
  F_is_cell : FunD K "is_cell" "is_cell" (defArgs s_is_cell) (defBody s_is_cell) (defScope s_is_cell) [] [] (He.ga K "is_cell") fd_is_cell
  g_is_cell : mg "is_cell" = some (.ref (He.ga K "is_cell"))
  b_is_cell : Binds K fd_is_cell ["thing"] []
  fd_is_number : FuncData
  F_is_number : FunD K "is_number" "is_number" (defArgs s_is_number) (defBody s_is_number) (defScope s_is_number) [] [] (He.ga K "is_number") fd_is_number
  g_is_number : mg "is_number" = some (.ref (He.ga K "is_number"))
  b_is_number : Binds K fd_is_number ["thing"] []
  fd_is_address : FuncData
  F_is_address : FunD K "is_address" "is_address" (defArgs s_is_address) (defBody s_is_address) (defScope s_is_address) [] [] (He.ga K "is_address") fd_is_address
  g_is_address : mg "is_address" = some (.ref (He.ga K "is_address"))
  b_is_address : Binds K fd_is_address ["thing"] []
  fd_is_move : FuncData
  F_is_move : FunD K "is_move" "is_move" (defArgs s_is_move) (defBody s_is_move) (defScope s_is_move) [] [] (He.ga K "is_move") fd_is_move
  g_is_move : mg "is_move" = some (.ref (He.ga K "is_move"))
  b_is_move : Binds K fd_is_move ["thing"] []
  fd_is_page_number : FuncData
  F_is_page_number : FunD K "is_page_number" "is_page_number" (defArgs s_is_page_number) (defBody s_is_page_number) (defScope s_is_page_number) [] [] (He.ga K "is_page_number") fd_is_page_number
  g_is_page_number : mg "is_page_number" = some (.ref (He.ga K "is_page_number"))
  b_is_page_number : Binds K fd_is_page_number ["thing"] []
  fd_is_last_rest : FuncData
  F_is_last_rest : FunD K "is_last_rest" "is_last_rest" (defArgs s_is_last_rest) (defBody s_is_last_rest) (defScope s_is_last_rest) [] [] (He.ga K "is_last_rest") fd_is_last_rest
  g_is_last_rest : mg "is_last_rest" = some (.ref (He.ga K "is_last_rest"))
  b_is_last_rest : Binds K fd_is_last_rest ["rest"] []
  fd_numbers_in : FuncData
  F_numbers_in : FunD K "numbers_in" "numbers_in" (defArgs s_numbers_in) (defBody s_numbers_in) (defScope s_numbers_in) [] [] (He.ga K "numbers_in") fd_numbers_in
  g_numbers_in : mg "numbers_in" = some (.ref (He.ga K "numbers_in"))
  b_numbers_in : Binds K fd_numbers_in ["word"] []
  fd_page_in : FuncData
  F_page_in : FunD K "page_in" "page_in" (defArgs s_page_in) (defBody s_page_in) (defScope s_page_in) [] [] (He.ga K "page_in") fd_page_in
  g_page_in : mg "page_in" = some (.ref (He.ga K "page_in"))
  b_page_in : Binds K fd_page_in ["word"] []
  fd_law_entry : FuncData
  F_law_entry : FunD K "_law_entry" "_law_entry" (defArgs s_law_entry) (defBody s_law_entry) (defScope s_law_entry) [] [] (He.ga K "_law_entry") fd_law_entry
  g_law_entry : mg "_law_entry" = some (.ref (He.ga K "_law_entry"))
  b_law_entry : Binds K fd_law_entry ["pot", "many"] []
  fd_law_root : FuncData
  F_law_root : FunD K "_law_root" "_law_root" (defArgs s_law_root) (defBody s_law_root) (defScope s_law_root) [] [] (He.ga K "_law_root") fd_law_root
  g_law_root : mg "_law_root" = some (.ref (He.ga K "_law_root"))
  b_law_root : Binds K fd_law_root ["pot", "many"] []
  fd_law_address : FuncData
  F_law_address : FunD K "_law_address" "_law_address" (defArgs s_law_address) (defBody s_law_address) (defScope s_law_address) [] [] (He.ga K "_law_address") fd_law_address
  g_law_address : mg "_law_address" = some (.ref (He.ga K "_law_address"))
  b_law_address : Binds K fd_law_address ["pot"] []
  fd_law_written : FuncData
  F_law_written : FunD K "_law_written" "_law_written" (defArgs s_law_written) (defBody s_law_written) (defScope s_law_written) [] [] (He.ga K "_law_written") fd_law_written
  g_law_written : mg "_law_written" = some (.ref (He.ga K "_law_written"))
  b_law_written : Binds K fd_law_written ["page"] []
  fd_law_count : FuncData
  F_law_count : FunD K "_law_count" "_law_count" (defArgs s_law_count) (defBody s_law_count) (defScope s_law_count) [] [] (He.ga K "_law_count") fd_law_count
  g_law_count : mg "_law_count" = some (.ref (He.ga K "_law_count"))
  b_law_count : Binds K fd_law_count ["pot"] []
  fd_law_is_deed : FuncData
  F_law_is_deed : FunD K "_law_is_deed" "_law_is_deed" (defArgs s_law_is_deed) (defBody s_law_is_deed) (defScope s_law_is_deed) [] [] (He.ga K "_law_is_deed") fd_law_is_deed
  g_law_is_deed : mg "_law_is_deed" = some (.ref (He.ga K "_law_is_deed"))
  b_law_is_deed : Binds K fd_law_is_deed ["thing"] []
  fd_law_is_page : FuncData
  F_law_is_page : FunD K "_law_is_page" "_law_is_page" (defArgs s_law_is_page) (defBody s_law_is_page) (defScope s_law_is_page) [] [] (He.ga K "_law_is_page") fd_law_is_page
  g_law_is_page : mg "_law_is_page" = some (.ref (He.ga K "_law_is_page"))
  b_law_is_page : Binds K fd_law_is_page ["thing"] []
  fd_law_is_row : FuncData
  F_law_is_row : FunD K "_law_is_row" "_law_is_row" (defArgs s_law_is_row) (defBody s_law_is_row) (defScope s_law_is_row) [] [] (He.ga K "_law_is_row") fd_law_is_row
  g_law_is_row : mg "_law_is_row" = some (.ref (He.ga K "_law_is_row"))
  b_law_is_row : Binds K fd_law_is_row ["thing", "least", "most"] []
  fd_law_spoilt : FuncData
  F_law_spoilt : FunD K "_law_spoilt" "_law_spoilt" (defArgs s_law_spoilt) (defBody s_law_spoilt) (defScope s_law_spoilt) [] [] (He.ga K "_law_spoilt") fd_law_spoilt
  g_law_spoilt : mg "_law_spoilt" = some (.ref (He.ga K "_law_spoilt"))
  b_law_spoilt : Binds K fd_law_spoilt ["pot", "thing"] []
  fd_is_page : FuncData
  F_is_page : FunD K "is_page" "is_page" (defArgs s_is_page) (defBody s_is_page) (defScope s_is_page) [] [] (He.ga K "is_page") fd_is_page
  g_is_page : mg "is_page" = some (.ref (He.ga K "is_page"))
  b_is_page : Binds K fd_is_page ["thing"] []
  fd_is_load : FuncData
  F_is_load : FunD K "is_load" "is_load" (defArgs s_is_load) (defBody s_is_load) (defScope s_is_load) [] [] (He.ga K "is_load") fd_is_load
  g_is_load : mg "is_load" = some (.ref (He.ga K "is_load"))
  b_is_load : Binds K fd_is_load ["parts"] []
  fd_is_store : FuncData
  F_is_store : FunD K "is_store" "is_store" (defArgs s_is_store) (defBody s_is_store) (defScope s_is_store) [] [] (He.ga K "is_store") fd_is_store
  g_is_store : mg "is_store" = some (.ref (He.ga K "is_store"))
  b_is_store : Binds K fd_is_store ["parts"] []
  fd_is_numbered : FuncData
  F_is_numbered : FunD K "is_numbered" "is_numbered" (defArgs s_is_numbered) (defBody s_is_numbered) (defScope s_is_numbered) [] [] (He.ga K "is_numbered") fd_is_numbered
  g_is_numbered : mg "is_numbered" = some (.ref (He.ga K "is_numbered"))
  b_is_numbered : Binds K fd_is_numbered ["parts"] []
  fd_is_lack_rest : FuncData
  F_is_lack_rest : FunD K "is_lack_rest" "is_lack_rest" (defArgs s_is_lack_rest) (defBody s_is_lack_rest) (defScope s_is_lack_rest) [] [] (He.ga K "is_lack_rest") fd_is_lack_rest
  g_is_lack_rest : mg "is_lack_rest" = some (.ref (He.ga K "is_lack_rest"))
  b_is_lack_rest : Binds K fd_is_lack_rest ["rest"] []
  fd_letter_in : FuncData
  F_letter_in : FunD K "letter_in" "letter_in" (defArgs s_letter_in) (defBody s_letter_in) (defScope s_letter_in) [] [] (He.ga K "letter_in") fd_letter_in
  g_letter_in : mg "letter_in" = some (.ref (He.ga K "letter_in"))
  b_letter_in : Binds K fd_letter_in ["word", "parts"] []
  fd_law_page : FuncData
  F_law_page : FunD K "_law_page" "_law_page" (defArgs s_law_page) (defBody s_law_page) (defScope s_law_page) [] [] (He.ga K "_law_page") fd_law_page
  g_law_page : mg "_law_page" = some (.ref (He.ga K "_law_page"))
  b_law_page : Binds K fd_law_page ["pot", "many"] []
  fd_law_deed : FuncData
  F_law_deed : FunD K "_law_deed" "_law_deed" (defArgs s_law_deed) (defBody s_law_deed) (defScope s_law_deed) [] [] (He.ga K "_law_deed") fd_law_deed
  g_law_deed : mg "_law_deed" = some (.ref (He.ga K "_law_deed"))
  b_law_deed : Binds K fd_law_deed ["pot", "many"] []
  fd_law_told : FuncData
  F_law_told : FunD K "_law_told" "_law_told" (defArgs s_law_told) (defBody s_law_told) (defScope s_law_told) [] [] (He.ga K "_law_told") fd_law_told
  g_law_told : mg "_law_told" = some (.ref (He.ga K "_law_told"))
  b_law_told : Binds K fd_law_told ["thing"] []
  fd_law_is_letter : FuncData
  F_law_is_letter : FunD K "_law_is_letter" "_law_is_letter" (defArgs s_law_is_letter) (defBody s_law_is_letter) (defScope s_law_is_letter) [] [] (He.ga K "_law_is_letter") fd_law_is_letter
  g_law_is_letter : mg "_law_is_letter" = some (.ref (He.ga K "_law_is_letter"))
  b_law_is_letter : Binds K fd_law_is_letter ["thing"] []
  fd_is_deed : FuncData
  F_is_deed : FunD K "is_deed" "is_deed" (defArgs s_is_deed) (defBody s_is_deed) (defScope s_is_deed) [] [] (He.ga K "is_deed") fd_is_deed
  g_is_deed : mg "is_deed" = some (.ref (He.ga K "is_deed"))
  b_is_deed : Binds K fd_is_deed ["thing"] []
  fd_is_page_rest : FuncData
  F_is_page_rest : FunD K "is_page_rest" "is_page_rest" (defArgs s_is_page_rest) (defBody s_is_page_rest) (defScope s_is_page_rest) [] [] (He.ga K "is_page_rest") fd_is_page_rest
  g_is_page_rest : mg "is_page_rest" = some (.ref (He.ga K "is_page_rest"))
  b_is_page_rest : Binds K fd_is_page_rest ["rest"] []
  fd_page_text : FuncData
  F_page_text : FunD K "page_text" "page_text" (defArgs s_page_text) (defBody s_page_text) (defScope s_page_text) [] [] (He.ga K "page_text") fd_page_text
  g_page_text : mg "page_text" = some (.ref (He.ga K "page_text"))
  b_page_text : Binds K fd_page_text ["page"] []
  fd_law_letter : FuncData
  F_law_letter : FunD K "_law_letter" "_law_letter" (defArgs s_law_letter) (defBody s_law_letter) (defScope s_law_letter) [] [] (He.ga K "_law_letter") fd_law_letter
  g_law_letter : mg "_law_letter" = some (.ref (He.ga K "_law_letter"))
  b_law_letter : Binds K fd_law_letter ["pot", "many"] []
  fd_is_letter : FuncData
  F_is_letter : FunD K "is_letter" "is_letter" (defArgs s_is_letter) (defBody s_is_letter) (defScope s_is_letter) [] [] (He.ga K "is_letter") fd_is_letter
  g_is_letter : mg "is_letter" = some (.ref (He.ga K "is_letter"))
  b_is_letter : Binds K fd_is_letter ["thing"] []
  fd_deed_text : FuncData
  F_deed_text : FunD K "deed_text" "deed_text" (defArgs s_deed_text) (defBody s_deed_text) (defScope s_deed_text) [] [] (He.ga K "deed_text") fd_deed_text
  g_deed_text : mg "deed_text" = some (.ref (He.ga K "deed_text"))
  b_deed_text : Binds K fd_deed_text ["deed"] []
  fd_letter_text : FuncData
  F_letter_text : FunD K "letter_text" "letter_text" (defArgs s_letter_text) (defBody s_letter_text) (defScope s_letter_text) [] [] (He.ga K "letter_text") fd_letter_text
  g_letter_text : mg "letter_text" = some (.ref (He.ga K "letter_text"))
  b_letter_text : Binds K fd_letter_text ["letter"] []
  fd_read_deed : FuncData
  F_read_deed : FunD K "read_deed" "read_deed" (defArgs s_read_deed) (defBody s_read_deed) (defScope s_read_deed) [] [] (He.ga K "read_deed") fd_read_deed
  g_read_deed : mg "read_deed" = some (.ref (He.ga K "read_deed"))
  b_read_deed : Binds K fd_read_deed ["text"] []
  fd_read_letter : FuncData
  F_read_letter : FunD K "read_letter" "read_letter" (defArgs s_read_letter) (defBody s_read_letter) (defScope s_read_letter) [] [] (He.ga K "read_letter") fd_read_letter
  g_read_letter : mg "read_letter" = some (.ref (He.ga K "read_letter"))
  b_read_letter : Binds K fd_read_letter ["text"] []
  fd_law_same : FuncData
  F_law_same : FunD K "_law_same" "_law_same" (defArgs s_law_same) (defBody s_law_same) (defScope s_law_same) [] [] (He.ga K "_law_same") fd_law_same
  g_law_same : mg "_law_same" = some (.ref (He.ga K "_law_same"))
  b_law_same : Binds K fd_law_same ["found", "due"] []
  fd_law_met : FuncData
  F_law_met : FunD K "_law_met" "_law_met" (defArgs s_law_met) (defBody s_law_met) (defScope s_law_met) [] [] (He.ga K "_law_met") fd_law_met
  g_law_met : mg "_law_met" = some (.ref (He.ga K "_law_met"))
  b_law_met : Binds K fd_law_met ["ask", "thing"] []
  fd_law : FuncData
  F_law : FunD K "law" "law" (defArgs s_law) (defBody s_law) (defScope s_law) [] [] (He.ga K "law") fd_law
  g_law : mg "law" = some (.ref (He.ga K "law"))
  b_law : Binds K fd_law ["script"] []
  fd_i_NoDeed : FuncData
  F_i_NoDeed : FunD K "__init__" "NoDeed.__init__" (defArgs s_i_NoDeed) (defBody s_i_NoDeed) (defScope s_i_NoDeed) [] [] (He.ma K (He.ga K "NoDeed") "__init__") fd_i_NoDeed
  b_i_NoDeed : Binds K fd_i_NoDeed ["self", "number"] []
  ox_NoDeed : OexC K (He.ga K "NoDeed")
  ii_NoDeed : PySem.W.findIn K (.ref (He.ga K "NoDeed")) "__init__" = some (some (.ref (He.ma K (He.ga K "NoDeed") "__init__"))) ∧ PySem.W.typeIn K (.ref (He.ma K (He.ga K "NoDeed") "__init__")) = some (.type "function")
  n_ValueError : mg "ValueError" = none
  n_abs : mg "abs" = none
  n_all : mg "all" = none
  n_bool : mg "bool" = none
  n_enumerate : mg "enumerate" = none
  n_int : mg "int" = none
  n_isinstance : mg "isinstance" = none
  n_len : mg "len" = none
  n_list : mg "list" = none
  n_max : mg "max" = none
  n_min : mg "min" = none
  n_range : mg "range" = none
  n_set : mg "set" = none
  n_sorted : mg "sorted" = none
  n_str : mg "str" = none
  n_tuple : mg "tuple" = none
  n_zip : mg "zip" = none
  g_WalkError : mg "WalkError" = some (.ref (He.ga K "WalkError"))
  g_NoCell : mg "NoCell" = some (.ref (He.ga K "NoCell"))
  g_NoPages : mg "NoPages" = some (.ref (He.ga K "NoPages"))
  g_NoAddress : mg "NoAddress" = some (.ref (He.ga K "NoAddress"))
  g_NoRoot : mg "NoRoot" = some (.ref (He.ga K "NoRoot"))
  g_NoPage : mg "NoPage" = some (.ref (He.ga K "NoPage"))
  g_NoLetter : mg "NoLetter" = some (.ref (He.ga K "NoLetter"))
  g_NoText : mg "NoText" = some (.ref (He.ga K "NoText"))
  g_NoLine : mg "NoLine" = some (.ref (He.ga K "NoLine"))
  g_NoDeed : mg "NoDeed" = some (.ref (He.ga K "NoDeed"))
  x_NoLetter : XCls K mg "NoLetter" (He.ga K "NoLetter")
  x_NoPages : XCls K mg "NoPages" (He.ga K "NoPages")
  x_NoText : XCls K mg "NoText" (He.ga K "NoText")
  isi : Isi ⟨K, mg⟩ isiT isiC
  xm_WalkError : XTryOk ⟨K, mg⟩ "WalkError" xmT
  xf_number : Xfs ⟨K, mg⟩ "number" xa_number
  wi : ClX.CRead K (He.ga K "WalkError") (.type "type") ∧ PySem.W.findCls K (.ref (He.ga K "WalkError")) (.type "type") "__init__" = some (.val (.builtin "ValueError.__init__"))
  g_FORMS : mg "FORMS" = some (.ref (He.ga K "FORMS"))
  kt_FORMS : KTab K w mg "FORMS" kd_FORMS
  g_RESTS : mg "RESTS" = some (.ref (He.ga K "RESTS"))
  kt_RESTS : KTab K w mg "RESTS" kd_RESTS
  k_BLANK : mg "BLANK" = some (.ref (He.ga K "BLANK")) ∧ (∀ H, SqT K H (He.ga K "BLANK") [.int 0, .int 0, .int 0, .int 0, .int 0, .int 0, .int 0, .int 0]) ∧ ∀ r H, RepL ⟨K, mg⟩ r H [.int 0, .int 0, .int 0, .int 0, .int 0, .int 0, .int 0, .int 0] [.int 0, .int 0, .int 0, .int 0, .int 0, .int 0, .int 0, .int 0]
  k_BLANK_TEXT : ∃ t, mg "BLANK_TEXT" = some (.str "-" t)
  k_FIGURES : ∃ t, mg "FIGURES" = some (.str "0123456789" t)
  k_LAST_ADDRESS : ∃ t, mg "LAST_ADDRESS" = some (.int 511 t)
  k_MOST : ∃ t, mg "MOST" = some (.int 65535 t)
  k_MOST_FIGURES : ∃ t, mg "MOST_FIGURES" = some (.int 40 t)
  k_MOST_MOVE : ∃ t, mg "MOST_MOVE" = some (.int 1000000 t)
  k_MOST_NUMBER : ∃ t, mg "MOST_NUMBER" = some (.int 4095 t)
  k_MOST_PAGES : ∃ t, mg "MOST_PAGES" = some (.int 16 t)
  k_PLACES : ∃ t, mg "PLACES" = some (.int 8 t)
  k_SIGNS : ∃ t, mg "SIGNS" = some (.str "0123456789abcdef" t)
section
variable {P : Program} {w : World} {K : PySem.W.Frag} {mg : Str → Option Value} {base : Heap}
theorem sc_i_NoDeed : FnScope ["self", "number"] ["self", "number"] (defScope s_i_NoDeed) := ⟨rfl, rfl, rfl, by decide +kernel, rfl, by decide +kernel, by decide +kernel⟩
theorem ok_i_NoDeed (T : Tx P w K mg base) : FnOk P w K mg base (L2.CX P w) 1 (He.ma K (He.ga K "NoDeed") "__init__") T.fd_i_NoDeed ["self", "number"] (spXi "number" (He.ga K "NoDeed")) := T.F_i_NoDeed.ok sc_i_NoDeed spXi_len fun cdv A outer s H vs Q E hr h => ⟨_, pss_cons (ps_expr (pe_winit rfl T.g_WalkError T.wi.1 T.wi.2 (pa_cons (pv 0) (pa_cons pe_str pa_nil)))) (pss_one (ps_ost (pv 0) (pv 1))), xi_end T.ox_NoDeed (xfnone T.xf_number T.g_NoDeed (by decide +kernel)) h⟩
theorem xd_NoDeed (T : Tx P w K mg base) : XdCls K mg base P w "NoDeed" "number" (He.ga K "NoDeed") (He.ma K (He.ga K "NoDeed") "__init__") T.fd_i_NoDeed ["self", "number"] 1 := ⟨T.g_NoDeed, T.ox_NoDeed, T.ii_NoDeed.1, T.ii_NoDeed.2, ok_i_NoDeed T, T.b_i_NoDeed⟩
theorem sc_is_within : FnScope ["thing", "least", "most"] ["thing", "least", "most"] (defScope s_is_within) := ⟨rfl, rfl, rfl, by decide +kernel, rfl, by decide +kernel, by decide +kernel⟩
noncomputable def b_is_within : FS := (fRet (fAnd (fCall (wIsi isiT isiC) (fCons (fVar 0) (fCons (fC (.ty "int")) fNil))) (fAnd (fNot (fCall (wIsi isiT isiC) (fCons (fVar 0) (fCons (fC (.ty "bool")) fNil)))) (fChnE wLe wLe (fVar 1) (fVar 0) (fVar 2)))))
noncomputable def f_is_within : FF := clean (fRun 3 b_is_within)
theorem ok_is_within (T : Tx P w K mg base) : FnW P w K mg base 1 (He.ga K "is_within") T.fd_is_within ["thing", "least", "most"] f_is_within := FnW.clean (fn_WD T.F_is_within sc_is_within fun cdv A outer s H E hr tk hp => (s_one (s_ret (e_and (e_cb cr_isiW (rf_isi T.isi) rfl T.n_isinstance (by decide +kernel) (a_cons (e_var 0) (a_cons (e_ty rfl T.n_int (by decide +kernel)) a_nil))) (e_and (e_not (e_cb cr_isiW (rf_isi T.isi) rfl T.n_isinstance (by decide +kernel) (a_cons (e_var 0) (a_cons (e_ty rfl T.n_bool (by decide +kernel)) a_nil)))) (e_one (e_chn op_le rb_I op_le rb_I (e_var 1) (e_var 0) (e_var 2))))))))
theorem sc_is_count : FnScope ["thing"] ["thing"] (defScope s_is_count) := ⟨rfl, rfl, rfl, by decide +kernel, rfl, by decide +kernel, by decide +kernel⟩
noncomputable def b_is_count : FS := (fRet (fAnd (fCall (wIsi isiT isiC) (fCons (fVar 0) (fCons (fC (.ty "int")) fNil))) (fAnd (fNot (fCall (wIsi isiT isiC) (fCons (fVar 0) (fCons (fC (.ty "bool")) fNil)))) (fCmpE wGe (fVar 0) (fC (.int 1))))))
noncomputable def f_is_count : FF := clean (fRun 1 b_is_count)
theorem ok_is_count (T : Tx P w K mg base) : FnW P w K mg base 1 (He.ga K "is_count") T.fd_is_count ["thing"] f_is_count := FnW.clean (fn_WD T.F_is_count sc_is_count fun cdv A outer s H E hr tk hp => (s_one (s_ret (e_and (e_cb cr_isiW (rf_isi T.isi) rfl T.n_isinstance (by decide +kernel) (a_cons (e_var 0) (a_cons (e_ty rfl T.n_int (by decide +kernel)) a_nil))) (e_and (e_not (e_cb cr_isiW (rf_isi T.isi) rfl T.n_isinstance (by decide +kernel) (a_cons (e_var 0) (a_cons (e_ty rfl T.n_bool (by decide +kernel)) a_nil)))) (e_one (e_cmp op_ge rb_I (e_var 0) e_int (nomark _))))))))
theorem sc_is_row : FnScope ["thing"] ["thing"] (defScope s_is_row) := ⟨rfl, rfl, rfl, by decide +kernel, rfl, by decide +kernel, by decide +kernel⟩
noncomputable def b_is_row : FS := (fRet (fAnd (fCall (wIsi isiT isiC) (fCons (fVar 0) (fCons (fC (.ty "tuple")) fNil))) (fChnE wLe wLe (fC (.int 1)) (fCall wLen (fCons (fVar 0) fNil)) (fC k_MOST_PAGES))))
noncomputable def f_is_row : FF := clean (fRun 1 b_is_row)
theorem ok_is_row (T : Tx P w K mg base) : FnW P w K mg base 1 (He.ga K "is_row") T.fd_is_row ["thing"] f_is_row := FnW.clean (fn_WD T.F_is_row sc_is_row fun cdv A outer s H E hr tk hp => (s_one (s_ret (e_and (e_cb cr_isiW (rf_isi T.isi) rfl T.n_isinstance (by decide +kernel) (a_cons (e_var 0) (a_cons (e_ty rfl T.n_tuple (by decide +kernel)) a_nil))) (e_one (e_chn op_le rb_I op_le rb_I e_int (e_cb cr_lenW rf_len rfl T.n_len (by decide +kernel) (a_cons (e_var 0) a_nil)) (e_gi T.k_MOST_PAGES)))))))
theorem sc_is_bare_rest : FnScope ["rest"] ["rest"] (defScope s_is_bare_rest) := ⟨rfl, rfl, rfl, by decide +kernel, rfl, by decide +kernel, by decide +kernel⟩
noncomputable def b_is_bare_rest : FS := (fRet (fCmpE wEq (fCall wLen (fCons (fVar 0) fNil)) (fC (.int 0))))
noncomputable def f_is_bare_rest : FF := clean (fRun 1 b_is_bare_rest)
theorem ok_is_bare_rest (T : Tx P w K mg base) : FnW P w K mg base 1 (He.ga K "is_bare_rest") T.fd_is_bare_rest ["rest"] f_is_bare_rest := FnW.clean (fn_WD T.F_is_bare_rest sc_is_bare_rest fun cdv A outer s H E hr tk hp => (s_one (s_ret (e_cmp (op_eqW hr.units) rb_eq (e_cb cr_lenW rf_len rfl T.n_len (by decide +kernel) (a_cons (e_var 0) a_nil)) e_int (nomark _)))))
theorem sc_hexed : FnScope ["cell", "text"] ["cell"] (defScope s_hexed) := ⟨rfl, rfl, rfl, by decide +kernel, rfl, by decide +kernel, by decide +kernel⟩
noncomputable def b_hexed : FS := (fSeq (fSet 1 (fC (.str ""))) (fSeq (whS (fCmp wGt (fVar 0) (fC (.int 0))) (fSeq (fSet 1 (fBin wAdd (fBin wIxA (fC k_SIGNS) (fBin wAnd (fVar 0) (fC (.int 15)))) (fVar 1))) (fAug 0 wShr (fC (.int 4)))) 1000) (fRet (fOr (fVar 1) (fC (.str "0"))))))
noncomputable def f_hexed : FF := clean (fRun 2 b_hexed)
theorem ok_hexed (T : Tx P w K mg base) : FnW P w K mg base 1 (He.ga K "hexed") T.fd_hexed ["cell"] f_hexed := FnW.clean (fn_WD T.F_hexed sc_hexed fun cdv A outer s H E hr tk hp => (s_cons (s_set sc_hexed.nd e_str) (s_cons (s_while hp (t_cmp op_gt rb_I (e_var 0) e_int (nomark _)) (s_cons (s_set sc_hexed.nd (e_op op_addW rf_add (e_ix (e_gs T.k_SIGNS) (e_op op_and rf_and (e_var 0) e_int)) (e_var 1))) (s_one (s_aug sc_hexed.nd iop_shr rf_shr e_int)))) (s_one (s_ret (e_or (e_var 1) (e_one e_str)))))))
theorem sc_rowed : FnScope ["numbers", "number"] ["numbers"] (defScope s_rowed) := ⟨rfl, rfl, rfl, by decide +kernel, rfl, by decide +kernel, by decide +kernel⟩
noncomputable def b_rowed : FS := (fRet (fM1 wJoin (fC (.str ",")) (fLc [1] (fSeqI (fVar 0)) (bN 1) fYes (fCall wStr (fCons (fVar 1) fNil)))))
noncomputable def f_rowed : FF := clean (fRun 2 b_rowed)
theorem ok_rowed (T : Tx P w K mg base) : FnW P w K mg base 1 (He.ga K "rowed") T.fd_rowed ["numbers"] f_rowed := FnW.clean (fn_WD T.F_rowed sc_rowed fun cdv A outer s H E hr tk hp => (s_one (s_ret (e_join e_str (e_lc sc_rowed.nd (i_seq (e_var 0)) (blkOk_by (show blkC ["numbers", "number"] (defScope s_rowed) _ _ = true by decide +kernel)) (fun _ _ _ _ _ => pg_name (i := 1) sc_rowed.nd rfl (Or.inl rfl)) (fun _ _ _ _ _ => ts_nil) (fun _ _ _ _ _ => by exact (e_ct call_str_int rf_str rfl T.n_str (by decide +kernel) (a_cons (e_var 1) a_nil)))) fun a b => pe_join a b))))
theorem sc_number_in : FnScope ["word", "sign"] ["word"] (defScope s_number_in) := ⟨rfl, rfl, rfl, by decide +kernel, rfl, by decide +kernel, by decide +kernel⟩
noncomputable def b_number_in : FS := (fSeq (fIfS (fOrT (fNotT (fChn wLe wLe (fC (.int 1)) (fCall wLen (fCons (fVar 0) fNil)) (fC k_MOST_FIGURES))) (fNotT (fTru (fCall wAll (fCons (fLc [1] (fSeqI (fVar 0)) (bN 1) fYes (fCmpE wIn (fVar 1) (fC k_FIGURES))) fNil))))) (fRet (fC .non)) fNext) (fRet (fIf (fOrT (fCmp wEq (fVar 0) (fC (.str "0"))) (fCmp wNe (fBin wIxA (fVar 0) (fC (.int 0))) (fC (.str "0")))) (fCall wIntS (fCons (fVar 0) fNil)) (fC .non))))
noncomputable def f_number_in : FF := clean (fRun 2 b_number_in)
theorem ok_number_in (T : Tx P w K mg base) : FnW P w K mg base 1 (He.ga K "number_in") T.fd_number_in ["word"] f_number_in := FnW.clean (fn_WD T.F_number_in sc_number_in fun cdv A outer s H E hr tk hp => (s_cons (s_if (PW.pt (t_or (t_not (t_chn op_le rb_I op_le rb_I e_int (e_cb cr_lenW rf_len rfl T.n_len (by decide +kernel) (a_cons (e_var 0) a_nil)) (e_gi T.k_MOST_FIGURES))) (t_or1 (t_not (t_tru (e_cb (cr_all rfl) rf_all rfl T.n_all (by decide +kernel) (a_cons (e_lc sc_number_in.nd (i_seq (e_var 0)) (blkOk_by (show blkC ["word", "sign"] (defScope s_number_in) _ _ = true by decide +kernel)) (fun _ _ _ _ _ => pg_name (i := 1) sc_number_in.nd rfl (Or.inl rfl)) (fun _ _ _ _ _ => ts_nil) (fun _ _ _ _ _ => by exact (e_cmp op_inW rb_in (e_var 1) (e_gs T.k_FIGURES) (by with_unfolding_all rfl)))) a_nil))))))) (s_one (s_ret e_non)) s_nil) (s_one (s_ret (e_if (PW.pt (t_or (t_cmp (op_eqW hr.units) rb_eq (e_var 0) e_str (nomark _)) (t_or1 (t_cmp (op_neW hr.units) rb_ne (e_ix (e_var 0) e_int) e_str (nomark _))))) (e_ct cr_intS intS_rep rfl T.n_int (by decide +kernel) (a_cons (e_var 0) a_nil)) e_non)))))
theorem sc_cell_in : FnScope ["word", "sign"] ["word"] (defScope s_cell_in) := ⟨rfl, rfl, rfl, by decide +kernel, rfl, by decide +kernel, by decide +kernel⟩
noncomputable def b_cell_in : FS := (fSeq (fIfS (fOrT (fNotT (fChn wLe wLe (fC (.int 1)) (fCall wLen (fCons (fVar 0) fNil)) (fC (.int 4)))) (fNotT (fTru (fCall wAll (fCons (fLc [1] (fSeqI (fVar 0)) (bN 1) fYes (fCmpE wIn (fVar 1) (fC k_SIGNS))) fNil))))) (fRet (fC .non)) fNext) (fRet (fIf (fOrT (fCmp wEq (fVar 0) (fC (.str "0"))) (fCmp wNe (fBin wIxA (fVar 0) (fC (.int 0))) (fC (.str "0")))) (fCall wIntH (fCons (fVar 0) (fCons (fC (.int 16)) fNil))) (fC .non))))
noncomputable def f_cell_in : FF := clean (fRun 2 b_cell_in)
theorem ok_cell_in (T : Tx P w K mg base) : FnW P w K mg base 1 (He.ga K "cell_in") T.fd_cell_in ["word"] f_cell_in := FnW.clean (fn_WD T.F_cell_in sc_cell_in fun cdv A outer s H E hr tk hp => (s_cons (s_if (PW.pt (t_or (t_not (t_chn op_le rb_I op_le rb_I e_int (e_cb cr_lenW rf_len rfl T.n_len (by decide +kernel) (a_cons (e_var 0) a_nil)) e_int)) (t_or1 (t_not (t_tru (e_cb (cr_all rfl) rf_all rfl T.n_all (by decide +kernel) (a_cons (e_lc sc_cell_in.nd (i_seq (e_var 0)) (blkOk_by (show blkC ["word", "sign"] (defScope s_cell_in) _ _ = true by decide +kernel)) (fun _ _ _ _ _ => pg_name (i := 1) sc_cell_in.nd rfl (Or.inl rfl)) (fun _ _ _ _ _ => ts_nil) (fun _ _ _ _ _ => by exact (e_cmp op_inW rb_in (e_var 1) (e_gs T.k_SIGNS) (by with_unfolding_all rfl)))) a_nil))))))) (s_one (s_ret e_non)) s_nil) (s_one (s_ret (e_if (PW.pt (t_or (t_cmp (op_eqW hr.units) rb_eq (e_var 0) e_str (nomark _)) (t_or1 (t_cmp (op_neW hr.units) rb_ne (e_ix (e_var 0) e_int) e_str (nomark _))))) (e_ct call_int_hex rf_intH rfl T.n_int (by decide +kernel) (a_cons (e_var 0) (a_cons e_int a_nil))) e_non)))))
theorem sc_words_in : FnScope ["text"] ["text"] (defScope s_words_in) := ⟨rfl, rfl, rfl, by decide +kernel, rfl, by decide +kernel, by decide +kernel⟩
noncomputable def b_words_in : FS := (fSeq (fIfS (fNotT (fTru (fCall (wIsi isiT isiC) (fCons (fVar 0) (fCons (fC (.ty "str")) fNil))))) (fRaise "NoText") fNext) (fRet (fM1 wSplit (fVar 0) (fC (.str " ")))))
noncomputable def f_words_in : FF := clean (fRun 1 b_words_in)
theorem ok_words_in (T : Tx P w K mg base) : FnW P w K mg base 1 (He.ga K "words_in") T.fd_words_in ["text"] f_words_in := FnW.clean (fn_WD T.F_words_in sc_words_in fun cdv A outer s H E hr tk hp => (s_cons (s_if (t_not (t_tru (e_cb cr_isiW (rf_isi T.isi) rfl T.n_isinstance (by decide +kernel) (a_cons (e_var 0) (a_cons (e_ty rfl T.n_str (by decide +kernel)) a_nil))))) (s_one (s_raise T.x_NoText tk)) s_nil) (s_one (s_ret (e_split (e_var 0) e_str fun a b => pe_split a b)))))
theorem sc_law_pot : FnScope ["script", "k", "cell", "mixed"] ["script", "k"] (defScope s_law_pot) := ⟨rfl, rfl, rfl, by decide +kernel, rfl, by decide +kernel, by decide +kernel⟩
noncomputable def b_law_pot : FS := (fSeq (fSet 2 (fC (.int 0))) (fSeq (fIfS (fCmp wLt (fVar 1) (fCall wLen (fCons (fVar 0) fNil))) (fSet 2 (fBin wMod (fCall wAbs (fCons (fBin wIxA (fVar 0) (fVar 1)) fNil)) (fBin wPow (fBin wPow (fC (.int 10)) (fC (.int 60))) (fC (.int 14))))) fNext) (fSeq (fSet 3 (fBin wMod (fBin wPow (fBin wAdd (fBin wAdd (fBin wMod (fVar 2) (fC (.int 2147483629))) (fBin wMul (fC (.int 7919)) (fVar 1))) (fC (.int 1))) (fC (.int 5))) (fC (.int 2305843009213693951)))) (fRet (fLst (fCons (fBin wMul (fVar 2) (fCall wInt (fCons (fCmpE wGe (fVar 2) (fBin wPow (fC (.int 10)) (fC (.int 18)))) fNil))) (fCons (fVar 3) (fCons (fC (.int 0)) fNil))))))))
noncomputable def f_law_pot : FF := clean (fRun 4 b_law_pot)
theorem ok_law_pot (T : Tx P w K mg base) : FnW P w K mg base 1 (He.ga K "_law_pot") T.fd_law_pot ["script", "k"] f_law_pot := FnW.clean (fn_WD T.F_law_pot sc_law_pot fun cdv A outer s H E hr tk hp => (s_cons (s_set sc_law_pot.nd e_int) (s_cons (s_if (t_cmp op_lt rb_I (e_var 1) (e_cb cr_lenW rf_len rfl T.n_len (by decide +kernel) (a_cons (e_var 0) a_nil)) (nomark _)) (s_one (s_set sc_law_pot.nd (e_op op_mod rf_mod (e_cb call_abs rf_abs rfl T.n_abs (by decide +kernel) (a_cons (e_ix (e_var 0) (e_var 1)) a_nil)) (e_op op_powW rf_pow (e_op op_powW rf_pow e_int e_int) e_int)))) s_nil) (s_cons (s_set sc_law_pot.nd (e_op op_mod rf_mod (e_op op_powW rf_pow (e_op op_addW rf_add (e_op op_addW rf_add (e_op op_mod rf_mod (e_var 2) e_int) (e_op op_mulA rf_mul e_int (e_var 1))) e_int) e_int) e_int)) (s_one (s_ret (e_lst (a_cons (e_op op_mulA rf_mul (e_var 2) (e_ct call_int1 rf_int rfl T.n_int (by decide +kernel) (a_cons (e_cmp op_ge rb_I (e_var 2) (e_op op_powW rf_pow e_int e_int) (nomark _)) a_nil))) (a_cons (e_var 3) (a_cons e_int a_nil))))))))))
theorem sc_law_take : FnScope ["pot", "many", "one", "other", "found"] ["pot", "many"] (defScope s_law_take) := ⟨rfl, rfl, rfl, by decide +kernel, rfl, by decide +kernel, by decide +kernel⟩
noncomputable def b_law_take : FS := (fSeq (fIfS (fCmp wGt (fBin wIxA (fVar 0) (fC (.int 0))) (fC (.int 0))) (fSeq (fSet 4 (fBin wMod (fBin wIxA (fVar 0) (fC (.int 0))) (fVar 1))) (fSeq (fAsg (fBin wFdiv (fBin wIxA (fVar 0) (fC (.int 0))) (fVar 1)) (gSubW (fVar 0) (fC (.int 0)))) (fRet (fVar 4)))) fNext) (fSeq (fAsg (fBin wAdd (fBin wIxA (fVar 0) (fC (.int 2))) (fC (.int 1))) (gSubW (fVar 0) (fC (.int 2)))) (fSeq (fSet 2 (fBin wMod (fBin wPow (fBin wAdd (fBin wIxA (fVar 0) (fC (.int 1))) (fBin wMul (fC (.int 104729)) (fBin wIxA (fVar 0) (fC (.int 2))))) (fC (.int 3))) (fC (.int 2305843009213693921)))) (fSeq (fSet 3 (fBin wMod (fBin wPow (fBin wAdd (fBin wAdd (fVar 2) (fBin wMod (fBin wIxA (fVar 0) (fC (.int 1))) (fC (.int 65537)))) (fBin wMul (fC (.int 31)) (fBin wIxA (fVar 0) (fC (.int 2))))) (fC (.int 5))) (fC (.int 2305843009213693907)))) (fRet (fBin wMod (fBin wFdiv (fVar 3) (fC (.int 1024))) (fVar 1)))))))
noncomputable def f_law_take : FF := clean (fRun 5 b_law_take)
theorem ok_law_take (T : Tx P w K mg base) : FnW P w K mg base 1 (He.ga K "_law_take") T.fd_law_take ["pot", "many"] f_law_take := FnW.clean (fn_WD T.F_law_take sc_law_take fun cdv A outer s H E hr tk hp => (s_cons (s_if (t_cmp op_gt rb_I (e_ix (e_var 0) e_int) e_int (nomark _)) (s_cons (s_set sc_law_take.nd (e_op op_mod rf_mod (e_ix (e_var 0) e_int) (e_var 1))) (s_cons (s_asg (e_op op_fdivW rf_fdiv (e_ix (e_var 0) e_int) (e_var 1)) (g_sub (Wx := W0) (e_var 0) e_int)) (s_one (s_ret (e_var 4))))) s_nil) (s_cons (s_asg (e_op op_addW rf_add (e_ix (e_var 0) e_int) e_int) (g_sub (Wx := W0) (e_var 0) e_int)) (s_cons (s_set sc_law_take.nd (e_op op_mod rf_mod (e_op op_powW rf_pow (e_op op_addW rf_add (e_ix (e_var 0) e_int) (e_op op_mulA rf_mul e_int (e_ix (e_var 0) e_int))) e_int) e_int)) (s_cons (s_set sc_law_take.nd (e_op op_mod rf_mod (e_op op_powW rf_pow (e_op op_addW rf_add (e_op op_addW rf_add (e_var 2) (e_op op_mod rf_mod (e_ix (e_var 0) e_int) e_int)) (e_op op_mulA rf_mul e_int (e_ix (e_var 0) e_int))) e_int) e_int)) (s_one (s_ret (e_op op_mod rf_mod (e_op op_fdivW rf_fdiv (e_var 3) e_int) (e_var 1)))))))))
theorem sc_law_by_sixteen : FnScope ["number", "text"] ["number"] (defScope s_law_by_sixteen) := ⟨rfl, rfl, rfl, by decide +kernel, rfl, by decide +kernel, by decide +kernel⟩
noncomputable def b_law_by_sixteen : FS := (fSeq (fSet 1 (fC (.str ""))) (fSeq (whS (fCmp wGt (fVar 0) (fC (.int 0))) (fSeq (fSet 1 (fBin wAdd (fBin wIxA (fC (.str "0123456789abcdef")) (fBin wMod (fVar 0) (fC (.int 16)))) (fVar 1))) (fSet 0 (fBin wFdiv (fVar 0) (fC (.int 16))))) 1000) (fRet (fOr (fVar 1) (fC (.str "0"))))))
noncomputable def f_law_by_sixteen : FF := clean (fRun 2 b_law_by_sixteen)
theorem ok_law_by_sixteen (T : Tx P w K mg base) : FnW P w K mg base 1 (He.ga K "_law_by_sixteen") T.fd_law_by_sixteen ["number"] f_law_by_sixteen := FnW.clean (fn_WD T.F_law_by_sixteen sc_law_by_sixteen fun cdv A outer s H E hr tk hp => (s_cons (s_set sc_law_by_sixteen.nd e_str) (s_cons (s_while hp (t_cmp op_gt rb_I (e_var 0) e_int (nomark _)) (s_cons (s_set sc_law_by_sixteen.nd (e_op op_addW rf_add (e_ix e_str (e_op op_mod rf_mod (e_var 0) e_int)) (e_var 1))) (s_one (s_set sc_law_by_sixteen.nd (e_op op_fdivW rf_fdiv (e_var 0) e_int))))) (s_one (s_ret (e_or (e_var 1) (e_one e_str)))))))
theorem sc_law_is_from : FnScope ["thing", "least", "most"] ["thing", "least", "most"] (defScope s_law_is_from) := ⟨rfl, rfl, rfl, by decide +kernel, rfl, by decide +kernel, by decide +kernel⟩
noncomputable def b_law_is_from : FS := (fRet (fAnd (fCall (wIsi isiT isiC) (fCons (fVar 0) (fCons (fC (.ty "int")) fNil))) (fAnd (fNot (fCall (wIsi isiT isiC) (fCons (fVar 0) (fCons (fC (.ty "bool")) fNil)))) (fChnE wLe wLe (fVar 1) (fVar 0) (fVar 2)))))
noncomputable def f_law_is_from : FF := clean (fRun 3 b_law_is_from)
theorem ok_law_is_from (T : Tx P w K mg base) : FnW P w K mg base 1 (He.ga K "_law_is_from") T.fd_law_is_from ["thing", "least", "most"] f_law_is_from := FnW.clean (fn_WD T.F_law_is_from sc_law_is_from fun cdv A outer s H E hr tk hp => (s_one (s_ret (e_and (e_cb cr_isiW (rf_isi T.isi) rfl T.n_isinstance (by decide +kernel) (a_cons (e_var 0) (a_cons (e_ty rfl T.n_int (by decide +kernel)) a_nil))) (e_and (e_not (e_cb cr_isiW (rf_isi T.isi) rfl T.n_isinstance (by decide +kernel) (a_cons (e_var 0) (a_cons (e_ty rfl T.n_bool (by decide +kernel)) a_nil)))) (e_one (e_chn op_le rb_I op_le rb_I (e_var 1) (e_var 0) (e_var 2))))))))
theorem sc_is_cell : FnScope ["thing"] ["thing"] (defScope s_is_cell) := ⟨rfl, rfl, rfl, by decide +kernel, rfl, by decide +kernel, by decide +kernel⟩
noncomputable def b_is_cell : FS := (fRet (fFn 3 f_is_within (fCons (fVar 0) (fCons (fC (.int 0)) (fCons (fC k_MOST) fNil)))))
noncomputable def f_is_cell : FF := clean (fRun 1 b_is_cell)
theorem ok_is_cell (T : Tx P w K mg base) : FnW P w K mg base 2 (He.ga K "is_cell") T.fd_is_cell ["thing"] f_is_cell := FnW.clean (fn_WD T.F_is_cell sc_is_cell fun cdv A outer s H E hr tk hp => (s_one (s_ret (e_fnN (ok_is_within T) (hr.mono (by decide)) T.g_is_within T.F_is_within.kp T.b_is_within tk (a_cons (e_var 0) (a_cons e_int (a_cons (e_gi T.k_MOST) a_nil)))))))
theorem sc_is_number : FnScope ["thing"] ["thing"] (defScope s_is_number) := ⟨rfl, rfl, rfl, by decide +kernel, rfl, by decide +kernel, by decide +kernel⟩
noncomputable def b_is_number : FS := (fRet (fFn 3 f_is_within (fCons (fVar 0) (fCons (fC (.int 0)) (fCons (fC k_MOST_NUMBER) fNil)))))
noncomputable def f_is_number : FF := clean (fRun 1 b_is_number)
theorem ok_is_number (T : Tx P w K mg base) : FnW P w K mg base 2 (He.ga K "is_number") T.fd_is_number ["thing"] f_is_number := FnW.clean (fn_WD T.F_is_number sc_is_number fun cdv A outer s H E hr tk hp => (s_one (s_ret (e_fnN (ok_is_within T) (hr.mono (by decide)) T.g_is_within T.F_is_within.kp T.b_is_within tk (a_cons (e_var 0) (a_cons e_int (a_cons (e_gi T.k_MOST_NUMBER) a_nil)))))))
theorem sc_is_address : FnScope ["thing"] ["thing"] (defScope s_is_address) := ⟨rfl, rfl, rfl, by decide +kernel, rfl, by decide +kernel, by decide +kernel⟩
noncomputable def b_is_address : FS := (fRet (fFn 3 f_is_within (fCons (fVar 0) (fCons (fC (.int 0)) (fCons (fC k_LAST_ADDRESS) fNil)))))
noncomputable def f_is_address : FF := clean (fRun 1 b_is_address)
theorem ok_is_address (T : Tx P w K mg base) : FnW P w K mg base 2 (He.ga K "is_address") T.fd_is_address ["thing"] f_is_address := FnW.clean (fn_WD T.F_is_address sc_is_address fun cdv A outer s H E hr tk hp => (s_one (s_ret (e_fnN (ok_is_within T) (hr.mono (by decide)) T.g_is_within T.F_is_within.kp T.b_is_within tk (a_cons (e_var 0) (a_cons e_int (a_cons (e_gi T.k_LAST_ADDRESS) a_nil)))))))
theorem sc_is_move : FnScope ["thing"] ["thing"] (defScope s_is_move) := ⟨rfl, rfl, rfl, by decide +kernel, rfl, by decide +kernel, by decide +kernel⟩
noncomputable def b_is_move : FS := (fRet (fFn 3 f_is_within (fCons (fVar 0) (fCons (fC (.int 0)) (fCons (fC k_MOST_MOVE) fNil)))))
noncomputable def f_is_move : FF := clean (fRun 1 b_is_move)
theorem ok_is_move (T : Tx P w K mg base) : FnW P w K mg base 2 (He.ga K "is_move") T.fd_is_move ["thing"] f_is_move := FnW.clean (fn_WD T.F_is_move sc_is_move fun cdv A outer s H E hr tk hp => (s_one (s_ret (e_fnN (ok_is_within T) (hr.mono (by decide)) T.g_is_within T.F_is_within.kp T.b_is_within tk (a_cons (e_var 0) (a_cons e_int (a_cons (e_gi T.k_MOST_MOVE) a_nil)))))))
theorem sc_is_page_number : FnScope ["thing"] ["thing"] (defScope s_is_page_number) := ⟨rfl, rfl, rfl, by decide +kernel, rfl, by decide +kernel, by decide +kernel⟩
noncomputable def b_is_page_number : FS := (fRet (fFn 3 f_is_within (fCons (fVar 0) (fCons (fC (.int 0)) (fCons (fBin wSub (fC k_MOST_PAGES) (fC (.int 1))) fNil)))))
noncomputable def f_is_page_number : FF := clean (fRun 1 b_is_page_number)
theorem ok_is_page_number (T : Tx P w K mg base) : FnW P w K mg base 2 (He.ga K "is_page_number") T.fd_is_page_number ["thing"] f_is_page_number := FnW.clean (fn_WD T.F_is_page_number sc_is_page_number fun cdv A outer s H E hr tk hp => (s_one (s_ret (e_fnN (ok_is_within T) (hr.mono (by decide)) T.g_is_within T.F_is_within.kp T.b_is_within tk (a_cons (e_var 0) (a_cons e_int (a_cons (e_op op_sub rf_sub (e_gi T.k_MOST_PAGES) e_int) a_nil)))))))
theorem sc_is_last_rest : FnScope ["rest", "count"] ["rest"] (defScope s_is_last_rest) := ⟨rfl, rfl, rfl, by decide +kernel, rfl, by decide +kernel, by decide +kernel⟩
noncomputable def b_is_last_rest : FS := (fSeq (fIfS (fOrT (fCmp wNe (fCall wLen (fCons (fVar 0) fNil)) (fC (.int 2))) (fOrT (fNotT (fTru (fFn 3 f_is_within (fCons (fBin wIxA (fVar 0) (fC (.int 0))) (fCons (fC (.int 0)) (fCons (fC k_MOST_NUMBER) fNil)))))) (fNotT (fTru (fFn 1 f_is_row (fCons (fBin wIxA (fVar 0) (fC (.int 1))) fNil)))))) (fRet (fC (.bl false))) fNext) (fRet (fCall wAll (fCons (fLc [1] (fSeqI (fBin wIxA (fVar 0) (fC (.int 1)))) (bN 1) fYes (fFn 1 f_is_count (fCons (fVar 1) fNil))) fNil))))
noncomputable def f_is_last_rest : FF := clean (fRun 2 b_is_last_rest)
theorem ok_is_last_rest (T : Tx P w K mg base) : FnW P w K mg base 2 (He.ga K "is_last_rest") T.fd_is_last_rest ["rest"] f_is_last_rest := FnW.clean (fn_WD T.F_is_last_rest sc_is_last_rest fun cdv A outer s H E hr tk hp => (s_cons (s_if (PW.pt (t_or (t_cmp (op_neW hr.units) rb_ne (e_cb cr_lenW rf_len rfl T.n_len (by decide +kernel) (a_cons (e_var 0) a_nil)) e_int (nomark _)) (t_or (t_not (t_tru (e_fnN (ok_is_within T) (hr.mono (by decide)) T.g_is_within T.F_is_within.kp T.b_is_within tk (a_cons (e_ix (e_var 0) e_int) (a_cons e_int (a_cons (e_gi T.k_MOST_NUMBER) a_nil)))))) (t_or1 (t_not (t_tru (e_fnN (ok_is_row T) (hr.mono (by decide)) T.g_is_row T.F_is_row.kp T.b_is_row tk (a_cons (e_ix (e_var 0) e_int) a_nil)))))))) (s_one (s_ret e_bl)) s_nil) (s_one (s_ret (e_cb (cr_all rfl) rf_all rfl T.n_all (by decide +kernel) (a_cons (e_lc sc_is_last_rest.nd (i_seq (e_ix (e_var 0) e_int)) (blkOk_by (show blkC ["rest", "count"] (defScope s_is_last_rest) _ _ = true by decide +kernel)) (fun _ _ _ _ _ => pg_name (i := 1) sc_is_last_rest.nd rfl (Or.inl rfl)) (fun _ _ _ _ _ => ts_nil) (fun _ _ _ _ _ => by exact (e_fnB (ok_is_count T) (hr.mono (by decide)) T.g_is_count T.F_is_count.kp T.b_is_count (a_cons (e_var 1) a_nil)))) a_nil))))))
theorem sc_numbers_in : FnScope ["word", "part"] ["word"] (defScope s_numbers_in) := ⟨rfl, rfl, rfl, by decide +kernel, rfl, by decide +kernel, by decide +kernel⟩
noncomputable def b_numbers_in : FS := (fRet (fCall wTuple (fCons (fLc [1] (fSeqI (fM1 wSplit (fVar 0) (fC (.str ",")))) (bN 1) fYes (fFn 1 f_number_in (fCons (fVar 1) fNil))) fNil)))
noncomputable def f_numbers_in : FF := clean (fRun 2 b_numbers_in)
theorem ok_numbers_in (T : Tx P w K mg base) : FnW P w K mg base 2 (He.ga K "numbers_in") T.fd_numbers_in ["word"] f_numbers_in := FnW.clean (fn_WD T.F_numbers_in sc_numbers_in fun cdv A outer s H E hr tk hp => (s_one (s_ret (e_ct call_tuple_of rf_tuple rfl T.n_tuple (by decide +kernel) (a_cons (e_lc sc_numbers_in.nd (i_seq (e_split (e_var 0) e_str fun a b => pe_split a b)) (blkOk_by (show blkC ["word", "part"] (defScope s_numbers_in) _ _ = true by decide +kernel)) (fun _ _ _ _ _ => pg_name (i := 1) sc_numbers_in.nd rfl (Or.inl rfl)) (fun _ _ _ _ _ => ts_nil) (fun _ _ _ _ _ => by exact (e_fnB (ok_number_in T) (hr.mono (by decide)) T.g_number_in T.F_number_in.kp T.b_number_in (a_cons (e_var 1) a_nil)))) a_nil)))))
theorem sc_page_in : FnScope ["word", "part"] ["word"] (defScope s_page_in) := ⟨rfl, rfl, rfl, by decide +kernel, rfl, by decide +kernel, by decide +kernel⟩
noncomputable def b_page_in : FS := (fSeq (fIfS (fCmp wEq (fVar 0) (fC k_BLANK_TEXT)) (fRet (fC k_BLANK)) fNext) (fRet (fCall wTuple (fCons (fLc [1] (fSeqI (fM1 wSplit (fVar 0) (fC (.str ",")))) (bN 1) fYes (fFn 1 f_cell_in (fCons (fVar 1) fNil))) fNil))))
noncomputable def f_page_in : FF := clean (fRun 2 b_page_in)
theorem ok_page_in (T : Tx P w K mg base) : FnW P w K mg base 2 (He.ga K "page_in") T.fd_page_in ["word"] f_page_in := FnW.clean (fn_WD T.F_page_in sc_page_in fun cdv A outer s H E hr tk hp => (s_cons (s_if (t_cmp (op_eqW hr.units) rb_eq (e_var 0) (e_gs T.k_BLANK_TEXT) (nomark _)) (s_one (s_ret (e_gt T.k_BLANK))) s_nil) (s_one (s_ret (e_ct call_tuple_of rf_tuple rfl T.n_tuple (by decide +kernel) (a_cons (e_lc sc_page_in.nd (i_seq (e_split (e_var 0) e_str fun a b => pe_split a b)) (blkOk_by (show blkC ["word", "part"] (defScope s_page_in) _ _ = true by decide +kernel)) (fun _ _ _ _ _ => pg_name (i := 1) sc_page_in.nd rfl (Or.inl rfl)) (fun _ _ _ _ _ => ts_nil) (fun _ _ _ _ _ => by exact (e_fnB (ok_cell_in T) (hr.mono (by decide)) T.g_cell_in T.F_cell_in.kp T.b_cell_in (a_cons (e_var 1) a_nil)))) a_nil))))))
theorem sc_law_entry : FnScope ["pot", "many", "marks", "number"] ["pot", "many"] (defScope s_law_entry) := ⟨rfl, rfl, rfl, by decide +kernel, rfl, by decide +kernel, by decide +kernel⟩
noncomputable def b_law_entry : FS := (fSeq (fSet 2 (fBin wIxA (fLst (fCons (fC (.int 3)) (fCons (fC (.int 3)) (fCons (fC (.int 3)) (fCons (fC (.int 3)) (fCons (fC (.int 1)) (fCons (fC (.int 7)) (fCons (fC (.int 15)) (fCons (fC (.int 11)) (fCons (fC (.int 0)) (fCons (fFn 2 f_law_take (fCons (fVar 0) (fCons (fC (.int 16)) fNil))) fNil))))))))))) (fFn 2 f_law_take (fCons (fVar 0) (fCons (fC (.int 10)) fNil))))) (fSeq (fSet 3 (fFn 2 f_law_take (fCons (fVar 0) (fCons (fVar 1) fNil)))) (fSeq (fIfS (fCmp wEq (fFn 2 f_law_take (fCons (fVar 0) (fCons (fC (.int 12)) fNil))) (fC (.int 0))) (fSet 3 (fBin wIxA (fLst (fCons (fVar 1) (fCons (fC (.int 4095)) (fCons (fFn 2 f_law_take (fCons (fVar 0) (fCons (fC (.int 4096)) fNil))) (fCons (fC (.int 63)) fNil))))) (fFn 2 f_law_take (fCons (fVar 0) (fCons (fC (.int 4)) fNil))))) fNext) (fRet (fBin wAdd (fBin wMul (fVar 3) (fC (.int 16))) (fVar 2))))))
noncomputable def f_law_entry : FF := clean (fRun 4 b_law_entry)
theorem ok_law_entry (T : Tx P w K mg base) : FnW P w K mg base 2 (He.ga K "_law_entry") T.fd_law_entry ["pot", "many"] f_law_entry := FnW.clean (fn_WD T.F_law_entry sc_law_entry fun cdv A outer s H E hr tk hp => (s_cons (s_set sc_law_entry.nd (e_ix (e_lst (a_cons e_int (a_cons e_int (a_cons e_int (a_cons e_int (a_cons e_int (a_cons e_int (a_cons e_int (a_cons e_int (a_cons e_int (a_cons (e_fnN (ok_law_take T) (hr.mono (by decide)) T.g_law_take T.F_law_take.kp T.b_law_take tk (a_cons (e_var 0) (a_cons e_int a_nil))) a_nil))))))))))) (e_fnN (ok_law_take T) (hr.mono (by decide)) T.g_law_take T.F_law_take.kp T.b_law_take tk (a_cons (e_var 0) (a_cons e_int a_nil))))) (s_cons (s_set sc_law_entry.nd (e_fnN (ok_law_take T) (hr.mono (by decide)) T.g_law_take T.F_law_take.kp T.b_law_take tk (a_cons (e_var 0) (a_cons (e_var 1) a_nil)))) (s_cons (s_if (t_cmp (op_eqW hr.units) rb_eq (e_fnN (ok_law_take T) (hr.mono (by decide)) T.g_law_take T.F_law_take.kp T.b_law_take tk (a_cons (e_var 0) (a_cons e_int a_nil))) e_int (nomark _)) (s_one (s_set sc_law_entry.nd (e_ix (e_lst (a_cons (e_var 1) (a_cons e_int (a_cons (e_fnN (ok_law_take T) (hr.mono (by decide)) T.g_law_take T.F_law_take.kp T.b_law_take tk (a_cons (e_var 0) (a_cons e_int a_nil))) (a_cons e_int a_nil))))) (e_fnN (ok_law_take T) (hr.mono (by decide)) T.g_law_take T.F_law_take.kp T.b_law_take tk (a_cons (e_var 0) (a_cons e_int a_nil)))))) s_nil) (s_one (s_ret (e_op op_addW rf_add (e_op op_mulA rf_mul (e_var 3) e_int) (e_var 2))))))))
theorem sc_law_root : FnScope ["pot", "many", "far", "some"] ["pot", "many"] (defScope s_law_root) := ⟨rfl, rfl, rfl, by decide +kernel, rfl, by decide +kernel, by decide +kernel⟩
noncomputable def b_law_root : FS := (fSeq (fSet 2 (fBin wIxA (fLst (fCons (fVar 1) (fCons (fC (.int 4095)) (fCons (fFn 2 f_law_take (fCons (fVar 0) (fCons (fC (.int 4096)) fNil))) fNil)))) (fFn 2 f_law_take (fCons (fVar 0) (fCons (fC (.int 3)) fNil))))) (fSeq (fSet 3 (fLst (fCons (fFn 2 f_law_take (fCons (fVar 0) (fCons (fVar 1) fNil))) (fCons (fFn 2 f_law_take (fCons (fVar 0) (fCons (fVar 1) fNil))) (fCons (fC (.int 0)) (fCons (fVar 2) fNil)))))) (fRet (fBin wIxA (fVar 3) (fCall wMin2 (fCons (fC (.int 3)) (fCons (fBin wFdiv (fFn 2 f_law_take (fCons (fVar 0) (fCons (fC (.int 10)) fNil))) (fC (.int 3))) fNil)))))))
noncomputable def f_law_root : FF := clean (fRun 4 b_law_root)
theorem ok_law_root (T : Tx P w K mg base) : FnW P w K mg base 2 (He.ga K "_law_root") T.fd_law_root ["pot", "many"] f_law_root := FnW.clean (fn_WD T.F_law_root sc_law_root fun cdv A outer s H E hr tk hp => (s_cons (s_set sc_law_root.nd (e_ix (e_lst (a_cons (e_var 1) (a_cons e_int (a_cons (e_fnN (ok_law_take T) (hr.mono (by decide)) T.g_law_take T.F_law_take.kp T.b_law_take tk (a_cons (e_var 0) (a_cons e_int a_nil))) a_nil)))) (e_fnN (ok_law_take T) (hr.mono (by decide)) T.g_law_take T.F_law_take.kp T.b_law_take tk (a_cons (e_var 0) (a_cons e_int a_nil))))) (s_cons (s_set sc_law_root.nd (e_lst (a_cons (e_fnN (ok_law_take T) (hr.mono (by decide)) T.g_law_take T.F_law_take.kp T.b_law_take tk (a_cons (e_var 0) (a_cons (e_var 1) a_nil))) (a_cons (e_fnN (ok_law_take T) (hr.mono (by decide)) T.g_law_take T.F_law_take.kp T.b_law_take tk (a_cons (e_var 0) (a_cons (e_var 1) a_nil))) (a_cons e_int (a_cons (e_var 2) a_nil)))))) (s_one (s_ret (e_ix (e_var 3) (e_cb (call_min2 rfl) rf_min rfl T.n_min (by decide +kernel) (a_cons e_int (a_cons (e_op op_fdivW rf_fdiv (e_fnN (ok_law_take T) (hr.mono (by decide)) T.g_law_take T.F_law_take.kp T.b_law_take tk (a_cons (e_var 0) (a_cons e_int a_nil))) e_int) a_nil)))))))))
theorem sc_law_address : FnScope ["pot", "near"] ["pot"] (defScope s_law_address) := ⟨rfl, rfl, rfl, by decide +kernel, rfl, by decide +kernel, by decide +kernel⟩
noncomputable def b_law_address : FS := (fSeq (fSet 1 (fBin wAdd (fBin wMul (fFn 2 f_law_take (fCons (fVar 0) (fCons (fC (.int 16)) fNil))) (fC (.int 8))) (fFn 2 f_law_take (fCons (fVar 0) (fCons (fC (.int 8)) fNil))))) (fRet (fBin wIxA (fLst (fCons (fFn 2 f_law_take (fCons (fVar 0) (fCons (fC (.int 512)) fNil))) (fCons (fVar 1) (fCons (fC (.int 511)) (fCons (fC (.int 0)) fNil))))) (fBin wAdd (fBin wFdiv (fFn 2 f_law_take (fCons (fVar 0) (fCons (fC (.int 12)) fNil))) (fC (.int 5))) (fCall wInt (fCons (fCmpE wEq (fFn 2 f_law_take (fCons (fVar 0) (fCons (fC (.int 20)) fNil))) (fC (.int 0))) fNil))))))
noncomputable def f_law_address : FF := clean (fRun 2 b_law_address)
theorem ok_law_address (T : Tx P w K mg base) : FnW P w K mg base 2 (He.ga K "_law_address") T.fd_law_address ["pot"] f_law_address := FnW.clean (fn_WD T.F_law_address sc_law_address fun cdv A outer s H E hr tk hp => (s_cons (s_set sc_law_address.nd (e_op op_addW rf_add (e_op op_mulA rf_mul (e_fnN (ok_law_take T) (hr.mono (by decide)) T.g_law_take T.F_law_take.kp T.b_law_take tk (a_cons (e_var 0) (a_cons e_int a_nil))) e_int) (e_fnN (ok_law_take T) (hr.mono (by decide)) T.g_law_take T.F_law_take.kp T.b_law_take tk (a_cons (e_var 0) (a_cons e_int a_nil))))) (s_one (s_ret (e_ix (e_lst (a_cons (e_fnN (ok_law_take T) (hr.mono (by decide)) T.g_law_take T.F_law_take.kp T.b_law_take tk (a_cons (e_var 0) (a_cons e_int a_nil))) (a_cons (e_var 1) (a_cons e_int (a_cons e_int a_nil))))) (e_op op_addW rf_add (e_op op_fdivW rf_fdiv (e_fnN (ok_law_take T) (hr.mono (by decide)) T.g_law_take T.F_law_take.kp T.b_law_take tk (a_cons (e_var 0) (a_cons e_int a_nil))) e_int) (e_ct call_int1 rf_int rfl T.n_int (by decide +kernel) (a_cons (e_cmp (op_eqW hr.units) rb_eq (e_fnN (ok_law_take T) (hr.mono (by decide)) T.g_law_take T.F_law_take.kp T.b_law_take tk (a_cons (e_var 0) (a_cons e_int a_nil))) e_int (nomark _)) a_nil))))))))
theorem sc_law_written : FnScope ["page", "cell"] ["page"] (defScope s_law_written) := ⟨rfl, rfl, rfl, by decide +kernel, rfl, by decide +kernel, by decide +kernel⟩
noncomputable def b_law_written : FS := (fSeq (fIfS (fCmp wEq (fVar 0) (fBin wMul (fTup (fCons (fC (.int 0)) fNil)) (fC (.int 8)))) (fRet (fC (.str "-"))) fNext) (fRet (fM1 wJoin (fC (.str ",")) (fLc [1] (fSeqI (fVar 0)) (bN 1) fYes (fFn 1 f_law_by_sixteen (fCons (fVar 1) fNil))))))
noncomputable def f_law_written : FF := clean (fRun 2 b_law_written)
theorem ok_law_written (T : Tx P w K mg base) : FnW P w K mg base 2 (He.ga K "_law_written") T.fd_law_written ["page"] f_law_written := FnW.clean (fn_WD T.F_law_written sc_law_written fun cdv A outer s H E hr tk hp => (s_cons (s_if (t_cmp (op_eqW hr.units) rb_eq (e_var 0) (e_op op_mulA rf_mul (e_tup (a_cons e_int a_nil)) e_int) (nomark _)) (s_one (s_ret e_str)) s_nil) (s_one (s_ret (e_join e_str (e_lc sc_law_written.nd (i_seq (e_var 0)) (blkOk_by (show blkC ["page", "cell"] (defScope s_law_written) _ _ = true by decide +kernel)) (fun _ _ _ _ _ => pg_name (i := 1) sc_law_written.nd rfl (Or.inl rfl)) (fun _ _ _ _ _ => ts_nil) (fun _ _ _ _ _ => by exact (e_fnB (ok_law_by_sixteen T) (hr.mono (by decide)) T.g_law_by_sixteen T.F_law_by_sixteen.kp T.b_law_by_sixteen (a_cons (e_var 1) a_nil)))) fun a b => pe_join a b)))))
theorem sc_law_count : FnScope ["pot"] ["pot"] (defScope s_law_count) := ⟨rfl, rfl, rfl, by decide +kernel, rfl, by decide +kernel, by decide +kernel⟩
noncomputable def b_law_count : FS := (fRet (fBin wAdd (fC (.int 1)) (fBin wIxA (fLst (fCons (fFn 2 f_law_take (fCons (fVar 0) (fCons (fC (.int 9)) fNil))) (fCons (fFn 2 f_law_take (fCons (fVar 0) (fCons (fBin wPow (fC (.int 10)) (fC (.int 6))) fNil))) (fCons (fFn 2 f_law_take (fCons (fVar 0) (fCons (fBin wPow (fC (.int 10)) (fC (.int 30))) fNil))) fNil)))) (fFn 2 f_law_take (fCons (fVar 0) (fCons (fC (.int 3)) fNil))))))
noncomputable def f_law_count : FF := clean (fRun 1 b_law_count)
theorem ok_law_count (T : Tx P w K mg base) : FnW P w K mg base 2 (He.ga K "_law_count") T.fd_law_count ["pot"] f_law_count := FnW.clean (fn_WD T.F_law_count sc_law_count fun cdv A outer s H E hr tk hp => (s_one (s_ret (e_op op_addW rf_add e_int (e_ix (e_lst (a_cons (e_fnN (ok_law_take T) (hr.mono (by decide)) T.g_law_take T.F_law_take.kp T.b_law_take tk (a_cons (e_var 0) (a_cons e_int a_nil))) (a_cons (e_fnN (ok_law_take T) (hr.mono (by decide)) T.g_law_take T.F_law_take.kp T.b_law_take tk (a_cons (e_var 0) (a_cons (e_op op_powW rf_pow e_int e_int) a_nil))) (a_cons (e_fnN (ok_law_take T) (hr.mono (by decide)) T.g_law_take T.F_law_take.kp T.b_law_take tk (a_cons (e_var 0) (a_cons (e_op op_powW rf_pow e_int e_int) a_nil))) a_nil)))) (e_fnN (ok_law_take T) (hr.mono (by decide)) T.g_law_take T.F_law_take.kp T.b_law_take tk (a_cons (e_var 0) (a_cons e_int a_nil))))))))
theorem sc_law_is_deed : FnScope ["thing"] ["thing"] (defScope s_law_is_deed) := ⟨rfl, rfl, rfl, by decide +kernel, rfl, by decide +kernel, by decide +kernel⟩
noncomputable def b_law_is_deed : FS := (fSeq (fIfS (fOrT (fNotT (fTru (fCall (wIsi isiT isiC) (fCons (fVar 0) (fCons (fC (.ty "tuple")) fNil))))) (fOrT (fCmp wNotIn (fCall wLen (fCons (fVar 0) fNil)) (fTup (fCons (fC (.int 2)) (fCons (fC (.int 3)) fNil)))) (fNotT (fTru (fCall (wIsi isiT isiC) (fCons (fBin wIxA (fVar 0) (fC (.int 0))) (fCons (fC (.ty "str")) fNil))))))) (fRet (fC (.bl false))) fNext) (fSeq (fIfS (fCmp wEq (fCall wLen (fCons (fVar 0) fNil)) (fC (.int 3))) (fRet (fAnd (fCmpE wEq (fBin wIxA (fVar 0) (fC (.int 0))) (fC (.str "store"))) (fAnd (fFn 3 f_law_is_from (fCons (fBin wIxA (fVar 0) (fC (.int 1))) (fCons (fC (.int 0)) (fCons (fC (.int 511)) fNil)))) (fFn 3 f_law_is_from (fCons (fBin wIxA (fVar 0) (fC (.int 2))) (fCons (fC (.int 0)) (fCons (fC (.int 65535)) fNil))))))) fNext) (fSeq (fIfS (fCmp wEq (fBin wIxA (fVar 0) (fC (.int 0))) (fC (.str "load"))) (fRet (fFn 3 f_law_is_from (fCons (fBin wIxA (fVar 0) (fC (.int 1))) (fCons (fC (.int 0)) (fCons (fC (.int 511)) fNil))))) fNext) (fRet (fAnd (fCmpE wIn (fBin wIxA (fVar 0) (fC (.int 0))) (fTup (fCons (fC (.str "turn")) (fCons (fC (.str "give")) fNil)))) (fFn 3 f_law_is_from (fCons (fBin wIxA (fVar 0) (fC (.int 1))) (fCons (fC (.int 0)) (fCons (fC (.int 4095)) fNil)))))))))
noncomputable def f_law_is_deed : FF := clean (fRun 1 b_law_is_deed)
theorem ok_law_is_deed (T : Tx P w K mg base) : FnW P w K mg base 2 (He.ga K "_law_is_deed") T.fd_law_is_deed ["thing"] f_law_is_deed := FnW.clean (fn_WD T.F_law_is_deed sc_law_is_deed fun cdv A outer s H E hr tk hp => (s_cons (s_if (PW.pt (t_or (t_not (t_tru (e_cb cr_isiW (rf_isi T.isi) rfl T.n_isinstance (by decide +kernel) (a_cons (e_var 0) (a_cons (e_ty rfl T.n_tuple (by decide +kernel)) a_nil))))) (t_or (t_cmp op_notInW rb_notIn (e_cb cr_lenW rf_len rfl T.n_len (by decide +kernel) (a_cons (e_var 0) a_nil)) (e_tup (a_cons e_int (a_cons e_int a_nil))) (by with_unfolding_all rfl)) (t_or1 (t_not (t_tru (e_cb cr_isiW (rf_isi T.isi) rfl T.n_isinstance (by decide +kernel) (a_cons (e_ix (e_var 0) e_int) (a_cons (e_ty rfl T.n_str (by decide +kernel)) a_nil))))))))) (s_one (s_ret e_bl)) s_nil) (s_cons (s_if (t_cmp (op_eqW hr.units) rb_eq (e_cb cr_lenW rf_len rfl T.n_len (by decide +kernel) (a_cons (e_var 0) a_nil)) e_int (nomark _)) (s_one (s_ret (e_and (e_cmp (op_eqW hr.units) rb_eq (e_ix (e_var 0) e_int) e_str (nomark _)) (e_and (e_fnN (ok_law_is_from T) (hr.mono (by decide)) T.g_law_is_from T.F_law_is_from.kp T.b_law_is_from tk (a_cons (e_ix (e_var 0) e_int) (a_cons e_int (a_cons e_int a_nil)))) (e_one (e_fnN (ok_law_is_from T) (hr.mono (by decide)) T.g_law_is_from T.F_law_is_from.kp T.b_law_is_from tk (a_cons (e_ix (e_var 0) e_int) (a_cons e_int (a_cons e_int a_nil))))))))) s_nil) (s_cons (s_if (t_cmp (op_eqW hr.units) rb_eq (e_ix (e_var 0) e_int) e_str (nomark _)) (s_one (s_ret (e_fnN (ok_law_is_from T) (hr.mono (by decide)) T.g_law_is_from T.F_law_is_from.kp T.b_law_is_from tk (a_cons (e_ix (e_var 0) e_int) (a_cons e_int (a_cons e_int a_nil)))))) s_nil) (s_one (s_ret (e_and (e_cmp op_inW rb_in (e_ix (e_var 0) e_int) (e_tup (a_cons e_str (a_cons e_str a_nil))) (by with_unfolding_all rfl)) (e_one (e_fnN (ok_law_is_from T) (hr.mono (by decide)) T.g_law_is_from T.F_law_is_from.kp T.b_law_is_from tk (a_cons (e_ix (e_var 0) e_int) (a_cons e_int (a_cons e_int a_nil))))))))))))
theorem sc_law_is_page : FnScope ["thing", "cell"] ["thing"] (defScope s_law_is_page) := ⟨rfl, rfl, rfl, by decide +kernel, rfl, by decide +kernel, by decide +kernel⟩
noncomputable def b_law_is_page : FS := (fRet (fAnd (fCall (wIsi isiT isiC) (fCons (fVar 0) (fCons (fC (.ty "tuple")) fNil))) (fAnd (fCmpE wEq (fCall wLen (fCons (fVar 0) fNil)) (fC (.int 8))) (fCall wAll (fCons (fLc [1] (fSeqI (fVar 0)) (bN 1) fYes (fFn 3 f_law_is_from (fCons (fVar 1) (fCons (fC (.int 0)) (fCons (fC (.int 65535)) fNil))))) fNil)))))
noncomputable def f_law_is_page : FF := clean (fRun 2 b_law_is_page)
theorem ok_law_is_page (T : Tx P w K mg base) : FnW P w K mg base 2 (He.ga K "_law_is_page") T.fd_law_is_page ["thing"] f_law_is_page := FnW.clean (fn_WD T.F_law_is_page sc_law_is_page fun cdv A outer s H E hr tk hp => (s_one (s_ret (e_and (e_cb cr_isiW (rf_isi T.isi) rfl T.n_isinstance (by decide +kernel) (a_cons (e_var 0) (a_cons (e_ty rfl T.n_tuple (by decide +kernel)) a_nil))) (e_and (e_cmp (op_eqW hr.units) rb_eq (e_cb cr_lenW rf_len rfl T.n_len (by decide +kernel) (a_cons (e_var 0) a_nil)) e_int (nomark _)) (e_one (e_cb (cr_all rfl) rf_all rfl T.n_all (by decide +kernel) (a_cons (e_lc sc_law_is_page.nd (i_seq (e_var 0)) (blkOk_by (show blkC ["thing", "cell"] (defScope s_law_is_page) _ _ = true by decide +kernel)) (fun _ _ _ _ _ => pg_name (i := 1) sc_law_is_page.nd rfl (Or.inl rfl)) (fun _ _ _ _ _ => ts_nil) (fun _ _ _ _ _ => by exact (e_fnB (ok_law_is_from T) (hr.mono (by decide)) T.g_law_is_from T.F_law_is_from.kp T.b_law_is_from (a_cons (e_var 1) (a_cons e_int (a_cons e_int a_nil)))))) a_nil))))))))
theorem sc_law_is_row : FnScope ["thing", "least", "most", "number"] ["thing", "least", "most"] (defScope s_law_is_row) := ⟨rfl, rfl, rfl, by decide +kernel, rfl, by decide +kernel, by decide +kernel⟩
noncomputable def b_law_is_row : FS := (fSeq (fIfS (fOrT (fNotT (fTru (fCall (wIsi isiT isiC) (fCons (fVar 0) (fCons (fC (.ty "tuple")) fNil))))) (fNotT (fChn wLe wLe (fC (.int 1)) (fCall wLen (fCons (fVar 0) fNil)) (fC (.int 16))))) (fRet (fC (.bl false))) fNext) (fRet (fCall wAll (fCons (fLc [3] (fSeqI (fVar 0)) (bN 3) fYes (fFn 3 f_law_is_from (fCons (fVar 3) (fCons (fVar 1) (fCons (fVar 2) fNil))))) fNil))))
noncomputable def f_law_is_row : FF := clean (fRun 4 b_law_is_row)
theorem ok_law_is_row (T : Tx P w K mg base) : FnW P w K mg base 2 (He.ga K "_law_is_row") T.fd_law_is_row ["thing", "least", "most"] f_law_is_row := FnW.clean (fn_WD T.F_law_is_row sc_law_is_row fun cdv A outer s H E hr tk hp => (s_cons (s_if (PW.pt (t_or (t_not (t_tru (e_cb cr_isiW (rf_isi T.isi) rfl T.n_isinstance (by decide +kernel) (a_cons (e_var 0) (a_cons (e_ty rfl T.n_tuple (by decide +kernel)) a_nil))))) (t_or1 (t_not (t_chn op_le rb_I op_le rb_I e_int (e_cb cr_lenW rf_len rfl T.n_len (by decide +kernel) (a_cons (e_var 0) a_nil)) e_int))))) (s_one (s_ret e_bl)) s_nil) (s_one (s_ret (e_cb (cr_all rfl) rf_all rfl T.n_all (by decide +kernel) (a_cons (e_lc sc_law_is_row.nd (i_seq (e_var 0)) (blkOk_by (show blkC ["thing", "least", "most", "number"] (defScope s_law_is_row) _ _ = true by decide +kernel)) (fun _ _ _ _ _ => pg_name (i := 3) sc_law_is_row.nd rfl (Or.inl rfl)) (fun _ _ _ _ _ => ts_nil) (fun _ _ _ _ _ => by exact (e_fnB (ok_law_is_from T) (hr.mono (by decide)) T.g_law_is_from T.F_law_is_from.kp T.b_law_is_from (a_cons (e_var 3) (a_cons (e_var 1) (a_cons (e_var 2) a_nil)))))) a_nil))))))
theorem sc_law_spoilt : FnScope ["pot", "thing", "at", "odd", "way", "some", "row", "k"] ["pot", "thing"] (defScope s_law_spoilt) := ⟨rfl, rfl, rfl, by decide +kernel, rfl, by decide +kernel, by decide +kernel⟩
noncomputable def b_law_spoilt : FS := (fSeq (fSet 2 (fFn 2 f_law_take (fCons (fVar 0) (fCons (fCall wLen (fCons (fVar 1) fNil)) fNil)))) (fSeq (fSet 3 (fBin wIxA (fLst (fCons (fNeg (fC (.int 1))) (fCons (fC (.int 0)) (fCons (fC (.int 16)) (fCons (fC (.int 512)) (fCons (fC (.int 4096)) (fCons (fC (.int 65536)) (fCons (fBin wAdd (fBin wPow (fC (.int 10)) (fC (.int 6))) (fC (.int 1))) (fCons (fC (.bl true)) (fCons (fC .non) (fCons (fC (.str "page")) (fCons (fC (.str "load")) (fCons (fTup fNil) (fCons (fTup (fCons (fC (.int 0)) fNil)) (fCons (fTup (fCons (fC (.int 3)) (fCons (fC (.int 3)) fNil))) fNil))))))))))))))) (fFn 2 f_law_take (fCons (fVar 0) (fCons (fC (.int 14)) fNil))))) (fSeq (fSet 4 (fFn 2 f_law_take (fCons (fVar 0) (fCons (fC (.int 6)) fNil)))) (fSeq (fIfS (fAndT (fTru (fCall (wIsi isiT isiC) (fCons (fBin wIxA (fVar 1) (fVar 2)) (fCons (fC (.ty "tuple")) fNil)))) (fCmp wLt (fVar 4) (fC (.int 3)))) (fSeq (fSet 6 (fBin wIxA (fVar 1) (fVar 2))) (fSeq (fSet 7 (fFn 2 f_law_take (fCons (fVar 0) (fCons (fCall wLen (fCons (fVar 6) fNil)) fNil)))) (fRet (fBin wAdd (fBin wAdd (fSl (fVar 1) fNo (fSo (fVar 2))) (fTup (fCons (fBin wAdd (fBin wAdd (fSl (fVar 6) fNo (fSo (fVar 7))) (fTup (fCons (fVar 3) fNil))) (fSl (fVar 6) (fSo (fBin wAdd (fVar 7) (fC (.int 1)))) fNo)) fNil))) (fSl (fVar 1) (fSo (fBin wAdd (fVar 2) (fC (.int 1)))) fNo))))) fNext) (fSeq (fSet 5 (fLst (fCons (fBin wAdd (fBin wAdd (fSl (fVar 1) fNo (fSo (fVar 2))) (fTup (fCons (fVar 3) fNil))) (fSl (fVar 1) (fSo (fBin wAdd (fVar 2) (fC (.int 1)))) fNo)) (fCons (fBin wAdd (fSl (fVar 1) fNo (fSo (fVar 2))) (fSl (fVar 1) (fSo (fBin wAdd (fVar 2) (fC (.int 1)))) fNo)) (fCons (fBin wAdd (fSl (fVar 1) fNo (fSo (fBin wAdd (fVar 2) (fC (.int 1))))) (fSl (fVar 1) (fSo (fVar 2)) fNo)) fNil))))) (fRet (fIf (fCmp wLt (fVar 4) (fC (.int 5))) (fBin wIxA (fBin wMul (fVar 5) (fC (.int 2))) (fVar 4)) (fCall wList (fCons (fVar 1) fNil)))))))))
noncomputable def f_law_spoilt : FF := clean (fRun 8 b_law_spoilt)
theorem ok_law_spoilt (T : Tx P w K mg base) : FnW P w K mg base 2 (He.ga K "_law_spoilt") T.fd_law_spoilt ["pot", "thing"] f_law_spoilt := FnW.clean (fn_WD T.F_law_spoilt sc_law_spoilt fun cdv A outer s H E hr tk hp => (s_cons (s_set sc_law_spoilt.nd (e_fnN (ok_law_take T) (hr.mono (by decide)) T.g_law_take T.F_law_take.kp T.b_law_take tk (a_cons (e_var 0) (a_cons (e_cb cr_lenW rf_len rfl T.n_len (by decide +kernel) (a_cons (e_var 1) a_nil)) a_nil)))) (s_cons (s_set sc_law_spoilt.nd (e_ix (e_lst (a_cons (e_neg e_int) (a_cons e_int (a_cons e_int (a_cons e_int (a_cons e_int (a_cons e_int (a_cons (e_op op_addW rf_add (e_op op_powW rf_pow e_int e_int) e_int) (a_cons e_bl (a_cons e_non (a_cons e_str (a_cons e_str (a_cons (e_tup a_nil) (a_cons (e_tup (a_cons e_int a_nil)) (a_cons (e_tup (a_cons e_int (a_cons e_int a_nil))) a_nil))))))))))))))) (e_fnN (ok_law_take T) (hr.mono (by decide)) T.g_law_take T.F_law_take.kp T.b_law_take tk (a_cons (e_var 0) (a_cons e_int a_nil))))) (s_cons (s_set sc_law_spoilt.nd (e_fnN (ok_law_take T) (hr.mono (by decide)) T.g_law_take T.F_law_take.kp T.b_law_take tk (a_cons (e_var 0) (a_cons e_int a_nil)))) (s_cons (s_if (PW.pt (t_and (t_tru (e_cb cr_isiW (rf_isi T.isi) rfl T.n_isinstance (by decide +kernel) (a_cons (e_ix (e_var 1) (e_var 2)) (a_cons (e_ty rfl T.n_tuple (by decide +kernel)) a_nil)))) (t_and1 (t_cmp op_lt rb_I (e_var 4) e_int (nomark _))))) (s_cons (s_set sc_law_spoilt.nd (e_ix (e_var 1) (e_var 2))) (s_cons (s_set sc_law_spoilt.nd (e_fnN (ok_law_take T) (hr.mono (by decide)) T.g_law_take T.F_law_take.kp T.b_law_take tk (a_cons (e_var 0) (a_cons (e_cb cr_lenW rf_len rfl T.n_len (by decide +kernel) (a_cons (e_var 6) a_nil)) a_nil)))) (s_one (s_ret (e_op op_addW rf_add (e_op op_addW rf_add (e_sl (e_var 1) o_none (o_some (e_var 2))) (e_tup (a_cons (e_op op_addW rf_add (e_op op_addW rf_add (e_sl (e_var 6) o_none (o_some (e_var 7))) (e_tup (a_cons (e_var 3) a_nil))) (e_sl (e_var 6) (o_some (e_op op_addW rf_add (e_var 7) e_int)) o_none)) a_nil))) (e_sl (e_var 1) (o_some (e_op op_addW rf_add (e_var 2) e_int)) o_none)))))) s_nil) (s_cons (s_set sc_law_spoilt.nd (e_lst (a_cons (e_op op_addW rf_add (e_op op_addW rf_add (e_sl (e_var 1) o_none (o_some (e_var 2))) (e_tup (a_cons (e_var 3) a_nil))) (e_sl (e_var 1) (o_some (e_op op_addW rf_add (e_var 2) e_int)) o_none)) (a_cons (e_op op_addW rf_add (e_sl (e_var 1) o_none (o_some (e_var 2))) (e_sl (e_var 1) (o_some (e_op op_addW rf_add (e_var 2) e_int)) o_none)) (a_cons (e_op op_addW rf_add (e_sl (e_var 1) o_none (o_some (e_op op_addW rf_add (e_var 2) e_int))) (e_sl (e_var 1) (o_some (e_var 2)) o_none)) a_nil))))) (s_one (s_ret (e_if (t_cmp op_lt rb_I (e_var 4) e_int (nomark _)) (e_ix (e_op op_mulA rf_mul (e_var 5) e_int) (e_var 4)) (e_ct call_list_of rf_list rfl T.n_list (by decide +kernel) (a_cons (e_var 1) a_nil)))))))))))
theorem sc_is_page : FnScope ["thing", "cell"] ["thing"] (defScope s_is_page) := ⟨rfl, rfl, rfl, by decide +kernel, rfl, by decide +kernel, by decide +kernel⟩
noncomputable def b_is_page : FS := (fRet (fAnd (fCall (wIsi isiT isiC) (fCons (fVar 0) (fCons (fC (.ty "tuple")) fNil))) (fAnd (fCmpE wEq (fCall wLen (fCons (fVar 0) fNil)) (fC k_PLACES)) (fCall wAll (fCons (fLc [1] (fSeqI (fVar 0)) (bN 1) fYes (fFn 1 f_is_cell (fCons (fVar 1) fNil))) fNil)))))
noncomputable def f_is_page : FF := clean (fRun 2 b_is_page)
theorem ok_is_page (T : Tx P w K mg base) : FnW P w K mg base 3 (He.ga K "is_page") T.fd_is_page ["thing"] f_is_page := FnW.clean (fn_WD T.F_is_page sc_is_page fun cdv A outer s H E hr tk hp => (s_one (s_ret (e_and (e_cb cr_isiW (rf_isi T.isi) rfl T.n_isinstance (by decide +kernel) (a_cons (e_var 0) (a_cons (e_ty rfl T.n_tuple (by decide +kernel)) a_nil))) (e_and (e_cmp (op_eqW hr.units) rb_eq (e_cb cr_lenW rf_len rfl T.n_len (by decide +kernel) (a_cons (e_var 0) a_nil)) (e_gi T.k_PLACES) (nomark _)) (e_one (e_cb (cr_all rfl) rf_all rfl T.n_all (by decide +kernel) (a_cons (e_lc sc_is_page.nd (i_seq (e_var 0)) (blkOk_by (show blkC ["thing", "cell"] (defScope s_is_page) _ _ = true by decide +kernel)) (fun _ _ _ _ _ => pg_name (i := 1) sc_is_page.nd rfl (Or.inl rfl)) (fun _ _ _ _ _ => ts_nil) (fun _ _ _ _ _ => by exact (e_fnB (ok_is_cell T) (hr.mono (by decide)) T.g_is_cell T.F_is_cell.kp T.b_is_cell (a_cons (e_var 1) a_nil)))) a_nil))))))))
theorem sc_is_load : FnScope ["parts"] ["parts"] (defScope s_is_load) := ⟨rfl, rfl, rfl, by decide +kernel, rfl, by decide +kernel, by decide +kernel⟩
noncomputable def b_is_load : FS := (fRet (fAnd (fCmpE wEq (fCall wLen (fCons (fVar 0) fNil)) (fC (.int 1))) (fFn 1 f_is_address (fCons (fBin wIxA (fVar 0) (fC (.int 0))) fNil))))
noncomputable def f_is_load : FF := clean (fRun 1 b_is_load)
theorem ok_is_load (T : Tx P w K mg base) : FnW P w K mg base 3 (He.ga K "is_load") T.fd_is_load ["parts"] f_is_load := FnW.clean (fn_WD T.F_is_load sc_is_load fun cdv A outer s H E hr tk hp => (s_one (s_ret (e_and (e_cmp (op_eqW hr.units) rb_eq (e_cb cr_lenW rf_len rfl T.n_len (by decide +kernel) (a_cons (e_var 0) a_nil)) e_int (nomark _)) (e_one (e_fnN (ok_is_address T) (hr.mono (by decide)) T.g_is_address T.F_is_address.kp T.b_is_address tk (a_cons (e_ix (e_var 0) e_int) a_nil)))))))
theorem sc_is_store : FnScope ["parts"] ["parts"] (defScope s_is_store) := ⟨rfl, rfl, rfl, by decide +kernel, rfl, by decide +kernel, by decide +kernel⟩
noncomputable def b_is_store : FS := (fRet (fAnd (fCmpE wEq (fCall wLen (fCons (fVar 0) fNil)) (fC (.int 2))) (fAnd (fFn 1 f_is_address (fCons (fBin wIxA (fVar 0) (fC (.int 0))) fNil)) (fFn 1 f_is_cell (fCons (fBin wIxA (fVar 0) (fC (.int 1))) fNil)))))
noncomputable def f_is_store : FF := clean (fRun 1 b_is_store)
theorem ok_is_store (T : Tx P w K mg base) : FnW P w K mg base 3 (He.ga K "is_store") T.fd_is_store ["parts"] f_is_store := FnW.clean (fn_WD T.F_is_store sc_is_store fun cdv A outer s H E hr tk hp => (s_one (s_ret (e_and (e_cmp (op_eqW hr.units) rb_eq (e_cb cr_lenW rf_len rfl T.n_len (by decide +kernel) (a_cons (e_var 0) a_nil)) e_int (nomark _)) (e_and (e_fnN (ok_is_address T) (hr.mono (by decide)) T.g_is_address T.F_is_address.kp T.b_is_address tk (a_cons (e_ix (e_var 0) e_int) a_nil)) (e_one (e_fnN (ok_is_cell T) (hr.mono (by decide)) T.g_is_cell T.F_is_cell.kp T.b_is_cell tk (a_cons (e_ix (e_var 0) e_int) a_nil))))))))
theorem sc_is_numbered : FnScope ["parts"] ["parts"] (defScope s_is_numbered) := ⟨rfl, rfl, rfl, by decide +kernel, rfl, by decide +kernel, by decide +kernel⟩
noncomputable def b_is_numbered : FS := (fRet (fAnd (fCmpE wEq (fCall wLen (fCons (fVar 0) fNil)) (fC (.int 1))) (fFn 1 f_is_number (fCons (fBin wIxA (fVar 0) (fC (.int 0))) fNil))))
noncomputable def f_is_numbered : FF := clean (fRun 1 b_is_numbered)
theorem ok_is_numbered (T : Tx P w K mg base) : FnW P w K mg base 3 (He.ga K "is_numbered") T.fd_is_numbered ["parts"] f_is_numbered := FnW.clean (fn_WD T.F_is_numbered sc_is_numbered fun cdv A outer s H E hr tk hp => (s_one (s_ret (e_and (e_cmp (op_eqW hr.units) rb_eq (e_cb cr_lenW rf_len rfl T.n_len (by decide +kernel) (a_cons (e_var 0) a_nil)) e_int (nomark _)) (e_one (e_fnN (ok_is_number T) (hr.mono (by decide)) T.g_is_number T.F_is_number.kp T.b_is_number tk (a_cons (e_ix (e_var 0) e_int) a_nil)))))))
theorem sc_is_lack_rest : FnScope ["rest", "ahead", "later", "number"] ["rest"] (defScope s_is_lack_rest) := ⟨rfl, rfl, rfl, by decide +kernel, rfl, by decide +kernel, by decide +kernel⟩
noncomputable def b_is_lack_rest : FS := (fSeq (fIfS (fOrT (fCmp wNe (fCall wLen (fCons (fVar 0) fNil)) (fC (.int 1))) (fOrT (fNotT (fTru (fFn 1 f_is_row (fCons (fBin wIxA (fVar 0) (fC (.int 0))) fNil)))) (fNotT (fTru (fCall wAll (fCons (fLc [3] (fSeqI (fBin wIxA (fVar 0) (fC (.int 0)))) (bN 3) fYes (fFn 1 f_is_page_number (fCons (fVar 3) fNil))) fNil)))))) (fRet (fC (.bl false))) fNext) (fRet (fCall wAll (fCons (fLc [1, 2] (fIt wZip (fCons (fBin wIxA (fVar 0) (fC (.int 0))) (fCons (fSl (fBin wIxA (fVar 0) (fC (.int 0))) (fSo (fC (.int 1))) fNo) fNil))) (b2 1 2) fYes (fCmpE wLt (fVar 1) (fVar 2))) fNil))))
noncomputable def f_is_lack_rest : FF := clean (fRun 4 b_is_lack_rest)
theorem ok_is_lack_rest (T : Tx P w K mg base) : FnW P w K mg base 3 (He.ga K "is_lack_rest") T.fd_is_lack_rest ["rest"] f_is_lack_rest := FnW.clean (fn_WD T.F_is_lack_rest sc_is_lack_rest fun cdv A outer s H E hr tk hp => (s_cons (s_if (PW.pt (t_or (t_cmp (op_neW hr.units) rb_ne (e_cb cr_lenW rf_len rfl T.n_len (by decide +kernel) (a_cons (e_var 0) a_nil)) e_int (nomark _)) (t_or (t_not (t_tru (e_fnN (ok_is_row T) (hr.mono (by decide)) T.g_is_row T.F_is_row.kp T.b_is_row tk (a_cons (e_ix (e_var 0) e_int) a_nil)))) (t_or1 (t_not (t_tru (e_cb (cr_all rfl) rf_all rfl T.n_all (by decide +kernel) (a_cons (e_lc sc_is_lack_rest.nd (i_seq (e_ix (e_var 0) e_int)) (blkOk_by (show blkC ["rest", "ahead", "later", "number"] (defScope s_is_lack_rest) _ _ = true by decide +kernel)) (fun _ _ _ _ _ => pg_name (i := 3) sc_is_lack_rest.nd rfl (Or.inl rfl)) (fun _ _ _ _ _ => ts_nil) (fun _ _ _ _ _ => by exact (e_fnB (ok_is_page_number T) (hr.mono (by decide)) T.g_is_page_number T.F_is_page_number.kp T.b_is_page_number (a_cons (e_var 3) a_nil)))) a_nil)))))))) (s_one (s_ret e_bl)) s_nil) (s_one (s_ret (e_cb (cr_all rfl) rf_all rfl T.n_all (by decide +kernel) (a_cons (e_lc2 sc_is_lack_rest.nd (i_zip rfl T.n_zip (a_cons (e_ix (e_var 0) e_int) (a_cons (e_sl (e_ix (e_var 0) e_int) (o_some e_int) o_none) a_nil))) (blkOk_by (show blkC ["rest", "ahead", "later", "number"] (defScope s_is_lack_rest) _ _ = true by decide +kernel)) (fun _ _ _ _ _ => pg_tup rfl (pgs_cons (pg_name (i := 1) sc_is_lack_rest.nd rfl (Or.inl rfl)) (pgs_cons (pg_name (i := 2) sc_is_lack_rest.nd rfl (Or.inl rfl)) pgs_nil))) (fun _ _ _ _ _ => ts_nil) (fun _ _ _ _ _ => by exact (e_cmp op_lt rb_I (e_var 1) (e_var 2) (nomark _)))) a_nil))))))
theorem sc_letter_in : FnScope ["word", "parts", "move", "rest", "part"] ["word", "parts"] (defScope s_letter_in) := ⟨rfl, rfl, rfl, by decide +kernel, rfl, by decide +kernel, by decide +kernel⟩
noncomputable def b_letter_in : FS := (fSeq (fAsg (fBin wAdd (fLc [4] (fSeqI (fSl (fVar 1) fNo (fSo (fC (.int 1))))) (bN 4) fYes (fFn 1 f_number_in (fCons (fVar 4) fNil))) (fSl (fVar 1) (fSo (fC (.int 1))) fNo)) (gStarN 1 (gsCons (gN 2) (gsCons (gN 3) gsNil)))) (fSeq (fIfS (fAndT (fCmp wEq (fVar 0) (fC (.str "page"))) (fCmp wEq (fCall wLen (fCons (fVar 3) fNil)) (fC (.int 3)))) (fRet (fTup (fCons (fVar 0) (fCons (fVar 2) (fCons (fFn 1 f_number_in (fCons (fBin wIxA (fVar 3) (fC (.int 0))) fNil)) (fCons (fFn 1 f_number_in (fCons (fBin wIxA (fVar 3) (fC (.int 1))) fNil)) (fCons (fFn 1 f_page_in (fCons (fBin wIxA (fVar 3) (fC (.int 2))) fNil)) fNil))))))) fNext) (fSeq (fIfS (fAndT (fCmp wEq (fVar 0) (fC (.str "last"))) (fCmp wEq (fCall wLen (fCons (fVar 3) fNil)) (fC (.int 2)))) (fRet (fTup (fCons (fVar 0) (fCons (fVar 2) (fCons (fFn 1 f_number_in (fCons (fBin wIxA (fVar 3) (fC (.int 0))) fNil)) (fCons (fFn 1 f_numbers_in (fCons (fBin wIxA (fVar 3) (fC (.int 1))) fNil)) fNil)))))) fNext) (fSeq (fIfS (fAndT (fCmp wEq (fVar 0) (fC (.str "lack"))) (fCmp wEq (fCall wLen (fCons (fVar 3) fNil)) (fC (.int 1)))) (fRet (fTup (fCons (fVar 0) (fCons (fVar 2) (fCons (fFn 1 f_numbers_in (fCons (fBin wIxA (fVar 3) (fC (.int 0))) fNil)) fNil))))) fNext) (fRet (fIf (fCmp wEq (fVar 3) (fLst fNil)) (fTup (fCons (fVar 0) (fCons (fVar 2) fNil))) (fC .non)))))))
noncomputable def f_letter_in : FF := clean (fRun 5 b_letter_in)
theorem ok_letter_in (T : Tx P w K mg base) : FnW P w K mg base 3 (He.ga K "letter_in") T.fd_letter_in ["word", "parts"] f_letter_in := FnW.clean (fn_WD T.F_letter_in sc_letter_in fun cdv A outer s H E hr tk hp => (s_cons (s_asg (e_op op_addW rf_add (e_lc sc_letter_in.nd (i_seq (e_sl (e_var 1) o_none (o_some e_int))) (blkOk_by (show blkC ["word", "parts", "move", "rest", "part"] (defScope s_letter_in) _ _ = true by decide +kernel)) (fun _ _ _ _ _ => pg_name (i := 4) sc_letter_in.nd rfl (Or.inl rfl)) (fun _ _ _ _ _ => ts_nil) (fun _ _ _ _ _ => by exact (e_fnB (ok_number_in T) (hr.mono (by decide)) T.g_number_in T.F_number_in.kp T.b_number_in (a_cons (e_var 4) a_nil)))) (e_sl (e_var 1) (o_some e_int) o_none)) (g_starN (gs_cons (g_name sc_letter_in.nd) (gs_cons (g_name sc_letter_in.nd) gs_nil)))) (s_cons (s_if (PW.pt (t_and (t_cmp (op_eqW hr.units) rb_eq (e_var 0) e_str (nomark _)) (t_and1 (t_cmp (op_eqW hr.units) rb_eq (e_cb cr_lenW rf_len rfl T.n_len (by decide +kernel) (a_cons (e_var 3) a_nil)) e_int (nomark _))))) (s_one (s_ret (e_tup (a_cons (e_var 0) (a_cons (e_var 2) (a_cons (e_fnN (ok_number_in T) (hr.mono (by decide)) T.g_number_in T.F_number_in.kp T.b_number_in tk (a_cons (e_ix (e_var 3) e_int) a_nil)) (a_cons (e_fnN (ok_number_in T) (hr.mono (by decide)) T.g_number_in T.F_number_in.kp T.b_number_in tk (a_cons (e_ix (e_var 3) e_int) a_nil)) (a_cons (e_fnN (ok_page_in T) (hr.mono (by decide)) T.g_page_in T.F_page_in.kp T.b_page_in tk (a_cons (e_ix (e_var 3) e_int) a_nil)) a_nil)))))))) s_nil) (s_cons (s_if (PW.pt (t_and (t_cmp (op_eqW hr.units) rb_eq (e_var 0) e_str (nomark _)) (t_and1 (t_cmp (op_eqW hr.units) rb_eq (e_cb cr_lenW rf_len rfl T.n_len (by decide +kernel) (a_cons (e_var 3) a_nil)) e_int (nomark _))))) (s_one (s_ret (e_tup (a_cons (e_var 0) (a_cons (e_var 2) (a_cons (e_fnN (ok_number_in T) (hr.mono (by decide)) T.g_number_in T.F_number_in.kp T.b_number_in tk (a_cons (e_ix (e_var 3) e_int) a_nil)) (a_cons (e_fnN (ok_numbers_in T) (hr.mono (by decide)) T.g_numbers_in T.F_numbers_in.kp T.b_numbers_in tk (a_cons (e_ix (e_var 3) e_int) a_nil)) a_nil))))))) s_nil) (s_cons (s_if (PW.pt (t_and (t_cmp (op_eqW hr.units) rb_eq (e_var 0) e_str (nomark _)) (t_and1 (t_cmp (op_eqW hr.units) rb_eq (e_cb cr_lenW rf_len rfl T.n_len (by decide +kernel) (a_cons (e_var 3) a_nil)) e_int (nomark _))))) (s_one (s_ret (e_tup (a_cons (e_var 0) (a_cons (e_var 2) (a_cons (e_fnN (ok_numbers_in T) (hr.mono (by decide)) T.g_numbers_in T.F_numbers_in.kp T.b_numbers_in tk (a_cons (e_ix (e_var 3) e_int) a_nil)) a_nil)))))) s_nil) (s_one (s_ret (e_if (t_cmp (op_eqW hr.units) rb_eq (e_var 3) (e_lst a_nil) (nomark _)) (e_tup (a_cons (e_var 0) (a_cons (e_var 2) a_nil))) e_non))))))))
theorem sc_law_page : FnScope ["pot", "many", "way", "place"] ["pot", "many"] (defScope s_law_page) := ⟨rfl, rfl, rfl, by decide +kernel, rfl, by decide +kernel, by decide +kernel⟩
noncomputable def b_law_page : FS := (fSeq (fSet 2 (fFn 2 f_law_take (fCons (fVar 0) (fCons (fC (.int 6)) fNil)))) (fSeq (fIfS (fCmp wEq (fVar 2) (fC (.int 0))) (fRet (fBin wMul (fTup (fCons (fC (.int 0)) fNil)) (fC (.int 8)))) fNext) (fSeq (fIfS (fCmp wLt (fVar 2) (fC (.int 4))) (fRet (fCall wTuple (fCons (fLc [3] (fIt wRng1 (fCons (fC (.int 8)) fNil)) (bN 3) fYes (fFn 2 f_law_entry (fCons (fVar 0) (fCons (fVar 1) fNil)))) fNil))) fNext) (fSeq (fIfS (fCmp wEq (fVar 2) (fC (.int 4))) (fRet (fCall wTuple (fCons (fLc [3] (fIt wRng1 (fCons (fC (.int 8)) fNil)) (bN 3) fYes (fFn 2 f_law_take (fCons (fVar 0) (fCons (fC (.int 65536)) fNil)))) fNil))) fNext) (fRet (fCall wTuple (fCons (fLc [3] (fIt wRng1 (fCons (fC (.int 8)) fNil)) (bN 3) fYes (fBin wIxA (fLst (fCons (fC (.int 0)) (fCons (fC (.int 1)) (fCons (fC (.int 65535)) (fCons (fFn 2 f_law_take (fCons (fVar 0) (fCons (fC (.int 40)) fNil))) fNil))))) (fFn 2 f_law_take (fCons (fVar 0) (fCons (fC (.int 4)) fNil))))) fNil)))))))
noncomputable def f_law_page : FF := clean (fRun 4 b_law_page)
theorem ok_law_page (T : Tx P w K mg base) : FnW P w K mg base 3 (He.ga K "_law_page") T.fd_law_page ["pot", "many"] f_law_page := FnW.clean (fn_WD T.F_law_page sc_law_page fun cdv A outer s H E hr tk hp => (s_cons (s_set sc_law_page.nd (e_fnN (ok_law_take T) (hr.mono (by decide)) T.g_law_take T.F_law_take.kp T.b_law_take tk (a_cons (e_var 0) (a_cons e_int a_nil)))) (s_cons (s_if (t_cmp (op_eqW hr.units) rb_eq (e_var 2) e_int (nomark _)) (s_one (s_ret (e_op op_mulA rf_mul (e_tup (a_cons e_int a_nil)) e_int))) s_nil) (s_cons (s_if (t_cmp op_lt rb_I (e_var 2) e_int (nomark _)) (s_one (s_ret (e_ct call_tuple_of rf_tuple rfl T.n_tuple (by decide +kernel) (a_cons (e_lc sc_law_page.nd (i_rng1 rfl T.n_range (a_cons e_int a_nil)) (blkOk_by (show blkC ["pot", "many", "way", "place"] (defScope s_law_page) _ _ = true by decide +kernel)) (fun _ _ _ _ _ => pg_name (i := 3) sc_law_page.nd rfl (Or.inl rfl)) (fun _ _ _ _ _ => ts_nil) (fun _ _ _ _ _ => by exact (e_fnB (ok_law_entry T) (hr.mono (by decide)) T.g_law_entry T.F_law_entry.kp T.b_law_entry (a_cons (e_var 0) (a_cons (e_var 1) a_nil))))) a_nil)))) s_nil) (s_cons (s_if (t_cmp (op_eqW hr.units) rb_eq (e_var 2) e_int (nomark _)) (s_one (s_ret (e_ct call_tuple_of rf_tuple rfl T.n_tuple (by decide +kernel) (a_cons (e_lc sc_law_page.nd (i_rng1 rfl T.n_range (a_cons e_int a_nil)) (blkOk_by (show blkC ["pot", "many", "way", "place"] (defScope s_law_page) _ _ = true by decide +kernel)) (fun _ _ _ _ _ => pg_name (i := 3) sc_law_page.nd rfl (Or.inl rfl)) (fun _ _ _ _ _ => ts_nil) (fun _ _ _ _ _ => by exact (e_fnB (ok_law_take T) (hr.mono (by decide)) T.g_law_take T.F_law_take.kp T.b_law_take (a_cons (e_var 0) (a_cons e_int a_nil))))) a_nil)))) s_nil) (s_one (s_ret (e_ct call_tuple_of rf_tuple rfl T.n_tuple (by decide +kernel) (a_cons (e_lc sc_law_page.nd (i_rng1 rfl T.n_range (a_cons e_int a_nil)) (blkOk_by (show blkC ["pot", "many", "way", "place"] (defScope s_law_page) _ _ = true by decide +kernel)) (fun _ _ _ _ _ => pg_name (i := 3) sc_law_page.nd rfl (Or.inl rfl)) (fun _ _ _ _ _ => ts_nil) (fun _ _ _ _ _ => by exact (e_ix (e_lst (a_cons e_int (a_cons e_int (a_cons e_int (a_cons (e_fnB (ok_law_take T) (hr.mono (by decide)) T.g_law_take T.F_law_take.kp T.b_law_take (a_cons (e_var 0) (a_cons e_int a_nil))) a_nil))))) (e_fnB (ok_law_take T) (hr.mono (by decide)) T.g_law_take T.F_law_take.kp T.b_law_take (a_cons (e_var 0) (a_cons e_int a_nil)))))) a_nil)))))))))
theorem sc_law_deed : FnScope ["pot", "many", "way", "some"] ["pot", "many"] (defScope s_law_deed) := ⟨rfl, rfl, rfl, by decide +kernel, rfl, by decide +kernel, by decide +kernel⟩
noncomputable def b_law_deed : FS := (fSeq (fSet 2 (fFn 2 f_law_take (fCons (fVar 0) (fCons (fC (.int 16)) fNil)))) (fSeq (fIfS (fCmp wLt (fVar 2) (fC (.int 7))) (fRet (fTup (fCons (fC (.str "load")) (fCons (fFn 1 f_law_address (fCons (fVar 0) fNil)) fNil)))) fNext) (fSeq (fIfS (fCmp wLt (fVar 2) (fC (.int 14))) (fSeq (fSet 3 (fLst (fCons (fFn 2 f_law_entry (fCons (fVar 0) (fCons (fVar 1) fNil))) (fCons (fFn 2 f_law_entry (fCons (fVar 0) (fCons (fVar 1) fNil))) fNil)))) (fSeq (fSet 3 (fBin wAdd (fVar 3) (fLst (fCons (fFn 2 f_law_take (fCons (fVar 0) (fCons (fC (.int 9)) fNil))) (fCons (fFn 2 f_law_take (fCons (fVar 0) (fCons (fC (.int 65536)) fNil))) fNil))))) (fRet (fTup (fCons (fC (.str "store")) (fCons (fFn 1 f_law_address (fCons (fVar 0) fNil)) (fCons (fBin wIxA (fVar 3) (fFn 2 f_law_take (fCons (fVar 0) (fCons (fC (.int 4)) fNil)))) fNil))))))) fNext) (fSeq (fIfS (fCmp wEq (fVar 2) (fC (.int 14))) (fRet (fTup (fCons (fC (.str "turn")) (fCons (fFn 2 f_law_root (fCons (fVar 0) (fCons (fVar 1) fNil))) fNil)))) fNext) (fSeq (fSet 3 (fLst (fCons (fFn 2 f_law_take (fCons (fVar 0) (fCons (fVar 1) fNil))) (fCons (fFn 2 f_law_take (fCons (fVar 0) (fCons (fBin wAdd (fVar 1) (fC (.int 3))) fNil))) (fCons (fC (.int 4095)) fNil))))) (fRet (fTup (fCons (fC (.str "give")) (fCons (fBin wIxA (fVar 3) (fBin wFdiv (fFn 2 f_law_take (fCons (fVar 0) (fCons (fC (.int 7)) fNil))) (fC (.int 3)))) fNil)))))))))
noncomputable def f_law_deed : FF := clean (fRun 4 b_law_deed)
theorem ok_law_deed (T : Tx P w K mg base) : FnW P w K mg base 3 (He.ga K "_law_deed") T.fd_law_deed ["pot", "many"] f_law_deed := FnW.clean (fn_WD T.F_law_deed sc_law_deed fun cdv A outer s H E hr tk hp => (s_cons (s_set sc_law_deed.nd (e_fnN (ok_law_take T) (hr.mono (by decide)) T.g_law_take T.F_law_take.kp T.b_law_take tk (a_cons (e_var 0) (a_cons e_int a_nil)))) (s_cons (s_if (t_cmp op_lt rb_I (e_var 2) e_int (nomark _)) (s_one (s_ret (e_tup (a_cons e_str (a_cons (e_fnN (ok_law_address T) (hr.mono (by decide)) T.g_law_address T.F_law_address.kp T.b_law_address tk (a_cons (e_var 0) a_nil)) a_nil))))) s_nil) (s_cons (s_if (t_cmp op_lt rb_I (e_var 2) e_int (nomark _)) (s_cons (s_set sc_law_deed.nd (e_lst (a_cons (e_fnN (ok_law_entry T) (hr.mono (by decide)) T.g_law_entry T.F_law_entry.kp T.b_law_entry tk (a_cons (e_var 0) (a_cons (e_var 1) a_nil))) (a_cons (e_fnN (ok_law_entry T) (hr.mono (by decide)) T.g_law_entry T.F_law_entry.kp T.b_law_entry tk (a_cons (e_var 0) (a_cons (e_var 1) a_nil))) a_nil)))) (s_cons (s_set sc_law_deed.nd (e_op op_addW rf_add (e_var 3) (e_lst (a_cons (e_fnN (ok_law_take T) (hr.mono (by decide)) T.g_law_take T.F_law_take.kp T.b_law_take tk (a_cons (e_var 0) (a_cons e_int a_nil))) (a_cons (e_fnN (ok_law_take T) (hr.mono (by decide)) T.g_law_take T.F_law_take.kp T.b_law_take tk (a_cons (e_var 0) (a_cons e_int a_nil))) a_nil))))) (s_one (s_ret (e_tup (a_cons e_str (a_cons (e_fnN (ok_law_address T) (hr.mono (by decide)) T.g_law_address T.F_law_address.kp T.b_law_address tk (a_cons (e_var 0) a_nil)) (a_cons (e_ix (e_var 3) (e_fnN (ok_law_take T) (hr.mono (by decide)) T.g_law_take T.F_law_take.kp T.b_law_take tk (a_cons (e_var 0) (a_cons e_int a_nil)))) a_nil)))))))) s_nil) (s_cons (s_if (t_cmp (op_eqW hr.units) rb_eq (e_var 2) e_int (nomark _)) (s_one (s_ret (e_tup (a_cons e_str (a_cons (e_fnN (ok_law_root T) (hr.mono (by decide)) T.g_law_root T.F_law_root.kp T.b_law_root tk (a_cons (e_var 0) (a_cons (e_var 1) a_nil))) a_nil))))) s_nil) (s_cons (s_set sc_law_deed.nd (e_lst (a_cons (e_fnN (ok_law_take T) (hr.mono (by decide)) T.g_law_take T.F_law_take.kp T.b_law_take tk (a_cons (e_var 0) (a_cons (e_var 1) a_nil))) (a_cons (e_fnN (ok_law_take T) (hr.mono (by decide)) T.g_law_take T.F_law_take.kp T.b_law_take tk (a_cons (e_var 0) (a_cons (e_op op_addW rf_add (e_var 1) e_int) a_nil))) (a_cons e_int a_nil))))) (s_one (s_ret (e_tup (a_cons e_str (a_cons (e_ix (e_var 3) (e_op op_fdivW rf_fdiv (e_fnN (ok_law_take T) (hr.mono (by decide)) T.g_law_take T.F_law_take.kp T.b_law_take tk (a_cons (e_var 0) (a_cons e_int a_nil))) e_int)) a_nil)))))))))))
theorem sc_law_told : FnScope ["thing", "words", "at", "part", "number"] ["thing"] (defScope s_law_told) := ⟨rfl, rfl, rfl, by decide +kernel, rfl, by decide +kernel, by decide +kernel⟩
noncomputable def b_law_told : FS := (fSeq (fSet 1 (fLst fNil)) (fSeq (fFor (fI1 wEnum (fVar 0)) (gSeqN 2 (gsCons (gN 2) (gsCons (gN 3) gsNil))) (fIfS (fTru (fCall (wIsi isiT isiC) (fCons (fVar 3) (fCons (fC (.ty "str")) fNil)))) (fDrop (fMt isLst wApp (fVar 1) (fCons (fVar 3) fNil))) (fIfS (fTru (fCall (wIsi isiT isiC) (fCons (fVar 3) (fCons (fC (.ty "tuple")) fNil)))) (fDrop (fMt isLst wApp (fVar 1) (fCons (fIf (fCmp wEq (fBin wIxA (fVar 0) (fC (.int 0))) (fC (.str "page"))) (fFn 1 f_law_written (fCons (fVar 3) fNil)) (fM1 wJoin (fC (.str ",")) (fLc [4] (fSeqI (fVar 3)) (bN 4) fYes (fCall wStr (fCons (fVar 4) fNil))))) fNil))) (fDrop (fMt isLst wApp (fVar 1) (fCons (fIf (fAndT (fCmp wEq (fBin wIxA (fVar 0) (fC (.int 0))) (fC (.str "store"))) (fCmp wEq (fVar 2) (fC (.int 2)))) (fFn 1 f_law_by_sixteen (fCons (fVar 3) fNil)) (fCall wStr (fCons (fVar 3) fNil))) fNil)))))) (fRet (fM1 wJoin (fC (.str " ")) (fVar 1)))))
noncomputable def f_law_told : FF := clean (fRun 5 b_law_told)
theorem ok_law_told (T : Tx P w K mg base) : FnW P w K mg base 3 (He.ga K "_law_told") T.fd_law_told ["thing"] f_law_told := FnW.clean (fn_WD T.F_law_told sc_law_told fun cdv A outer s H E hr tk hp => (s_cons (s_set sc_law_told.nd (e_lst a_nil)) (s_cons (s_for hp (i_enum rfl T.n_enumerate (e_var 0)) (g_seqN (gs_cons (g_name sc_law_told.nd) (gs_cons (g_name sc_law_told.nd) gs_nil))) (s_one (s_if (t_tru (e_cb cr_isiW (rf_isi T.isi) rfl T.n_isinstance (by decide +kernel) (a_cons (e_var 3) (a_cons (e_ty rfl T.n_str (by decide +kernel)) a_nil)))) (s_one (s_expr (e_append (e_var 1) (a_cons (e_var 3) a_nil)))) (s_one (s_if (t_tru (e_cb cr_isiW (rf_isi T.isi) rfl T.n_isinstance (by decide +kernel) (a_cons (e_var 3) (a_cons (e_ty rfl T.n_tuple (by decide +kernel)) a_nil)))) (s_one (s_expr (e_append (e_var 1) (a_cons (e_if (t_cmp (op_eqW hr.units) rb_eq (e_ix (e_var 0) e_int) e_str (nomark _)) (e_fnN (ok_law_written T) (hr.mono (by decide)) T.g_law_written T.F_law_written.kp T.b_law_written tk (a_cons (e_var 3) a_nil)) (e_join e_str (e_lc sc_law_told.nd (i_seq (e_var 3)) (blkOk_by (show blkC ["thing", "words", "at", "part", "number"] (defScope s_law_told) _ _ = true by decide +kernel)) (fun _ _ _ _ _ => pg_name (i := 4) sc_law_told.nd rfl (Or.inl rfl)) (fun _ _ _ _ _ => ts_nil) (fun _ _ _ _ _ => by exact (e_ct call_str_int rf_str rfl T.n_str (by decide +kernel) (a_cons (e_var 4) a_nil)))) fun a b => pe_join a b)) a_nil)))) (s_one (s_expr (e_append (e_var 1) (a_cons (e_if (PW.pt (t_and (t_cmp (op_eqW hr.units) rb_eq (e_ix (e_var 0) e_int) e_str (nomark _)) (t_and1 (t_cmp (op_eqW hr.units) rb_eq (e_var 2) e_int (nomark _))))) (e_fnN (ok_law_by_sixteen T) (hr.mono (by decide)) T.g_law_by_sixteen T.F_law_by_sixteen.kp T.b_law_by_sixteen tk (a_cons (e_var 3) a_nil)) (e_ct call_str_int rf_str rfl T.n_str (by decide +kernel) (a_cons (e_var 3) a_nil))) a_nil))))))))) (s_one (s_ret (e_join e_str (e_var 1) fun a b => pe_join a b))))))
theorem sc_law_is_letter : FnScope ["thing", "word", "rest"] ["thing"] (defScope s_law_is_letter) := ⟨rfl, rfl, rfl, by decide +kernel, rfl, by decide +kernel, by decide +kernel⟩
noncomputable def b_law_is_letter : FS := (fSeq (fIfS (fOrT (fNotT (fTru (fCall (wIsi isiT isiC) (fCons (fVar 0) (fCons (fC (.ty "tuple")) fNil))))) (fOrT (fCmp wLt (fCall wLen (fCons (fVar 0) fNil)) (fC (.int 2))) (fNotT (fTru (fCall (wIsi isiT isiC) (fCons (fBin wIxA (fVar 0) (fC (.int 0))) (fCons (fC (.ty "str")) fNil))))))) (fRet (fC (.bl false))) fNext) (fSeq (fIfS (fNotT (fTru (fFn 3 f_law_is_from (fCons (fBin wIxA (fVar 0) (fC (.int 1))) (fCons (fC (.int 0)) (fCons (fBin wPow (fC (.int 10)) (fC (.int 6))) fNil)))))) (fRet (fC (.bl false))) fNext) (fSeq (fPar2 1 2 (fCons (fBin wIxA (fVar 0) (fC (.int 0))) (fCons (fSl (fVar 0) (fSo (fC (.int 2))) fNo) fNil))) (fSeq (fIfS (fCmp wEq (fVar 1) (fC (.str "page"))) (fSeq (fIfS (fOrT (fCmp wNe (fCall wLen (fCons (fVar 2) fNil)) (fC (.int 3))) (fOrT (fNotT (fTru (fFn 3 f_law_is_from (fCons (fBin wIxA (fVar 2) (fC (.int 0))) (fCons (fC (.int 1)) (fCons (fBin wPow (fC (.int 10)) (fC (.int 60))) fNil)))))) (fNotT (fTru (fFn 3 f_law_is_from (fCons (fBin wIxA (fVar 2) (fC (.int 1))) (fCons (fC (.int 0)) (fCons (fC (.int 15)) fNil)))))))) (fRet (fC (.bl false))) fNext) (fRet (fFn 1 f_law_is_page (fCons (fBin wIxA (fVar 2) (fC (.int 2))) fNil)))) fNext) (fSeq (fIfS (fCmp wEq (fVar 1) (fC (.str "last"))) (fRet (fAnd (fCmpE wEq (fCall wLen (fCons (fVar 2) fNil)) (fC (.int 2))) (fAnd (fFn 3 f_law_is_from (fCons (fBin wIxA (fVar 2) (fC (.int 0))) (fCons (fC (.int 0)) (fCons (fC (.int 4095)) fNil)))) (fFn 3 f_law_is_row (fCons (fBin wIxA (fVar 2) (fC (.int 1))) (fCons (fC (.int 1)) (fCons (fBin wPow (fC (.int 10)) (fC (.int 60))) fNil))))))) fNext) (fSeq (fIfS (fCmp wEq (fVar 1) (fC (.str "lack"))) (fRet (fAnd (fCmpE wEq (fCall wLen (fCons (fVar 2) fNil)) (fC (.int 1))) (fAnd (fFn 3 f_law_is_row (fCons (fBin wIxA (fVar 2) (fC (.int 0))) (fCons (fC (.int 0)) (fCons (fC (.int 15)) fNil)))) (fCmpE wEq (fCall wList (fCons (fBin wIxA (fVar 2) (fC (.int 0))) fNil)) (fSortSet (fBin wIxA (fVar 2) (fC (.int 0)))))))) fNext) (fRet (fAnd (fCmpE wIn (fVar 1) (fTup (fCons (fC (.str "go")) (fCons (fC (.str "off")) (fCons (fC (.str "have")) (fCons (fC (.str "runs")) fNil)))))) (fCmpE wEq (fVar 2) (fTup fNil))))))))))
noncomputable def f_law_is_letter : FF := clean (fRun 3 b_law_is_letter)
theorem ok_law_is_letter (T : Tx P w K mg base) : FnW P w K mg base 3 (He.ga K "_law_is_letter") T.fd_law_is_letter ["thing"] f_law_is_letter := FnW.clean (fn_WD T.F_law_is_letter sc_law_is_letter fun cdv A outer s H E hr tk hp => (s_cons (s_if (PW.pt (t_or (t_not (t_tru (e_cb cr_isiW (rf_isi T.isi) rfl T.n_isinstance (by decide +kernel) (a_cons (e_var 0) (a_cons (e_ty rfl T.n_tuple (by decide +kernel)) a_nil))))) (t_or (t_cmp op_lt rb_I (e_cb cr_lenW rf_len rfl T.n_len (by decide +kernel) (a_cons (e_var 0) a_nil)) e_int (nomark _)) (t_or1 (t_not (t_tru (e_cb cr_isiW (rf_isi T.isi) rfl T.n_isinstance (by decide +kernel) (a_cons (e_ix (e_var 0) e_int) (a_cons (e_ty rfl T.n_str (by decide +kernel)) a_nil))))))))) (s_one (s_ret e_bl)) s_nil) (s_cons (s_if (t_not (t_tru (e_fnN (ok_law_is_from T) (hr.mono (by decide)) T.g_law_is_from T.F_law_is_from.kp T.b_law_is_from tk (a_cons (e_ix (e_var 0) e_int) (a_cons e_int (a_cons (e_op op_powW rf_pow e_int e_int) a_nil)))))) (s_one (s_ret e_bl)) s_nil) (s_cons (s_par2 sc_law_is_letter.nd (a_cons (e_ix (e_var 0) e_int) (a_cons (e_sl (e_var 0) (o_some e_int) o_none) a_nil))) (s_cons (s_if (t_cmp (op_eqW hr.units) rb_eq (e_var 1) e_str (nomark _)) (s_cons (s_if (PW.pt (t_or (t_cmp (op_neW hr.units) rb_ne (e_cb cr_lenW rf_len rfl T.n_len (by decide +kernel) (a_cons (e_var 2) a_nil)) e_int (nomark _)) (t_or (t_not (t_tru (e_fnN (ok_law_is_from T) (hr.mono (by decide)) T.g_law_is_from T.F_law_is_from.kp T.b_law_is_from tk (a_cons (e_ix (e_var 2) e_int) (a_cons e_int (a_cons (e_op op_powW rf_pow e_int e_int) a_nil)))))) (t_or1 (t_not (t_tru (e_fnN (ok_law_is_from T) (hr.mono (by decide)) T.g_law_is_from T.F_law_is_from.kp T.b_law_is_from tk (a_cons (e_ix (e_var 2) e_int) (a_cons e_int (a_cons e_int a_nil)))))))))) (s_one (s_ret e_bl)) s_nil) (s_one (s_ret (e_fnN (ok_law_is_page T) (hr.mono (by decide)) T.g_law_is_page T.F_law_is_page.kp T.b_law_is_page tk (a_cons (e_ix (e_var 2) e_int) a_nil))))) s_nil) (s_cons (s_if (t_cmp (op_eqW hr.units) rb_eq (e_var 1) e_str (nomark _)) (s_one (s_ret (e_and (e_cmp (op_eqW hr.units) rb_eq (e_cb cr_lenW rf_len rfl T.n_len (by decide +kernel) (a_cons (e_var 2) a_nil)) e_int (nomark _)) (e_and (e_fnN (ok_law_is_from T) (hr.mono (by decide)) T.g_law_is_from T.F_law_is_from.kp T.b_law_is_from tk (a_cons (e_ix (e_var 2) e_int) (a_cons e_int (a_cons e_int a_nil)))) (e_one (e_fnN (ok_law_is_row T) (hr.mono (by decide)) T.g_law_is_row T.F_law_is_row.kp T.b_law_is_row tk (a_cons (e_ix (e_var 2) e_int) (a_cons e_int (a_cons (e_op op_powW rf_pow e_int e_int) a_nil))))))))) s_nil) (s_cons (s_if (t_cmp (op_eqW hr.units) rb_eq (e_var 1) e_str (nomark _)) (s_one (s_ret (e_and (e_cmp (op_eqW hr.units) rb_eq (e_cb cr_lenW rf_len rfl T.n_len (by decide +kernel) (a_cons (e_var 2) a_nil)) e_int (nomark _)) (e_and (e_fnN (ok_law_is_row T) (hr.mono (by decide)) T.g_law_is_row T.F_law_is_row.kp T.b_law_is_row tk (a_cons (e_ix (e_var 2) e_int) (a_cons e_int (a_cons e_int a_nil)))) (e_one (e_cmp (op_eqW hr.units) rb_eq (e_ct call_list_of rf_list rfl T.n_list (by decide +kernel) (a_cons (e_ix (e_var 2) e_int) a_nil)) (e_sortSet rfl rfl T.n_sorted rfl T.n_set (e_ix (e_var 2) e_int)) (nomark _))))))) s_nil) (s_one (s_ret (e_and (e_cmp op_inW rb_in (e_var 1) (e_tup (a_cons e_str (a_cons e_str (a_cons e_str (a_cons e_str a_nil))))) (by with_unfolding_all rfl)) (e_one (e_cmp (op_eqW hr.units) rb_eq (e_var 2) (e_tup a_nil) (nomark _)))))))))))))
theorem sc_is_deed : FnScope ["thing", "look", "word", "parts"] ["thing"] (defScope s_is_deed) := ⟨rfl, rfl, rfl, by decide +kernel, rfl, by decide +kernel, by decide +kernel⟩
noncomputable def b_is_deed : FS := (fSeq (fIfS (fOrT (fNotT (fTru (fCall (wIsi isiT isiC) (fCons (fVar 0) (fCons (fC (.ty "tuple")) fNil))))) (fOrT (fCmp wEq (fVar 0) (fTup fNil)) (fNotT (fTru (fCall (wIsi isiT isiC) (fCons (fBin wIxA (fVar 0) (fC (.int 0))) (fCons (fC (.ty "str")) fNil))))))) (fRet (fC (.bl false))) fNext) (fSeq (fAsg (fVar 0) (gStarN 1 (gsCons (gN 2) (gsCons (gN 3) gsNil)))) (fSeq (fIfS (fCmp (wInK "FORMS" kd_FORMS true) (fVar 2) (fC (.gl "FORMS"))) (fRet (fC (.bl false))) fNext) (fSeq (fSet 1 (fBin (wIxK "FORMS" kd_FORMS) (fC (.gl "FORMS")) (fVar 2))) (fRet (fAsk 1 1 [("is_load", f_is_load), ("is_store", f_is_store), ("is_numbered", f_is_numbered)] (fCons (fVar 3) fNil)))))))
noncomputable def f_is_deed : FF := clean (fRun 4 b_is_deed)
theorem ok_is_deed (T : Tx P w K mg base) : FnW P w K mg base 4 (He.ga K "is_deed") T.fd_is_deed ["thing"] f_is_deed := FnW.clean (fn_WD T.F_is_deed sc_is_deed fun cdv A outer s H E hr tk hp => (s_cons (s_if (PW.pt (t_or (t_not (t_tru (e_cb cr_isiW (rf_isi T.isi) rfl T.n_isinstance (by decide +kernel) (a_cons (e_var 0) (a_cons (e_ty rfl T.n_tuple (by decide +kernel)) a_nil))))) (t_or (t_cmp (op_eqW hr.units) rb_eq (e_var 0) (e_tup a_nil) (nomark _)) (t_or1 (t_not (t_tru (e_cb cr_isiW (rf_isi T.isi) rfl T.n_isinstance (by decide +kernel) (a_cons (e_ix (e_var 0) e_int) (a_cons (e_ty rfl T.n_str (by decide +kernel)) a_nil))))))))) (s_one (s_ret e_bl)) s_nil) (s_cons (s_asg (e_var 0) (g_starN (gs_cons (g_name sc_is_deed.nd) (gs_cons (g_name sc_is_deed.nd) gs_nil)))) (s_cons (s_if (t_cmp op_notInK (rb_inK T.kt_FORMS) (e_var 2) (e_gl rfl T.g_FORMS) (by with_unfolding_all rfl)) (s_one (s_ret e_bl)) s_nil) (s_cons (s_set sc_is_deed.nd (e_ixK T.kt_FORMS (e_gl rfl T.g_FORMS) (e_var 2))) (s_one (s_ret (e_ask (k := 3) (i := 1) (D := [("is_load", f_is_load), ("is_store", f_is_store), ("is_numbered", f_is_numbered)]) (ask_cons ⟨_, _, _, T.g_is_load, (ok_is_load T).mono (by decide), T.F_is_load.kp, T.b_is_load, rfl⟩ (ask_cons ⟨_, _, _, T.g_is_store, (ok_is_store T).mono (by decide), T.F_is_store.kp, T.b_is_store, rfl⟩ (ask_cons ⟨_, _, _, T.g_is_numbered, (ok_is_numbered T).mono (by decide), T.F_is_numbered.kp, T.b_is_numbered, rfl⟩ ask_nil))) (hr.mono (by decide)) tk (a_cons (e_var 3) a_nil)))))))))
theorem sc_is_page_rest : FnScope ["rest"] ["rest"] (defScope s_is_page_rest) := ⟨rfl, rfl, rfl, by decide +kernel, rfl, by decide +kernel, by decide +kernel⟩
noncomputable def b_is_page_rest : FS := (fRet (fAnd (fCmpE wEq (fCall wLen (fCons (fVar 0) fNil)) (fC (.int 3))) (fAnd (fFn 1 f_is_count (fCons (fBin wIxA (fVar 0) (fC (.int 0))) fNil)) (fAnd (fFn 1 f_is_page_number (fCons (fBin wIxA (fVar 0) (fC (.int 1))) fNil)) (fFn 1 f_is_page (fCons (fBin wIxA (fVar 0) (fC (.int 2))) fNil))))))
noncomputable def f_is_page_rest : FF := clean (fRun 1 b_is_page_rest)
theorem ok_is_page_rest (T : Tx P w K mg base) : FnW P w K mg base 4 (He.ga K "is_page_rest") T.fd_is_page_rest ["rest"] f_is_page_rest := FnW.clean (fn_WD T.F_is_page_rest sc_is_page_rest fun cdv A outer s H E hr tk hp => (s_one (s_ret (e_and (e_cmp (op_eqW hr.units) rb_eq (e_cb cr_lenW rf_len rfl T.n_len (by decide +kernel) (a_cons (e_var 0) a_nil)) e_int (nomark _)) (e_and (e_fnN (ok_is_count T) (hr.mono (by decide)) T.g_is_count T.F_is_count.kp T.b_is_count tk (a_cons (e_ix (e_var 0) e_int) a_nil)) (e_and (e_fnN (ok_is_page_number T) (hr.mono (by decide)) T.g_is_page_number T.F_is_page_number.kp T.b_is_page_number tk (a_cons (e_ix (e_var 0) e_int) a_nil)) (e_one (e_fnN (ok_is_page T) (hr.mono (by decide)) T.g_is_page T.F_is_page.kp T.b_is_page tk (a_cons (e_ix (e_var 0) e_int) a_nil)))))))))
theorem sc_page_text : FnScope ["page", "cell"] ["page"] (defScope s_page_text) := ⟨rfl, rfl, rfl, by decide +kernel, rfl, by decide +kernel, by decide +kernel⟩
noncomputable def b_page_text : FS := (fSeq (fIfS (fNotT (fTru (fFn 1 f_is_page (fCons (fVar 0) fNil)))) (fRaise "NoPages") fNext) (fSeq (fIfS (fCmp wEq (fVar 0) (fC k_BLANK)) (fRet (fC k_BLANK_TEXT)) fNext) (fRet (fM1 wJoin (fC (.str ",")) (fLc [1] (fSeqI (fVar 0)) (bN 1) fYes (fFn 1 f_hexed (fCons (fVar 1) fNil)))))))
noncomputable def f_page_text : FF := clean (fRun 2 b_page_text)
theorem ok_page_text (T : Tx P w K mg base) : FnW P w K mg base 4 (He.ga K "page_text") T.fd_page_text ["page"] f_page_text := FnW.clean (fn_WD T.F_page_text sc_page_text fun cdv A outer s H E hr tk hp => (s_cons (s_if (t_not (t_tru (e_fnN (ok_is_page T) (hr.mono (by decide)) T.g_is_page T.F_is_page.kp T.b_is_page tk (a_cons (e_var 0) a_nil)))) (s_one (s_raise T.x_NoPages tk)) s_nil) (s_cons (s_if (t_cmp (op_eqW hr.units) rb_eq (e_var 0) (e_gt T.k_BLANK) (nomark _)) (s_one (s_ret (e_gs T.k_BLANK_TEXT))) s_nil) (s_one (s_ret (e_join e_str (e_lc sc_page_text.nd (i_seq (e_var 0)) (blkOk_by (show blkC ["page", "cell"] (defScope s_page_text) _ _ = true by decide +kernel)) (fun _ _ _ _ _ => pg_name (i := 1) sc_page_text.nd rfl (Or.inl rfl)) (fun _ _ _ _ _ => ts_nil) (fun _ _ _ _ _ => by exact (e_fnB (ok_hexed T) (hr.mono (by decide)) T.g_hexed T.F_hexed.kp T.b_hexed (a_cons (e_var 1) a_nil)))) fun a b => pe_join a b))))))
theorem sc_law_letter : FnScope ["pot", "many", "move", "way", "counts", "some", "number", "turn"] ["pot", "many"] (defScope s_law_letter) := ⟨rfl, rfl, rfl, by decide +kernel, rfl, by decide +kernel, by decide +kernel⟩
noncomputable def b_law_letter : FS := (fSeq (fSet 2 (fBin wIxA (fLst (fCons (fC (.int 0)) (fCons (fBin wPow (fC (.int 10)) (fC (.int 6))) (fCons (fFn 2 f_law_take (fCons (fVar 0) (fCons (fBin wAdd (fBin wPow (fC (.int 10)) (fC (.int 6))) (fC (.int 1))) fNil))) (fCons (fFn 2 f_law_take (fCons (fVar 0) (fCons (fC (.int 9)) fNil))) fNil))))) (fFn 2 f_law_take (fCons (fVar 0) (fCons (fC (.int 4)) fNil))))) (fSeq (fSet 3 (fFn 2 f_law_take (fCons (fVar 0) (fCons (fC (.int 7)) fNil)))) (fSeq (fIfS (fCmp wEq (fVar 3) (fC (.int 0))) (fRet (fTup (fCons (fC (.str "page")) (fCons (fVar 2) (fCons (fFn 1 f_law_count (fCons (fVar 0) fNil)) (fCons (fFn 2 f_law_take (fCons (fVar 0) (fCons (fC (.int 16)) fNil))) (fCons (fFn 2 f_law_page (fCons (fVar 0) (fCons (fVar 1) fNil))) fNil))))))) fNext) (fSeq (fIfS (fCmp wEq (fVar 3) (fC (.int 1))) (fSeq (fSet 4 (fCall wTuple (fCons (fLc [7] (fIt wRng1 (fCons (fBin wIxA (fLst (fCons (fC (.int 1)) (fCons (fC (.int 16)) (fCons (fBin wAdd (fC (.int 1)) (fFn 2 f_law_take (fCons (fVar 0) (fCons (fC (.int 16)) fNil)))) fNil)))) (fFn 2 f_law_take (fCons (fVar 0) (fCons (fC (.int 3)) fNil)))) fNil)) (bN 7) fYes (fFn 1 f_law_count (fCons (fVar 0) fNil))) fNil))) (fRet (fTup (fCons (fC (.str "last")) (fCons (fVar 2) (fCons (fBin wIxA (fLst (fCons (fC (.int 0)) (fCons (fC (.int 4095)) (fCons (fFn 2 f_law_take (fCons (fVar 0) (fCons (fC (.int 4096)) fNil))) fNil)))) (fFn 2 f_law_take (fCons (fVar 0) (fCons (fC (.int 3)) fNil)))) (fCons (fVar 4) fNil))))))) fNext) (fSeq (fIfS (fCmp wEq (fVar 3) (fC (.int 2))) (fSeq (fSet 5 (fLc [6] (fIt wRng1 (fCons (fC (.int 16)) fNil)) (bN 6) (fCmp wGt (fFn 2 f_law_take (fCons (fVar 0) (fCons (fC (.int 3)) fNil))) (fC (.int 0))) (fVar 6))) (fRet (fTup (fCons (fC (.str "lack")) (fCons (fVar 2) (fCons (fCall wTuple (fCons (fOr (fVar 5) (fLst (fCons (fFn 2 f_law_take (fCons (fVar 0) (fCons (fC (.int 16)) fNil))) fNil))) fNil)) fNil)))))) fNext) (fRet (fTup (fCons (fBin wIxA (fLst (fCons (fC (.str "go")) (fCons (fC (.str "off")) (fCons (fC (.str "have")) (fCons (fC (.str "runs")) fNil))))) (fBin wSub (fVar 3) (fC (.int 3)))) (fCons (fVar 2) fNil)))))))))
noncomputable def f_law_letter : FF := clean (fRun 8 b_law_letter)
theorem ok_law_letter (T : Tx P w K mg base) : FnW P w K mg base 4 (He.ga K "_law_letter") T.fd_law_letter ["pot", "many"] f_law_letter := FnW.clean (fn_WD T.F_law_letter sc_law_letter fun cdv A outer s H E hr tk hp => (s_cons (s_set sc_law_letter.nd (e_ix (e_lst (a_cons e_int (a_cons (e_op op_powW rf_pow e_int e_int) (a_cons (e_fnN (ok_law_take T) (hr.mono (by decide)) T.g_law_take T.F_law_take.kp T.b_law_take tk (a_cons (e_var 0) (a_cons (e_op op_addW rf_add (e_op op_powW rf_pow e_int e_int) e_int) a_nil))) (a_cons (e_fnN (ok_law_take T) (hr.mono (by decide)) T.g_law_take T.F_law_take.kp T.b_law_take tk (a_cons (e_var 0) (a_cons e_int a_nil))) a_nil))))) (e_fnN (ok_law_take T) (hr.mono (by decide)) T.g_law_take T.F_law_take.kp T.b_law_take tk (a_cons (e_var 0) (a_cons e_int a_nil))))) (s_cons (s_set sc_law_letter.nd (e_fnN (ok_law_take T) (hr.mono (by decide)) T.g_law_take T.F_law_take.kp T.b_law_take tk (a_cons (e_var 0) (a_cons e_int a_nil)))) (s_cons (s_if (t_cmp (op_eqW hr.units) rb_eq (e_var 3) e_int (nomark _)) (s_one (s_ret (e_tup (a_cons e_str (a_cons (e_var 2) (a_cons (e_fnN (ok_law_count T) (hr.mono (by decide)) T.g_law_count T.F_law_count.kp T.b_law_count tk (a_cons (e_var 0) a_nil)) (a_cons (e_fnN (ok_law_take T) (hr.mono (by decide)) T.g_law_take T.F_law_take.kp T.b_law_take tk (a_cons (e_var 0) (a_cons e_int a_nil))) (a_cons (e_fnN (ok_law_page T) (hr.mono (by decide)) T.g_law_page T.F_law_page.kp T.b_law_page tk (a_cons (e_var 0) (a_cons (e_var 1) a_nil))) a_nil)))))))) s_nil) (s_cons (s_if (t_cmp (op_eqW hr.units) rb_eq (e_var 3) e_int (nomark _)) (s_cons (s_set sc_law_letter.nd (e_ct call_tuple_of rf_tuple rfl T.n_tuple (by decide +kernel) (a_cons (e_lc sc_law_letter.nd (i_rng1 rfl T.n_range (a_cons (e_ix (e_lst (a_cons e_int (a_cons e_int (a_cons (e_op op_addW rf_add e_int (e_fnN (ok_law_take T) (hr.mono (by decide)) T.g_law_take T.F_law_take.kp T.b_law_take tk (a_cons (e_var 0) (a_cons e_int a_nil)))) a_nil)))) (e_fnN (ok_law_take T) (hr.mono (by decide)) T.g_law_take T.F_law_take.kp T.b_law_take tk (a_cons (e_var 0) (a_cons e_int a_nil)))) a_nil)) (blkOk_by (show blkC ["pot", "many", "move", "way", "counts", "some", "number", "turn"] (defScope s_law_letter) _ _ = true by decide +kernel)) (fun _ _ _ _ _ => pg_name (i := 7) sc_law_letter.nd rfl (Or.inl rfl)) (fun _ _ _ _ _ => ts_nil) (fun _ _ _ _ _ => by exact (e_fnB (ok_law_count T) (hr.mono (by decide)) T.g_law_count T.F_law_count.kp T.b_law_count (a_cons (e_var 0) a_nil)))) a_nil))) (s_one (s_ret (e_tup (a_cons e_str (a_cons (e_var 2) (a_cons (e_ix (e_lst (a_cons e_int (a_cons e_int (a_cons (e_fnN (ok_law_take T) (hr.mono (by decide)) T.g_law_take T.F_law_take.kp T.b_law_take tk (a_cons (e_var 0) (a_cons e_int a_nil))) a_nil)))) (e_fnN (ok_law_take T) (hr.mono (by decide)) T.g_law_take T.F_law_take.kp T.b_law_take tk (a_cons (e_var 0) (a_cons e_int a_nil)))) (a_cons (e_var 4) a_nil)))))))) s_nil) (s_cons (s_if (t_cmp (op_eqW hr.units) rb_eq (e_var 3) e_int (nomark _)) (s_cons (s_setLc sc_law_letter.nd (i_rng1 rfl T.n_range (a_cons e_int a_nil)) (blkOk_by (show blkC ["pot", "many", "move", "way", "counts", "some", "number", "turn"] (defScope s_law_letter) _ _ = true by decide +kernel)) (fun _ _ _ _ _ => pg_name (i := 6) sc_law_letter.nd rfl (Or.inl rfl)) (fun _ _ _ _ _ => (ts_one (t_cmp op_gt rb_I (e_fnB (ok_law_take T) (hr.mono (by decide)) T.g_law_take T.F_law_take.kp T.b_law_take (a_cons (e_var 0) (a_cons e_int a_nil))) e_int (nomark _)))) (fun _ _ _ _ _ => by exact (e_var 6))) (s_one (s_ret (e_tup (a_cons e_str (a_cons (e_var 2) (a_cons (e_ct call_tuple_of rf_tuple rfl T.n_tuple (by decide +kernel) (a_cons (e_or (e_var 5) (e_one (e_lst (a_cons (e_fnN (ok_law_take T) (hr.mono (by decide)) T.g_law_take T.F_law_take.kp T.b_law_take tk (a_cons (e_var 0) (a_cons e_int a_nil))) a_nil)))) a_nil)) a_nil))))))) s_nil) (s_one (s_ret (e_tup (a_cons (e_ix (e_lst (a_cons e_str (a_cons e_str (a_cons e_str (a_cons e_str a_nil))))) (e_op op_sub rf_sub (e_var 3) e_int)) (a_cons (e_var 2) a_nil)))))))))))
theorem sc_is_letter : FnScope ["thing", "does_fit", "word", "move", "rest"] ["thing"] (defScope s_is_letter) := ⟨rfl, rfl, rfl, by decide +kernel, rfl, by decide +kernel, by decide +kernel⟩
noncomputable def b_is_letter : FS := (fSeq (fIfS (fOrT (fNotT (fTru (fCall (wIsi isiT isiC) (fCons (fVar 0) (fCons (fC (.ty "tuple")) fNil))))) (fOrT (fCmp wLt (fCall wLen (fCons (fVar 0) fNil)) (fC (.int 2))) (fOrT (fNotT (fTru (fCall (wIsi isiT isiC) (fCons (fBin wIxA (fVar 0) (fC (.int 0))) (fCons (fC (.ty "str")) fNil))))) (fNotT (fTru (fFn 1 f_is_move (fCons (fBin wIxA (fVar 0) (fC (.int 1))) fNil))))))) (fRet (fC (.bl false))) fNext) (fSeq (fAsg (fVar 0) (gStarN 2 (gsCons (gN 2) (gsCons (gN 3) (gsCons (gN 4) gsNil))))) (fSeq (fIfS (fCmp (wInK "RESTS" kd_RESTS true) (fVar 2) (fC (.gl "RESTS"))) (fRet (fC (.bl false))) fNext) (fSeq (fSet 1 (fBin (wIxK "RESTS" kd_RESTS) (fC (.gl "RESTS")) (fVar 2))) (fRet (fAsk 1 1 [("is_page_rest", f_is_page_rest), ("is_last_rest", f_is_last_rest), ("is_lack_rest", f_is_lack_rest), ("is_bare_rest", f_is_bare_rest)] (fCons (fVar 4) fNil)))))))
noncomputable def f_is_letter : FF := clean (fRun 5 b_is_letter)
theorem ok_is_letter (T : Tx P w K mg base) : FnW P w K mg base 5 (He.ga K "is_letter") T.fd_is_letter ["thing"] f_is_letter := FnW.clean (fn_WD T.F_is_letter sc_is_letter fun cdv A outer s H E hr tk hp => (s_cons (s_if (PW.pt (t_or (t_not (t_tru (e_cb cr_isiW (rf_isi T.isi) rfl T.n_isinstance (by decide +kernel) (a_cons (e_var 0) (a_cons (e_ty rfl T.n_tuple (by decide +kernel)) a_nil))))) (t_or (t_cmp op_lt rb_I (e_cb cr_lenW rf_len rfl T.n_len (by decide +kernel) (a_cons (e_var 0) a_nil)) e_int (nomark _)) (t_or (t_not (t_tru (e_cb cr_isiW (rf_isi T.isi) rfl T.n_isinstance (by decide +kernel) (a_cons (e_ix (e_var 0) e_int) (a_cons (e_ty rfl T.n_str (by decide +kernel)) a_nil))))) (t_or1 (t_not (t_tru (e_fnN (ok_is_move T) (hr.mono (by decide)) T.g_is_move T.F_is_move.kp T.b_is_move tk (a_cons (e_ix (e_var 0) e_int) a_nil))))))))) (s_one (s_ret e_bl)) s_nil) (s_cons (s_asg (e_var 0) (g_starN (gs_cons (g_name sc_is_letter.nd) (gs_cons (g_name sc_is_letter.nd) (gs_cons (g_name sc_is_letter.nd) gs_nil))))) (s_cons (s_if (t_cmp op_notInK (rb_inK T.kt_RESTS) (e_var 2) (e_gl rfl T.g_RESTS) (by with_unfolding_all rfl)) (s_one (s_ret e_bl)) s_nil) (s_cons (s_set sc_is_letter.nd (e_ixK T.kt_RESTS (e_gl rfl T.g_RESTS) (e_var 2))) (s_one (s_ret (e_ask (k := 4) (i := 1) (D := [("is_page_rest", f_is_page_rest), ("is_last_rest", f_is_last_rest), ("is_lack_rest", f_is_lack_rest), ("is_bare_rest", f_is_bare_rest)]) (ask_cons ⟨_, _, _, T.g_is_page_rest, (ok_is_page_rest T).mono (by decide), T.F_is_page_rest.kp, T.b_is_page_rest, rfl⟩ (ask_cons ⟨_, _, _, T.g_is_last_rest, (ok_is_last_rest T).mono (by decide), T.F_is_last_rest.kp, T.b_is_last_rest, rfl⟩ (ask_cons ⟨_, _, _, T.g_is_lack_rest, (ok_is_lack_rest T).mono (by decide), T.F_is_lack_rest.kp, T.b_is_lack_rest, rfl⟩ (ask_cons ⟨_, _, _, T.g_is_bare_rest, (ok_is_bare_rest T).mono (by decide), T.F_is_bare_rest.kp, T.b_is_bare_rest, rfl⟩ ask_nil)))) (hr.mono (by decide)) tk (a_cons (e_var 4) a_nil)))))))))
theorem sc_deed_text : FnScope ["deed", "word", "number", "cells", "cell"] ["deed"] (defScope s_deed_text) := ⟨rfl, rfl, rfl, by decide +kernel, rfl, by decide +kernel, by decide +kernel⟩
noncomputable def b_deed_text : FS := (fSeq (fIfS (fNotT (fTru (fFn 1 f_is_deed (fCons (fVar 0) fNil)))) (fRaiseD "NoDeed" "number" (fC (.int 0))) fNext) (fSeq (fAsg (fVar 0) (gStarN 2 (gsCons (gN 1) (gsCons (gN 2) (gsCons (gN 3) gsNil))))) (fRet (fM1 wJoin (fC (.str " ")) (fBin wAdd (fLst (fCons (fVar 1) (fCons (fCall wStr (fCons (fVar 2) fNil)) fNil))) (fLc [4] (fSeqI (fVar 3)) (bN 4) fYes (fFn 1 f_hexed (fCons (fVar 4) fNil))))))))
noncomputable def f_deed_text : FF := clean (fRun 5 b_deed_text)
theorem ok_deed_text (T : Tx P w K mg base) : FnW P w K mg base 5 (He.ga K "deed_text") T.fd_deed_text ["deed"] f_deed_text := FnW.clean (fn_WD T.F_deed_text sc_deed_text fun cdv A outer s H E hr tk hp => (s_cons (s_if (t_not (t_tru (e_fnN (ok_is_deed T) (hr.mono (by decide)) T.g_is_deed T.F_is_deed.kp T.b_is_deed tk (a_cons (e_var 0) a_nil)))) (s_one (s_raiseD (xd_NoDeed T) (hr.mono (by decide)) tk e_int passX)) s_nil) (s_cons (s_asg (e_var 0) (g_starN (gs_cons (g_name sc_deed_text.nd) (gs_cons (g_name sc_deed_text.nd) (gs_cons (g_name sc_deed_text.nd) gs_nil))))) (s_one (s_ret (e_join e_str (e_op op_addW rf_add (e_lst (a_cons (e_var 1) (a_cons (e_ct call_str_int rf_str rfl T.n_str (by decide +kernel) (a_cons (e_var 2) a_nil)) a_nil))) (e_lc sc_deed_text.nd (i_seq (e_var 3)) (blkOk_by (show blkC ["deed", "word", "number", "cells", "cell"] (defScope s_deed_text) _ _ = true by decide +kernel)) (fun _ _ _ _ _ => pg_name (i := 4) sc_deed_text.nd rfl (Or.inl rfl)) (fun _ _ _ _ _ => ts_nil) (fun _ _ _ _ _ => by exact (e_fnB (ok_hexed T) (hr.mono (by decide)) T.g_hexed T.F_hexed.kp T.b_hexed (a_cons (e_var 4) a_nil))))) fun a b => pe_join a b))))))
theorem sc_letter_text : FnScope ["letter", "word", "move", "parts", "count", "number", "page", "root", "counts"] ["letter"] (defScope s_letter_text) := ⟨rfl, rfl, rfl, by decide +kernel, rfl, by decide +kernel, by decide +kernel⟩
noncomputable def b_letter_text : FS := (fSeq (fIfS (fNotT (fTru (fFn 1 f_is_letter (fCons (fVar 0) fNil)))) (fRaise "NoLetter") fNext) (fSeq (fAsg (fVar 0) (gStarN 2 (gsCons (gN 1) (gsCons (gN 2) (gsCons (gN 3) gsNil))))) (fSeq (fIfS (fCmp wEq (fVar 1) (fC (.str "page"))) (fSeq (fAsg (fVar 3) (gSeqN 3 (gsCons (gN 4) (gsCons (gN 5) (gsCons (gN 6) gsNil))))) (fRet (fM1 wJoin (fC (.str " ")) (fLst (fCons (fVar 1) (fCons (fCall wStr (fCons (fVar 2) fNil)) (fCons (fCall wStr (fCons (fVar 4) fNil)) (fCons (fCall wStr (fCons (fVar 5) fNil)) (fCons (fFn 1 f_page_text (fCons (fVar 6) fNil)) fNil))))))))) fNext) (fSeq (fIfS (fCmp wEq (fVar 1) (fC (.str "last"))) (fSeq (fAsg (fVar 3) (gSeqN 2 (gsCons (gN 7) (gsCons (gN 8) gsNil)))) (fRet (fM1 wJoin (fC (.str " ")) (fLst (fCons (fVar 1) (fCons (fCall wStr (fCons (fVar 2) fNil)) (fCons (fCall wStr (fCons (fVar 7) fNil)) (fCons (fFn 1 f_rowed (fCons (fVar 8) fNil)) fNil)))))))) fNext) (fSeq (fIfS (fCmp wEq (fVar 1) (fC (.str "lack"))) (fRet (fM1 wJoin (fC (.str " ")) (fLst (fCons (fVar 1) (fCons (fCall wStr (fCons (fVar 2) fNil)) (fCons (fFn 1 f_rowed (fCons (fBin wIxA (fVar 3) (fC (.int 0))) fNil)) fNil)))))) fNext) (fRet (fM1 wJoin (fC (.str " ")) (fLst (fCons (fVar 1) (fCons (fCall wStr (fCons (fVar 2) fNil)) fNil))))))))))
noncomputable def f_letter_text : FF := clean (fRun 9 b_letter_text)
theorem ok_letter_text (T : Tx P w K mg base) : FnW P w K mg base 6 (He.ga K "letter_text") T.fd_letter_text ["letter"] f_letter_text := FnW.clean (fn_WD T.F_letter_text sc_letter_text fun cdv A outer s H E hr tk hp => (s_cons (s_if (t_not (t_tru (e_fnN (ok_is_letter T) (hr.mono (by decide)) T.g_is_letter T.F_is_letter.kp T.b_is_letter tk (a_cons (e_var 0) a_nil)))) (s_one (s_raise T.x_NoLetter tk)) s_nil) (s_cons (s_asg (e_var 0) (g_starN (gs_cons (g_name sc_letter_text.nd) (gs_cons (g_name sc_letter_text.nd) (gs_cons (g_name sc_letter_text.nd) gs_nil))))) (s_cons (s_if (t_cmp (op_eqW hr.units) rb_eq (e_var 1) e_str (nomark _)) (s_cons (s_asg (e_var 3) (g_seqN (gs_cons (g_name sc_letter_text.nd) (gs_cons (g_name sc_letter_text.nd) (gs_cons (g_name sc_letter_text.nd) gs_nil))))) (s_one (s_ret (e_join e_str (e_lst (a_cons (e_var 1) (a_cons (e_ct call_str_int rf_str rfl T.n_str (by decide +kernel) (a_cons (e_var 2) a_nil)) (a_cons (e_ct call_str_int rf_str rfl T.n_str (by decide +kernel) (a_cons (e_var 4) a_nil)) (a_cons (e_ct call_str_int rf_str rfl T.n_str (by decide +kernel) (a_cons (e_var 5) a_nil)) (a_cons (e_fnN (ok_page_text T) (hr.mono (by decide)) T.g_page_text T.F_page_text.kp T.b_page_text tk (a_cons (e_var 6) a_nil)) a_nil)))))) fun a b => pe_join a b)))) s_nil) (s_cons (s_if (t_cmp (op_eqW hr.units) rb_eq (e_var 1) e_str (nomark _)) (s_cons (s_asg (e_var 3) (g_seqN (gs_cons (g_name sc_letter_text.nd) (gs_cons (g_name sc_letter_text.nd) gs_nil)))) (s_one (s_ret (e_join e_str (e_lst (a_cons (e_var 1) (a_cons (e_ct call_str_int rf_str rfl T.n_str (by decide +kernel) (a_cons (e_var 2) a_nil)) (a_cons (e_ct call_str_int rf_str rfl T.n_str (by decide +kernel) (a_cons (e_var 7) a_nil)) (a_cons (e_fnN (ok_rowed T) (hr.mono (by decide)) T.g_rowed T.F_rowed.kp T.b_rowed tk (a_cons (e_var 8) a_nil)) a_nil))))) fun a b => pe_join a b)))) s_nil) (s_cons (s_if (t_cmp (op_eqW hr.units) rb_eq (e_var 1) e_str (nomark _)) (s_one (s_ret (e_join e_str (e_lst (a_cons (e_var 1) (a_cons (e_ct call_str_int rf_str rfl T.n_str (by decide +kernel) (a_cons (e_var 2) a_nil)) (a_cons (e_fnN (ok_rowed T) (hr.mono (by decide)) T.g_rowed T.F_rowed.kp T.b_rowed tk (a_cons (e_ix (e_var 3) e_int) a_nil)) a_nil)))) fun a b => pe_join a b))) s_nil) (s_one (s_ret (e_join e_str (e_lst (a_cons (e_var 1) (a_cons (e_ct call_str_int rf_str rfl T.n_str (by decide +kernel) (a_cons (e_var 2) a_nil)) a_nil))) fun a b => pe_join a b)))))))))
theorem sc_read_deed : FnScope ["text", "deed", "word", "at", "part", "rest"] ["text"] (defScope s_read_deed) := ⟨rfl, rfl, rfl, by decide +kernel, rfl, by decide +kernel, by decide +kernel⟩
noncomputable def b_read_deed : FS := (fSeq (fAsg (fFn 1 f_words_in (fCons (fVar 0) fNil)) (gStarN 1 (gsCons (gN 2) (gsCons (gN 5) gsNil)))) (fSeq (fSet 1 (fTup (fCons (fVar 2) fNil))) (fSeq (fFor (fI1 wEnum (fSl (fVar 5) fNo (fSo (fC (.int 2))))) (gSeqN 2 (gsCons (gN 3) (gsCons (gN 4) gsNil))) (fAug 1 wAddG (fTup (fCons (fIf (fCmp wEq (fVar 3) (fC (.int 1))) (fFn 1 f_cell_in (fCons (fVar 4) fNil)) (fFn 1 f_number_in (fCons (fVar 4) fNil))) fNil)))) (fSeq (fIfS (fOrT (fCmp wGt (fCall wLen (fCons (fVar 5) fNil)) (fC (.int 2))) (fOrT (fNotT (fTru (fFn 1 f_is_deed (fCons (fVar 1) fNil)))) (fCmp wNe (fFn 1 f_deed_text (fCons (fVar 1) fNil)) (fVar 0)))) (fRaise "NoText") fNext) (fRet (fVar 1))))))
noncomputable def f_read_deed : FF := clean (fRun 6 b_read_deed)
theorem ok_read_deed (T : Tx P w K mg base) : FnW P w K mg base 6 (He.ga K "read_deed") T.fd_read_deed ["text"] f_read_deed := FnW.clean (fn_WD T.F_read_deed sc_read_deed fun cdv A outer s H E hr tk hp => (s_cons (s_asg (e_fnN (ok_words_in T) (hr.mono (by decide)) T.g_words_in T.F_words_in.kp T.b_words_in tk (a_cons (e_var 0) a_nil)) (g_starN (gs_cons (g_name sc_read_deed.nd) (gs_cons (g_name sc_read_deed.nd) gs_nil)))) (s_cons (s_set sc_read_deed.nd (e_tup (a_cons (e_var 2) a_nil))) (s_cons (s_for hp (i_enum rfl T.n_enumerate (e_sl (e_var 5) o_none (o_some e_int))) (g_seqN (gs_cons (g_name sc_read_deed.nd) (gs_cons (g_name sc_read_deed.nd) gs_nil))) (s_one (s_aug sc_read_deed.nd iop_addG rf_addG (e_tup (a_cons (e_if (t_cmp (op_eqW hr.units) rb_eq (e_var 3) e_int (nomark _)) (e_fnN (ok_cell_in T) (hr.mono (by decide)) T.g_cell_in T.F_cell_in.kp T.b_cell_in tk (a_cons (e_var 4) a_nil)) (e_fnN (ok_number_in T) (hr.mono (by decide)) T.g_number_in T.F_number_in.kp T.b_number_in tk (a_cons (e_var 4) a_nil))) a_nil))))) (s_cons (s_if (PW.pt (t_or (t_cmp op_gt rb_I (e_cb cr_lenW rf_len rfl T.n_len (by decide +kernel) (a_cons (e_var 5) a_nil)) e_int (nomark _)) (t_or (t_not (t_tru (e_fnN (ok_is_deed T) (hr.mono (by decide)) T.g_is_deed T.F_is_deed.kp T.b_is_deed tk (a_cons (e_var 1) a_nil)))) (t_or1 (t_cmp (op_neW hr.units) rb_ne (e_fnN (ok_deed_text T) (hr.mono (by decide)) T.g_deed_text T.F_deed_text.kp T.b_deed_text tk (a_cons (e_var 1) a_nil)) (e_var 0) (nomark _)))))) (s_one (s_raise T.x_NoText tk)) s_nil) (s_one (s_ret (e_var 1))))))))
theorem sc_read_letter : FnScope ["text", "letter", "word", "parts"] ["text"] (defScope s_read_letter) := ⟨rfl, rfl, rfl, by decide +kernel, rfl, by decide +kernel, by decide +kernel⟩
noncomputable def b_read_letter : FS := (fSeq (fAsg (fFn 1 f_words_in (fCons (fVar 0) fNil)) (gStarN 1 (gsCons (gN 2) (gsCons (gN 3) gsNil)))) (fSeq (fSet 1 (fIf (fCmp wNe (fVar 3) (fLst fNil)) (fFn 2 f_letter_in (fCons (fVar 2) (fCons (fVar 3) fNil))) (fC .non))) (fSeq (fIfS (fOrT (fNotT (fTru (fFn 1 f_is_letter (fCons (fVar 1) fNil)))) (fCmp wNe (fFn 1 f_letter_text (fCons (fVar 1) fNil)) (fVar 0))) (fRaise "NoText") fNext) (fRet (fVar 1)))))
noncomputable def f_read_letter : FF := clean (fRun 4 b_read_letter)
theorem ok_read_letter (T : Tx P w K mg base) : FnW P w K mg base 7 (He.ga K "read_letter") T.fd_read_letter ["text"] f_read_letter := FnW.clean (fn_WD T.F_read_letter sc_read_letter fun cdv A outer s H E hr tk hp => (s_cons (s_asg (e_fnN (ok_words_in T) (hr.mono (by decide)) T.g_words_in T.F_words_in.kp T.b_words_in tk (a_cons (e_var 0) a_nil)) (g_starN (gs_cons (g_name sc_read_letter.nd) (gs_cons (g_name sc_read_letter.nd) gs_nil)))) (s_cons (s_set sc_read_letter.nd (e_if (t_cmp (op_neW hr.units) rb_ne (e_var 3) (e_lst a_nil) (nomark _)) (e_fnN (ok_letter_in T) (hr.mono (by decide)) T.g_letter_in T.F_letter_in.kp T.b_letter_in tk (a_cons (e_var 2) (a_cons (e_var 3) a_nil))) e_non)) (s_cons (s_if (PW.pt (t_or (t_not (t_tru (e_fnN (ok_is_letter T) (hr.mono (by decide)) T.g_is_letter T.F_is_letter.kp T.b_is_letter tk (a_cons (e_var 1) a_nil)))) (t_or1 (t_cmp (op_neW hr.units) rb_ne (e_fnN (ok_letter_text T) (hr.mono (by decide)) T.g_letter_text T.F_letter_text.kp T.b_letter_text tk (a_cons (e_var 1) a_nil)) (e_var 0) (nomark _))))) (s_one (s_raise T.x_NoText tk)) s_nil) (s_one (s_ret (e_var 1)))))))
theorem sc_law_same : FnScope ["found", "due", "one", "other"] ["found", "due"] (defScope s_law_same) := ⟨rfl, rfl, rfl, by decide +kernel, rfl, by decide +kernel, by decide +kernel⟩
noncomputable def b_law_same (rec : FF) : FS := (fSeq (fIfS (fTru (fCall (wIsi isiT isiC) (fCons (fVar 1) (fCons (fC (.ty "tuple")) fNil)))) (fSeq (fIfS (fOrT (fNotT (fTru (fCall (wIsi isiT isiC) (fCons (fVar 0) (fCons (fC (.ty "tuple")) fNil))))) (fCmp wNe (fCall wLen (fCons (fVar 0) fNil)) (fCall wLen (fCons (fVar 1) fNil)))) (fRet (fC (.bl false))) fNext) (fRet (fCall wAll (fCons (fLc [2, 3] (fIt wZip (fCons (fVar 0) (fCons (fVar 1) fNil))) (b2 2 3) fYes (fFn 2 rec (fCons (fVar 2) (fCons (fVar 3) fNil)))) fNil)))) fNext) (fSeq (fIfS (fTru (fCall (wIsi isiT isiC) (fCons (fVar 1) (fCons (fC (.ty "str")) fNil)))) (fRet (fAnd (fCall (wIsi isiT isiC) (fCons (fVar 0) (fCons (fC (.ty "str")) fNil))) (fCmpE wEq (fVar 0) (fVar 1)))) fNext) (fRet (fAnd (fCall (wIsi isiT isiC) (fCons (fVar 0) (fCons (fC (.ty "int")) fNil))) (fAnd (fNot (fCall (wIsi isiT isiC) (fCons (fVar 0) (fCons (fC (.ty "bool")) fNil)))) (fCmpE wEq (fVar 0) (fVar 1)))))))
noncomputable def f_law_same : Nat → FF
  | 0 => fun _ _ => .bad
  | n + 1 => clean (fRun 4 (b_law_same (f_law_same n)))
theorem ok_law_same (T : Tx P w K mg base) : ∀ n, FnW P w K mg base (1 + n) (He.ga K "_law_same") T.fd_law_same ["found", "due"] (f_law_same n)
  | 0 => fn_bad
  | n + 1 => by
    have ih := ok_law_same T n
    exact FnW.clean (fn_WD (k := 1 + n) T.F_law_same sc_law_same fun cdv A outer s H E hr tk hp => (s_cons (s_if (t_tru (e_cb cr_isiW (rf_isi T.isi) rfl T.n_isinstance (by decide +kernel) (a_cons (e_var 1) (a_cons (e_ty rfl T.n_tuple (by decide +kernel)) a_nil)))) (s_cons (s_if (PW.pt (t_or (t_not (t_tru (e_cb cr_isiW (rf_isi T.isi) rfl T.n_isinstance (by decide +kernel) (a_cons (e_var 0) (a_cons (e_ty rfl T.n_tuple (by decide +kernel)) a_nil))))) (t_or1 (t_cmp (op_neW hr.units) rb_ne (e_cb cr_lenW rf_len rfl T.n_len (by decide +kernel) (a_cons (e_var 0) a_nil)) (e_cb cr_lenW rf_len rfl T.n_len (by decide +kernel) (a_cons (e_var 1) a_nil)) (nomark _))))) (s_one (s_ret e_bl)) s_nil) (s_one (s_ret (e_cb (cr_all rfl) rf_all rfl T.n_all (by decide +kernel) (a_cons (e_lc2 sc_law_same.nd (i_zip rfl T.n_zip (a_cons (e_var 0) (a_cons (e_var 1) a_nil))) (blkOk_by (show blkC ["found", "due", "one", "other"] (defScope s_law_same) _ _ = true by decide +kernel)) (fun _ _ _ _ _ => pg_tup rfl (pgs_cons (pg_name (i := 2) sc_law_same.nd rfl (Or.inl rfl)) (pgs_cons (pg_name (i := 3) sc_law_same.nd rfl (Or.inl rfl)) pgs_nil))) (fun _ _ _ _ _ => ts_nil) (fun _ _ _ _ _ => by exact (e_fnB ih (hr.mono (by omega)) T.g_law_same T.F_law_same.kp T.b_law_same (a_cons (e_var 2) (a_cons (e_var 3) a_nil))))) a_nil))))) s_nil) (s_cons (s_if (t_tru (e_cb cr_isiW (rf_isi T.isi) rfl T.n_isinstance (by decide +kernel) (a_cons (e_var 1) (a_cons (e_ty rfl T.n_str (by decide +kernel)) a_nil)))) (s_one (s_ret (e_and (e_cb cr_isiW (rf_isi T.isi) rfl T.n_isinstance (by decide +kernel) (a_cons (e_var 0) (a_cons (e_ty rfl T.n_str (by decide +kernel)) a_nil))) (e_one (e_cmp (op_eqW hr.units) rb_eq (e_var 0) (e_var 1) (nomark _)))))) s_nil) (s_one (s_ret (e_and (e_cb cr_isiW (rf_isi T.isi) rfl T.n_isinstance (by decide +kernel) (a_cons (e_var 0) (a_cons (e_ty rfl T.n_int (by decide +kernel)) a_nil))) (e_and (e_not (e_cb cr_isiW (rf_isi T.isi) rfl T.n_isinstance (by decide +kernel) (a_cons (e_var 0) (a_cons (e_ty rfl T.n_bool (by decide +kernel)) a_nil)))) (e_one (e_cmp (op_eqW hr.units) rb_eq (e_var 0) (e_var 1) (nomark _))))))))))
theorem sc_law_met : FnScope ["ask", "thing", "caught", "found", "e", "kinds", "others"] ["ask", "thing"] (defScope s_law_met) := ⟨rfl, rfl, rfl, by decide +kernel, rfl, by decide +kernel, by decide +kernel⟩
noncomputable def b_law_met : FS := (fSeq (fSet 2 (fC .non)) (fSeq (fSet 3 (fC .non)) (fSeq (fTryK xmT 4 2 (fSet 3 (fAsk 1 0 [("deed_text", f_deed_text), ("letter_text", f_letter_text)] (fCons (fVar 1) fNil)))) (fSeq (fIfS (fCmp wIsN (fVar 2) (fC .non)) (fRet (fVar 3)) fNext) (fSeq (fSet 5 (fLst (fCons (fCall (wIsi isiT isiC) (fCons (fVar 2) (fCons (fC (.gl "NoDeed")) fNil))) (fCons (fCall (wIsi isiT isiC) (fCons (fVar 2) (fCons (fC (.gl "NoLetter")) fNil))) fNil)))) (fSeq (fSet 6 (fCall (wIsi isiT isiC) (fCons (fVar 2) (fCons (fTup (fCons (fC (.gl "NoAddress")) (fCons (fC (.gl "NoCell")) (fCons (fC (.gl "NoLine")) (fCons (fC (.gl "NoPage")) (fCons (fC (.gl "NoPages")) (fCons (fC (.gl "NoRoot")) (fCons (fC (.gl "NoText")) fNil)))))))) fNil)))) (fSeq (fIfS (fOrT (fTru (fVar 6)) (fOrT (fCmp wNe (fMt isLst wCnt (fVar 5) (fCons (fC (.bl true)) fNil)) (fC (.int 1))) (fNotT (fTru (fCall (wIsi isiT isiC) (fCons (fVar 2) (fCons (fC (.ty "ValueError")) fNil))))))) (fRet (fLst (fCons (fC (.str "odd")) fNil))) fNext) (fRet (fIf (fTru (fBin wIxA (fVar 5) (fC (.int 0)))) (fLst (fCons (fC (.str "deed")) (fCons (fXf xa_number "number" (fVar 2)) fNil))) (fLst (fCons (fC (.str "letter")) fNil)))))))))))
noncomputable def f_law_met : FF := clean (fRun 7 b_law_met)
theorem ok_law_met (T : Tx P w K mg base) : FnW P w K mg base 7 (He.ga K "_law_met") T.fd_law_met ["ask", "thing"] f_law_met := FnW.clean (fn_WD T.F_law_met sc_law_met fun cdv A outer s H E hr tk hp => (s_cons (s_set sc_law_met.nd e_non) (s_cons (s_set sc_law_met.nd e_non) (s_cons (s_tryK T.xm_WalkError rfl rfl sc_law_met.nd tk rfl (fun W pn xe tk hp => (s_one (s_set sc_law_met.nd (e_ask (k := 6) (i := 0) (D := [("deed_text", f_deed_text), ("letter_text", f_letter_text)]) (ask_cons ⟨_, _, _, T.g_deed_text, (ok_deed_text T).mono (by decide), T.F_deed_text.kp, T.b_deed_text, rfl⟩ (ask_cons ⟨_, _, _, T.g_letter_text, (ok_letter_text T).mono (by decide), T.F_letter_text.kp, T.b_letter_text, rfl⟩ ask_nil)) (hr.mono (by decide)) tk (a_cons (e_var 1) a_nil))))) (fun a oe pn => ps_set (i := 2) sc_law_met.nd rfl (.inl rfl) (pv 4))) (s_cons (s_if (t_cmp op_isN rb_isN (e_var 2) e_non (nomark _)) (s_one (s_ret (e_var 3))) s_nil) (s_cons (s_set sc_law_met.nd (e_lst (a_cons (e_cb cr_isiW (rf_isi T.isi) rfl T.n_isinstance (by decide +kernel) (a_cons (e_var 2) (a_cons (e_gl rfl T.g_NoDeed) a_nil))) (a_cons (e_cb cr_isiW (rf_isi T.isi) rfl T.n_isinstance (by decide +kernel) (a_cons (e_var 2) (a_cons (e_gl rfl T.g_NoLetter) a_nil))) a_nil)))) (s_cons (s_set sc_law_met.nd (e_cb cr_isiW (rf_isi T.isi) rfl T.n_isinstance (by decide +kernel) (a_cons (e_var 2) (a_cons (e_tup (a_cons (e_gl rfl T.g_NoAddress) (a_cons (e_gl rfl T.g_NoCell) (a_cons (e_gl rfl T.g_NoLine) (a_cons (e_gl rfl T.g_NoPage) (a_cons (e_gl rfl T.g_NoPages) (a_cons (e_gl rfl T.g_NoRoot) (a_cons (e_gl rfl T.g_NoText) a_nil)))))))) a_nil)))) (s_cons (s_if (PW.pt (t_or (t_tru (e_var 6)) (t_or (t_cmp (op_neW hr.units) rb_ne (e_count (e_var 5) (a_cons e_bl a_nil)) e_int (nomark _)) (t_or1 (t_not (t_tru (e_cb cr_isiW (rf_isi T.isi) rfl T.n_isinstance (by decide +kernel) (a_cons (e_var 2) (a_cons (e_ty rfl T.n_ValueError (by decide +kernel)) a_nil))))))))) (s_one (s_ret (e_lst (a_cons e_str a_nil)))) s_nil) (s_one (s_ret (e_if (t_tru (e_ix (e_var 5) e_int)) (e_lst (a_cons e_str (a_cons (e_xf T.xf_number (e_var 2)) a_nil))) (e_lst (a_cons e_str a_nil)))))))))))))
theorem sc_law : FnScope ["script", "k", "thing", "pot", "turn", "deed", "letter", "again", "due", "text", "other"] ["script"] (defScope s_law) := ⟨rfl, rfl, rfl, by decide +kernel, rfl, by decide +kernel, by decide +kernel⟩
noncomputable def b_law : FS := (fSeq (fFor (fIt wRng1 (fCons (fCall wMax (fCons (fC (.int 1)) (fCons (fCall wMin2 (fCons (fCall wLen (fCons (fVar 0) fNil)) (fCons (fC (.int 16)) fNil))) fNil))) fNil)) (gN 1) (fSeq (fSet 3 (fFn 2 f_law_pot (fCons (fVar 0) (fCons (fVar 1) fNil)))) (fFor (fIt wRng1 (fCons (fC (.int 6)) fNil)) (gN 4) (fSeq (fSet 5 (fFn 2 f_law_deed (fCons (fVar 3) (fCons (fBin wAdd (fC (.int 1)) (fFn 2 f_law_take (fCons (fVar 3) (fCons (fC (.int 16)) fNil)))) fNil)))) (fSeq (fSet 6 (fFn 2 f_law_letter (fCons (fVar 3) (fCons (fBin wAdd (fC (.int 1)) (fFn 2 f_law_take (fCons (fVar 3) (fCons (fC (.int 16)) fNil)))) fNil)))) (fSeq (fFor (fIt wRng1 (fCons (fC (.int 2)) fNil)) (gN 7) (fSeq (fIfS (fOrT (fNotT (fTru (fFn 2 (f_law_same 6) (fCons (fFn 1 f_deed_text (fCons (fVar 5) fNil)) (fCons (fFn 1 f_law_told (fCons (fVar 5) fNil)) fNil))))) (fNotT (fTru (fFn 2 (f_law_same 6) (fCons (fFn 1 f_read_deed (fCons (fFn 1 f_law_told (fCons (fVar 5) fNil)) fNil)) (fCons (fVar 5) fNil)))))) (fRet (fC (.bl false))) fNext) (fSeq (fSet 9 (fFn 1 f_law_told (fCons (fVar 6) fNil))) (fIfS (fOrT (fNotT (fTru (fFn 2 (f_law_same 6) (fCons (fFn 1 f_letter_text (fCons (fVar 6) fNil)) (fCons (fVar 9) fNil))))) (fNotT (fTru (fFn 2 (f_law_same 6) (fCons (fFn 1 f_read_letter (fCons (fVar 9) fNil)) (fCons (fVar 6) fNil)))))) (fRet (fC (.bl false))) fNext)))) (fSeq (fPar2 2 10 (fCons (fFn 2 f_law_spoilt (fCons (fVar 3) (fCons (fVar 5) fNil))) (fCons (fFn 2 f_law_spoilt (fCons (fVar 3) (fCons (fVar 6) fNil))) fNil))) (fSeq (fSet 8 (fIf (fTru (fFn 1 f_law_is_deed (fCons (fVar 2) fNil))) (fFn 1 f_law_told (fCons (fVar 2) fNil)) (fLst (fCons (fC (.str "deed")) (fCons (fC (.int 0)) fNil))))) (fSeq (fIfS (fCmp wNe (fFn 2 f_law_met (fCons (fC (.gl "deed_text")) (fCons (fVar 2) fNil))) (fVar 8)) (fRet (fC (.bl false))) fNext) (fSeq (fSet 8 (fIf (fTru (fFn 1 f_law_is_letter (fCons (fVar 10) fNil))) (fFn 1 f_law_told (fCons (fVar 10) fNil)) (fLst (fCons (fC (.str "letter")) fNil)))) (fIfS (fCmp wNe (fFn 2 f_law_met (fCons (fC (.gl "letter_text")) (fCons (fVar 10) fNil))) (fVar 8)) (fRet (fC (.bl false))) fNext))))))))))) (fSeq (fFor (fSeqI (fLst (fCons (fC .non) (fCons (fC (.int 0)) (fCons (fC (.str "go 0")) (fCons (fTup fNil) (fCons (fLst (fCons (fC (.str "go")) (fCons (fC (.int 0)) fNil))) (fCons fDict0 (fCons (fTup (fCons (fC (.str "go")) fNil)) (fCons (fTup (fCons (fC (.int 0)) (fCons (fC (.int 0)) fNil))) (fCons (fTup (fCons (fC .non) (fCons (fC (.int 0)) fNil))) fNil))))))))))) (gN 2) (fIfS (fOrT (fCmp wNe (fFn 2 f_law_met (fCons (fC (.gl "deed_text")) (fCons (fVar 2) fNil))) (fLst (fCons (fC (.str "deed")) (fCons (fC (.int 0)) fNil)))) (fCmp wNe (fFn 2 f_law_met (fCons (fC (.gl "letter_text")) (fCons (fVar 2) fNil))) (fLst (fCons (fC (.str "letter")) fNil)))) (fRet (fC (.bl false))) fNext)) (fRet (fC (.bl true)))))
noncomputable def f_law : FF := clean (fRun 11 b_law)
theorem ok_law (T : Tx P w K mg base) : FnW P w K mg base 8 (He.ga K "law") T.fd_law ["script"] f_law := FnW.clean (fn_WD T.F_law sc_law fun cdv A outer s H E hr tk hp => (s_cons (s_for hp (i_rng1 rfl T.n_range (a_cons (e_cb (cr_maxW rfl) rf_max rfl T.n_max (by decide +kernel) (a_cons e_int (a_cons (e_cb (call_min2 rfl) rf_min rfl T.n_min (by decide +kernel) (a_cons (e_cb cr_lenW rf_len rfl T.n_len (by decide +kernel) (a_cons (e_var 0) a_nil)) (a_cons e_int a_nil))) a_nil))) a_nil)) (g_name sc_law.nd) (s_cons (s_set sc_law.nd (e_fnN (ok_law_pot T) (hr.mono (by decide)) T.g_law_pot T.F_law_pot.kp T.b_law_pot tk (a_cons (e_var 0) (a_cons (e_var 1) a_nil)))) (s_one (s_for hp (i_rng1 rfl T.n_range (a_cons e_int a_nil)) (g_name sc_law.nd) (s_cons (s_set sc_law.nd (e_fnN (ok_law_deed T) (hr.mono (by decide)) T.g_law_deed T.F_law_deed.kp T.b_law_deed tk (a_cons (e_var 3) (a_cons (e_op op_addW rf_add e_int (e_fnN (ok_law_take T) (hr.mono (by decide)) T.g_law_take T.F_law_take.kp T.b_law_take tk (a_cons (e_var 3) (a_cons e_int a_nil)))) a_nil)))) (s_cons (s_set sc_law.nd (e_fnN (ok_law_letter T) (hr.mono (by decide)) T.g_law_letter T.F_law_letter.kp T.b_law_letter tk (a_cons (e_var 3) (a_cons (e_op op_addW rf_add e_int (e_fnN (ok_law_take T) (hr.mono (by decide)) T.g_law_take T.F_law_take.kp T.b_law_take tk (a_cons (e_var 3) (a_cons e_int a_nil)))) a_nil)))) (s_cons (s_for hp (i_rng1 rfl T.n_range (a_cons e_int a_nil)) (g_name sc_law.nd) (s_cons (s_if (PW.pt (t_or (t_not (t_tru (e_fnN (ok_law_same T 6) (hr.mono (by decide)) T.g_law_same T.F_law_same.kp T.b_law_same tk (a_cons (e_fnN (ok_deed_text T) (hr.mono (by decide)) T.g_deed_text T.F_deed_text.kp T.b_deed_text tk (a_cons (e_var 5) a_nil)) (a_cons (e_fnN (ok_law_told T) (hr.mono (by decide)) T.g_law_told T.F_law_told.kp T.b_law_told tk (a_cons (e_var 5) a_nil)) a_nil))))) (t_or1 (t_not (t_tru (e_fnN (ok_law_same T 6) (hr.mono (by decide)) T.g_law_same T.F_law_same.kp T.b_law_same tk (a_cons (e_fnN (ok_read_deed T) (hr.mono (by decide)) T.g_read_deed T.F_read_deed.kp T.b_read_deed tk (a_cons (e_fnN (ok_law_told T) (hr.mono (by decide)) T.g_law_told T.F_law_told.kp T.b_law_told tk (a_cons (e_var 5) a_nil)) a_nil)) (a_cons (e_var 5) a_nil)))))))) (s_one (s_ret e_bl)) s_nil) (s_cons (s_set sc_law.nd (e_fnN (ok_law_told T) (hr.mono (by decide)) T.g_law_told T.F_law_told.kp T.b_law_told tk (a_cons (e_var 6) a_nil))) (s_one (s_if (PW.pt (t_or (t_not (t_tru (e_fnN (ok_law_same T 6) (hr.mono (by decide)) T.g_law_same T.F_law_same.kp T.b_law_same tk (a_cons (e_fnN (ok_letter_text T) (hr.mono (by decide)) T.g_letter_text T.F_letter_text.kp T.b_letter_text tk (a_cons (e_var 6) a_nil)) (a_cons (e_var 9) a_nil))))) (t_or1 (t_not (t_tru (e_fnN (ok_law_same T 6) (hr.mono (by decide)) T.g_law_same T.F_law_same.kp T.b_law_same tk (a_cons (e_fnN (ok_read_letter T) (hr.mono (by decide)) T.g_read_letter T.F_read_letter.kp T.b_read_letter tk (a_cons (e_var 9) a_nil)) (a_cons (e_var 6) a_nil)))))))) (s_one (s_ret e_bl)) s_nil))))) (s_cons (s_par2 sc_law.nd (a_cons (e_fnN (ok_law_spoilt T) (hr.mono (by decide)) T.g_law_spoilt T.F_law_spoilt.kp T.b_law_spoilt tk (a_cons (e_var 3) (a_cons (e_var 5) a_nil))) (a_cons (e_fnN (ok_law_spoilt T) (hr.mono (by decide)) T.g_law_spoilt T.F_law_spoilt.kp T.b_law_spoilt tk (a_cons (e_var 3) (a_cons (e_var 6) a_nil))) a_nil))) (s_cons (s_set sc_law.nd (e_if (t_tru (e_fnN (ok_law_is_deed T) (hr.mono (by decide)) T.g_law_is_deed T.F_law_is_deed.kp T.b_law_is_deed tk (a_cons (e_var 2) a_nil))) (e_fnN (ok_law_told T) (hr.mono (by decide)) T.g_law_told T.F_law_told.kp T.b_law_told tk (a_cons (e_var 2) a_nil)) (e_lst (a_cons e_str (a_cons e_int a_nil))))) (s_cons (s_if (t_cmp (op_neW hr.units) rb_ne (e_fnN (ok_law_met T) (hr.mono (by decide)) T.g_law_met T.F_law_met.kp T.b_law_met tk (a_cons (e_gl rfl T.g_deed_text) (a_cons (e_var 2) a_nil))) (e_var 8) (nomark _)) (s_one (s_ret e_bl)) s_nil) (s_cons (s_set sc_law.nd (e_if (t_tru (e_fnN (ok_law_is_letter T) (hr.mono (by decide)) T.g_law_is_letter T.F_law_is_letter.kp T.b_law_is_letter tk (a_cons (e_var 10) a_nil))) (e_fnN (ok_law_told T) (hr.mono (by decide)) T.g_law_told T.F_law_told.kp T.b_law_told tk (a_cons (e_var 10) a_nil)) (e_lst (a_cons e_str a_nil)))) (s_one (s_if (t_cmp (op_neW hr.units) rb_ne (e_fnN (ok_law_met T) (hr.mono (by decide)) T.g_law_met T.F_law_met.kp T.b_law_met tk (a_cons (e_gl rfl T.g_letter_text) (a_cons (e_var 10) a_nil))) (e_var 8) (nomark _)) (s_one (s_ret e_bl)) s_nil))))))))))))) (s_cons (s_for hp (i_seq (e_lst (a_cons e_non (a_cons e_int (a_cons e_str (a_cons (e_tup a_nil) (a_cons (e_lst (a_cons e_str (a_cons e_int a_nil))) (a_cons e_dict0 (a_cons (e_tup (a_cons e_str a_nil)) (a_cons (e_tup (a_cons e_int (a_cons e_int a_nil))) (a_cons (e_tup (a_cons e_non (a_cons e_int a_nil))) a_nil))))))))))) (g_name sc_law.nd) (s_one (s_if (PW.pt (t_or (t_cmp (op_neW hr.units) rb_ne (e_fnN (ok_law_met T) (hr.mono (by decide)) T.g_law_met T.F_law_met.kp T.b_law_met tk (a_cons (e_gl rfl T.g_deed_text) (a_cons (e_var 2) a_nil))) (e_lst (a_cons e_str (a_cons e_int a_nil))) (nomark _)) (t_or1 (t_cmp (op_neW hr.units) rb_ne (e_fnN (ok_law_met T) (hr.mono (by decide)) T.g_law_met T.F_law_met.kp T.b_law_met tk (a_cons (e_gl rfl T.g_letter_text) (a_cons (e_var 2) a_nil))) (e_lst (a_cons e_str a_nil)) (nomark _))))) (s_one (s_ret e_bl)) s_nil))) (s_one (s_ret e_bl)))))
theorem ok_law_fd (T : Tx P w K mg base) {fd : FuncData} (F : FunD K "law" "law" (defArgs s_law) (defBody s_law) (defScope s_law) [] [] (He.ga K "law") fd) : FnW P w K mg base 8 (He.ga K "law") fd ["script"] f_law := ok_law { T with fd_law := fd, F_law := F, b_law := FunD.bindsN F fun _ _ _ _ _ _ us hl => match us, hl with | [_], _ => rfl }
end
theorem clsSub : ∀ x ∈ clsL, x ∈ gloL := by decide +kernel
def chk (K : PySem.W.Frag) : Bool := gloB K gloL && (freeB K freeL && ((excL.all fun x => (He.Fa.exc x).ok K) && (isiB K clsL "WalkError" && (exmB K clsL "WalkError" && (xfsB K "NoDeed" "number" && (winitB K (He.ga K "WalkError") && (oexB K (He.ga K "NoDeed") && (initB K "NoDeed" && (ktB K "FORMS" kv_FORMS && (ktB K "RESTS" kv_RESTS && ((gloB K ["BLANK"] && He.tupB K "BLANK" [.int 0, .int 0, .int 0, .int 0, .int 0, .int 0, .int 0, .int 0]) && ((He.Fa.str "BLANK_TEXT" "-").ok K && ((He.Fa.str "FIGURES" "0123456789").ok K && ((He.Fa.int "LAST_ADDRESS" 511).ok K && ((He.Fa.int "MOST" 65535).ok K && ((He.Fa.int "MOST_FIGURES" 40).ok K && ((He.Fa.int "MOST_MOVE" 1000000).ok K && ((He.Fa.int "MOST_NUMBER" 4095).ok K && ((He.Fa.int "MOST_PAGES" 16).ok K && ((He.Fa.int "PLACES" 8).ok K && ((He.Fa.str "SIGNS" "0123456789abcdef").ok K)))))))))))))))))))))
def dl : List He.DefD := [⟨("is_within", none), "is_within", "is_within", defArgs s_is_within, defBody s_is_within, defScope s_is_within, [], []⟩, ⟨("is_count", none), "is_count", "is_count", defArgs s_is_count, defBody s_is_count, defScope s_is_count, [], []⟩, ⟨("is_row", none), "is_row", "is_row", defArgs s_is_row, defBody s_is_row, defScope s_is_row, [], []⟩, ⟨("is_bare_rest", none), "is_bare_rest", "is_bare_rest", defArgs s_is_bare_rest, defBody s_is_bare_rest, defScope s_is_bare_rest, [], []⟩, ⟨("hexed", none), "hexed", "hexed", defArgs s_hexed, defBody s_hexed, defScope s_hexed, [], []⟩, ⟨("rowed", none), "rowed", "rowed", defArgs s_rowed, defBody s_rowed, defScope s_rowed, [], []⟩, ⟨("number_in", none), "number_in", "number_in", defArgs s_number_in, defBody s_number_in, defScope s_number_in, [], []⟩, ⟨("cell_in", none), "cell_in", "cell_in", defArgs s_cell_in, defBody s_cell_in, defScope s_cell_in, [], []⟩, ⟨("words_in", none), "words_in", "words_in", defArgs s_words_in, defBody s_words_in, defScope s_words_in, [], []⟩, ⟨("_law_pot", none), "_law_pot", "_law_pot", defArgs s_law_pot, defBody s_law_pot, defScope s_law_pot, [], []⟩, ⟨("_law_take", none), "_law_take", "_law_take", defArgs s_law_take, defBody s_law_take, defScope s_law_take, [], []⟩, ⟨("_law_by_sixteen", none), "_law_by_sixteen", "_law_by_sixteen", defArgs s_law_by_sixteen, defBody s_law_by_sixteen, defScope s_law_by_sixteen, [], []⟩, ⟨("_law_is_from", none), "_law_is_from", "_law_is_from", defArgs s_law_is_from, defBody s_law_is_from, defScope s_law_is_from, [], []⟩, ⟨("is_cell", none), "is_cell", "is_cell", defArgs s_is_cell, defBody s_is_cell, defScope s_is_cell, [], []⟩, ⟨("is_number", none), "is_number", "is_number", defArgs s_is_number, defBody s_is_number, defScope s_is_number, [], []⟩, ⟨("is_address", none), "is_address", "is_address", defArgs s_is_address, defBody s_is_address, defScope s_is_address, [], []⟩, ⟨("is_move", none), "is_move", "is_move", defArgs s_is_move, defBody s_is_move, defScope s_is_move, [], []⟩, ⟨("is_page_number", none), "is_page_number", "is_page_number", defArgs s_is_page_number, defBody s_is_page_number, defScope s_is_page_number, [], []⟩, ⟨("is_last_rest", none), "is_last_rest", "is_last_rest", defArgs s_is_last_rest, defBody s_is_last_rest, defScope s_is_last_rest, [], []⟩, ⟨("numbers_in", none), "numbers_in", "numbers_in", defArgs s_numbers_in, defBody s_numbers_in, defScope s_numbers_in, [], []⟩, ⟨("page_in", none), "page_in", "page_in", defArgs s_page_in, defBody s_page_in, defScope s_page_in, [], []⟩, ⟨("_law_entry", none), "_law_entry", "_law_entry", defArgs s_law_entry, defBody s_law_entry, defScope s_law_entry, [], []⟩, ⟨("_law_root", none), "_law_root", "_law_root", defArgs s_law_root, defBody s_law_root, defScope s_law_root, [], []⟩, ⟨("_law_address", none), "_law_address", "_law_address", defArgs s_law_address, defBody s_law_address, defScope s_law_address, [], []⟩, ⟨("_law_written", none), "_law_written", "_law_written", defArgs s_law_written, defBody s_law_written, defScope s_law_written, [], []⟩, ⟨("_law_count", none), "_law_count", "_law_count", defArgs s_law_count, defBody s_law_count, defScope s_law_count, [], []⟩, ⟨("_law_is_deed", none), "_law_is_deed", "_law_is_deed", defArgs s_law_is_deed, defBody s_law_is_deed, defScope s_law_is_deed, [], []⟩, ⟨("_law_is_page", none), "_law_is_page", "_law_is_page", defArgs s_law_is_page, defBody s_law_is_page, defScope s_law_is_page, [], []⟩, ⟨("_law_is_row", none), "_law_is_row", "_law_is_row", defArgs s_law_is_row, defBody s_law_is_row, defScope s_law_is_row, [], []⟩, ⟨("_law_spoilt", none), "_law_spoilt", "_law_spoilt", defArgs s_law_spoilt, defBody s_law_spoilt, defScope s_law_spoilt, [], []⟩, ⟨("is_page", none), "is_page", "is_page", defArgs s_is_page, defBody s_is_page, defScope s_is_page, [], []⟩, ⟨("is_load", none), "is_load", "is_load", defArgs s_is_load, defBody s_is_load, defScope s_is_load, [], []⟩, ⟨("is_store", none), "is_store", "is_store", defArgs s_is_store, defBody s_is_store, defScope s_is_store, [], []⟩, ⟨("is_numbered", none), "is_numbered", "is_numbered", defArgs s_is_numbered, defBody s_is_numbered, defScope s_is_numbered, [], []⟩, ⟨("is_lack_rest", none), "is_lack_rest", "is_lack_rest", defArgs s_is_lack_rest, defBody s_is_lack_rest, defScope s_is_lack_rest, [], []⟩, ⟨("letter_in", none), "letter_in", "letter_in", defArgs s_letter_in, defBody s_letter_in, defScope s_letter_in, [], []⟩, ⟨("_law_page", none), "_law_page", "_law_page", defArgs s_law_page, defBody s_law_page, defScope s_law_page, [], []⟩, ⟨("_law_deed", none), "_law_deed", "_law_deed", defArgs s_law_deed, defBody s_law_deed, defScope s_law_deed, [], []⟩, ⟨("_law_told", none), "_law_told", "_law_told", defArgs s_law_told, defBody s_law_told, defScope s_law_told, [], []⟩, ⟨("_law_is_letter", none), "_law_is_letter", "_law_is_letter", defArgs s_law_is_letter, defBody s_law_is_letter, defScope s_law_is_letter, [], []⟩, ⟨("is_deed", none), "is_deed", "is_deed", defArgs s_is_deed, defBody s_is_deed, defScope s_is_deed, [], []⟩, ⟨("is_page_rest", none), "is_page_rest", "is_page_rest", defArgs s_is_page_rest, defBody s_is_page_rest, defScope s_is_page_rest, [], []⟩, ⟨("page_text", none), "page_text", "page_text", defArgs s_page_text, defBody s_page_text, defScope s_page_text, [], []⟩, ⟨("_law_letter", none), "_law_letter", "_law_letter", defArgs s_law_letter, defBody s_law_letter, defScope s_law_letter, [], []⟩, ⟨("is_letter", none), "is_letter", "is_letter", defArgs s_is_letter, defBody s_is_letter, defScope s_is_letter, [], []⟩, ⟨("deed_text", none), "deed_text", "deed_text", defArgs s_deed_text, defBody s_deed_text, defScope s_deed_text, [], []⟩, ⟨("letter_text", none), "letter_text", "letter_text", defArgs s_letter_text, defBody s_letter_text, defScope s_letter_text, [], []⟩, ⟨("read_deed", none), "read_deed", "read_deed", defArgs s_read_deed, defBody s_read_deed, defScope s_read_deed, [], []⟩, ⟨("read_letter", none), "read_letter", "read_letter", defArgs s_read_letter, defBody s_read_letter, defScope s_read_letter, [], []⟩, ⟨("_law_same", none), "_law_same", "_law_same", defArgs s_law_same, defBody s_law_same, defScope s_law_same, [], []⟩, ⟨("_law_met", none), "_law_met", "_law_met", defArgs s_law_met, defBody s_law_met, defScope s_law_met, [], []⟩, ⟨("law", none), "law", "law", defArgs s_law, defBody s_law, defScope s_law, [], []⟩, ⟨("NoDeed", some "__init__"), "__init__", "NoDeed.__init__", defArgs s_i_NoDeed, defBody s_i_NoDeed, defScope s_i_NoDeed, [], []⟩]
theorem tx_of {P : Program} {w : World} {K : PySem.W.Frag} {h : Heap} {mg : Str → Option Value} {base : Heap} (X : K.In h) (G : h.Ns mainGlobals mg) (s : SaysC chk dl tabL w K) : Nonempty (Tx P w K mg base) := by
  obtain ⟨fd0, F0⟩ := s.b.def_ 0 rfl
  obtain ⟨fd1, F1⟩ := s.b.def_ 1 rfl
  obtain ⟨fd2, F2⟩ := s.b.def_ 2 rfl
  obtain ⟨fd3, F3⟩ := s.b.def_ 3 rfl
  obtain ⟨fd4, F4⟩ := s.b.def_ 4 rfl
  obtain ⟨fd5, F5⟩ := s.b.def_ 5 rfl
  obtain ⟨fd6, F6⟩ := s.b.def_ 6 rfl
  obtain ⟨fd7, F7⟩ := s.b.def_ 7 rfl
  obtain ⟨fd8, F8⟩ := s.b.def_ 8 rfl
  obtain ⟨fd9, F9⟩ := s.b.def_ 9 rfl
  obtain ⟨fd10, F10⟩ := s.b.def_ 10 rfl
  obtain ⟨fd11, F11⟩ := s.b.def_ 11 rfl
  obtain ⟨fd12, F12⟩ := s.b.def_ 12 rfl
  obtain ⟨fd13, F13⟩ := s.b.def_ 13 rfl
  obtain ⟨fd14, F14⟩ := s.b.def_ 14 rfl
  obtain ⟨fd15, F15⟩ := s.b.def_ 15 rfl
  obtain ⟨fd16, F16⟩ := s.b.def_ 16 rfl
  obtain ⟨fd17, F17⟩ := s.b.def_ 17 rfl
  obtain ⟨fd18, F18⟩ := s.b.def_ 18 rfl
  obtain ⟨fd19, F19⟩ := s.b.def_ 19 rfl
  obtain ⟨fd20, F20⟩ := s.b.def_ 20 rfl
  obtain ⟨fd21, F21⟩ := s.b.def_ 21 rfl
  obtain ⟨fd22, F22⟩ := s.b.def_ 22 rfl
  obtain ⟨fd23, F23⟩ := s.b.def_ 23 rfl
  obtain ⟨fd24, F24⟩ := s.b.def_ 24 rfl
  obtain ⟨fd25, F25⟩ := s.b.def_ 25 rfl
  obtain ⟨fd26, F26⟩ := s.b.def_ 26 rfl
  obtain ⟨fd27, F27⟩ := s.b.def_ 27 rfl
  obtain ⟨fd28, F28⟩ := s.b.def_ 28 rfl
  obtain ⟨fd29, F29⟩ := s.b.def_ 29 rfl
  obtain ⟨fd30, F30⟩ := s.b.def_ 30 rfl
  obtain ⟨fd31, F31⟩ := s.b.def_ 31 rfl
  obtain ⟨fd32, F32⟩ := s.b.def_ 32 rfl
  obtain ⟨fd33, F33⟩ := s.b.def_ 33 rfl
  obtain ⟨fd34, F34⟩ := s.b.def_ 34 rfl
  obtain ⟨fd35, F35⟩ := s.b.def_ 35 rfl
  obtain ⟨fd36, F36⟩ := s.b.def_ 36 rfl
  obtain ⟨fd37, F37⟩ := s.b.def_ 37 rfl
  obtain ⟨fd38, F38⟩ := s.b.def_ 38 rfl
  obtain ⟨fd39, F39⟩ := s.b.def_ 39 rfl
  obtain ⟨fd40, F40⟩ := s.b.def_ 40 rfl
  obtain ⟨fd41, F41⟩ := s.b.def_ 41 rfl
  obtain ⟨fd42, F42⟩ := s.b.def_ 42 rfl
  obtain ⟨fd43, F43⟩ := s.b.def_ 43 rfl
  obtain ⟨fd44, F44⟩ := s.b.def_ 44 rfl
  obtain ⟨fd45, F45⟩ := s.b.def_ 45 rfl
  obtain ⟨fd46, F46⟩ := s.b.def_ 46 rfl
  obtain ⟨fd47, F47⟩ := s.b.def_ 47 rfl
  obtain ⟨fd48, F48⟩ := s.b.def_ 48 rfl
  obtain ⟨fd49, F49⟩ := s.b.def_ 49 rfl
  obtain ⟨fd50, F50⟩ := s.b.def_ 50 rfl
  obtain ⟨fd51, F51⟩ := s.b.def_ 51 rfl
  obtain ⟨fd52, F52⟩ := s.b.def_ 52 rfl
  obtain ⟨c0, r0⟩ := He.ba s.b.checked
  obtain ⟨c1, r1⟩ := He.ba r0
  obtain ⟨c2, r2⟩ := He.ba r1
  obtain ⟨c3, r3⟩ := He.ba r2
  obtain ⟨c4, r4⟩ := He.ba r3
  obtain ⟨c5, r5⟩ := He.ba r4
  obtain ⟨c6, r6⟩ := He.ba r5
  obtain ⟨c7, r7⟩ := He.ba r6
  obtain ⟨c8, r8⟩ := He.ba r7
  obtain ⟨c9, r9⟩ := He.ba r8
  obtain ⟨c10, r10⟩ := He.ba r9
  obtain ⟨c11, r11⟩ := He.ba r10
  obtain ⟨c12, r12⟩ := He.ba r11
  obtain ⟨c13, r13⟩ := He.ba r12
  obtain ⟨c14, r14⟩ := He.ba r13
  obtain ⟨c15, r15⟩ := He.ba r14
  obtain ⟨c16, r16⟩ := He.ba r15
  obtain ⟨c17, r17⟩ := He.ba r16
  obtain ⟨c18, r18⟩ := He.ba r17
  obtain ⟨c19, r19⟩ := He.ba r18
  obtain ⟨c20, r20⟩ := He.ba r19
  have c21 := r20
  have g : ∀ x, x ∈ gloL → mg x = some (.ref (He.ga K x)) := fun x hx => gloB_ok X G c0 hx
  have n : ∀ x, x ∈ freeL → mg x = none := fun x hx => freeB_ok X G c1 hx
  exact ⟨⟨fd0,
    F0,
    g _ (by decide +kernel),
    FunD.bindsN F0 fun _ _ _ _ _ _ us hl => match us, hl with | [_, _, _], _ => rfl,
    fd1,
    F1,
    g _ (by decide +kernel),
    FunD.bindsN F1 fun _ _ _ _ _ _ us hl => match us, hl with | [_], _ => rfl,
    fd2,
    F2,
    g _ (by decide +kernel),
    FunD.bindsN F2 fun _ _ _ _ _ _ us hl => match us, hl with | [_], _ => rfl,
    fd3,
    F3,
    g _ (by decide +kernel),
    FunD.bindsN F3 fun _ _ _ _ _ _ us hl => match us, hl with | [_], _ => rfl,
    fd4,
    F4,
    g _ (by decide +kernel),
    FunD.bindsN F4 fun _ _ _ _ _ _ us hl => match us, hl with | [_], _ => rfl,
    fd5,
    F5,
    g _ (by decide +kernel),
    FunD.bindsN F5 fun _ _ _ _ _ _ us hl => match us, hl with | [_], _ => rfl,
    fd6,
    F6,
    g _ (by decide +kernel),
    FunD.bindsN F6 fun _ _ _ _ _ _ us hl => match us, hl with | [_], _ => rfl,
    fd7,
    F7,
    g _ (by decide +kernel),
    FunD.bindsN F7 fun _ _ _ _ _ _ us hl => match us, hl with | [_], _ => rfl,
    fd8,
    F8,
    g _ (by decide +kernel),
    FunD.bindsN F8 fun _ _ _ _ _ _ us hl => match us, hl with | [_], _ => rfl,
    fd9,
    F9,
    g _ (by decide +kernel),
    FunD.bindsN F9 fun _ _ _ _ _ _ us hl => match us, hl with | [_, _], _ => rfl,
    fd10,
    F10,
    g _ (by decide +kernel),
    FunD.bindsN F10 fun _ _ _ _ _ _ us hl => match us, hl with | [_, _], _ => rfl,
    fd11,
    F11,
    g _ (by decide +kernel),
    FunD.bindsN F11 fun _ _ _ _ _ _ us hl => match us, hl with | [_], _ => rfl,
    fd12,
    F12,
    g _ (by decide +kernel),
    FunD.bindsN F12 fun _ _ _ _ _ _ us hl => match us, hl with | [_, _, _], _ => rfl,
    fd13,
    F13,
    g _ (by decide +kernel),
    FunD.bindsN F13 fun _ _ _ _ _ _ us hl => match us, hl with | [_], _ => rfl,
    fd14,
    F14,
    g _ (by decide +kernel),
    FunD.bindsN F14 fun _ _ _ _ _ _ us hl => match us, hl with | [_], _ => rfl,
    fd15,
    F15,
    g _ (by decide +kernel),
    FunD.bindsN F15 fun _ _ _ _ _ _ us hl => match us, hl with | [_], _ => rfl,
    fd16,
    F16,
    g _ (by decide +kernel),
    FunD.bindsN F16 fun _ _ _ _ _ _ us hl => match us, hl with | [_], _ => rfl,
    fd17,
    F17,
    g _ (by decide +kernel),
    FunD.bindsN F17 fun _ _ _ _ _ _ us hl => match us, hl with | [_], _ => rfl,
    fd18,
    F18,
    g _ (by decide +kernel),
    FunD.bindsN F18 fun _ _ _ _ _ _ us hl => match us, hl with | [_], _ => rfl,
    fd19,
    F19,
    g _ (by decide +kernel),
    FunD.bindsN F19 fun _ _ _ _ _ _ us hl => match us, hl with | [_], _ => rfl,
    fd20,
    F20,
    g _ (by decide +kernel),
    FunD.bindsN F20 fun _ _ _ _ _ _ us hl => match us, hl with | [_], _ => rfl,
    fd21,
    F21,
    g _ (by decide +kernel),
    FunD.bindsN F21 fun _ _ _ _ _ _ us hl => match us, hl with | [_, _], _ => rfl,
    fd22,
    F22,
    g _ (by decide +kernel),
    FunD.bindsN F22 fun _ _ _ _ _ _ us hl => match us, hl with | [_, _], _ => rfl,
    fd23,
    F23,
    g _ (by decide +kernel),
    FunD.bindsN F23 fun _ _ _ _ _ _ us hl => match us, hl with | [_], _ => rfl,
    fd24,
    F24,
    g _ (by decide +kernel),
    FunD.bindsN F24 fun _ _ _ _ _ _ us hl => match us, hl with | [_], _ => rfl,
    fd25,
    F25,
    g _ (by decide +kernel),
    FunD.bindsN F25 fun _ _ _ _ _ _ us hl => match us, hl with | [_], _ => rfl,
    fd26,
    F26,
    g _ (by decide +kernel),
    FunD.bindsN F26 fun _ _ _ _ _ _ us hl => match us, hl with | [_], _ => rfl,
    fd27,
    F27,
    g _ (by decide +kernel),
    FunD.bindsN F27 fun _ _ _ _ _ _ us hl => match us, hl with | [_], _ => rfl,
    fd28,
    F28,
    g _ (by decide +kernel),
    FunD.bindsN F28 fun _ _ _ _ _ _ us hl => match us, hl with | [_, _, _], _ => rfl,
    fd29,
    F29,
    g _ (by decide +kernel),
    FunD.bindsN F29 fun _ _ _ _ _ _ us hl => match us, hl with | [_, _], _ => rfl,
    fd30,
    F30,
    g _ (by decide +kernel),
    FunD.bindsN F30 fun _ _ _ _ _ _ us hl => match us, hl with | [_], _ => rfl,
    fd31,
    F31,
    g _ (by decide +kernel),
    FunD.bindsN F31 fun _ _ _ _ _ _ us hl => match us, hl with | [_], _ => rfl,
    fd32,
    F32,
    g _ (by decide +kernel),
    FunD.bindsN F32 fun _ _ _ _ _ _ us hl => match us, hl with | [_], _ => rfl,
    fd33,
    F33,
    g _ (by decide +kernel),
    FunD.bindsN F33 fun _ _ _ _ _ _ us hl => match us, hl with | [_], _ => rfl,
    fd34,
    F34,
    g _ (by decide +kernel),
    FunD.bindsN F34 fun _ _ _ _ _ _ us hl => match us, hl with | [_], _ => rfl,
    fd35,
    F35,
    g _ (by decide +kernel),
    FunD.bindsN F35 fun _ _ _ _ _ _ us hl => match us, hl with | [_, _], _ => rfl,
    fd36,
    F36,
    g _ (by decide +kernel),
    FunD.bindsN F36 fun _ _ _ _ _ _ us hl => match us, hl with | [_, _], _ => rfl,
    fd37,
    F37,
    g _ (by decide +kernel),
    FunD.bindsN F37 fun _ _ _ _ _ _ us hl => match us, hl with | [_, _], _ => rfl,
    fd38,
    F38,
    g _ (by decide +kernel),
    FunD.bindsN F38 fun _ _ _ _ _ _ us hl => match us, hl with | [_], _ => rfl,
    fd39,
    F39,
    g _ (by decide +kernel),
    FunD.bindsN F39 fun _ _ _ _ _ _ us hl => match us, hl with | [_], _ => rfl,
    fd40,
    F40,
    g _ (by decide +kernel),
    FunD.bindsN F40 fun _ _ _ _ _ _ us hl => match us, hl with | [_], _ => rfl,
    fd41,
    F41,
    g _ (by decide +kernel),
    FunD.bindsN F41 fun _ _ _ _ _ _ us hl => match us, hl with | [_], _ => rfl,
    fd42,
    F42,
    g _ (by decide +kernel),
    FunD.bindsN F42 fun _ _ _ _ _ _ us hl => match us, hl with | [_], _ => rfl,
    fd43,
    F43,
    g _ (by decide +kernel),
    FunD.bindsN F43 fun _ _ _ _ _ _ us hl => match us, hl with | [_, _], _ => rfl,
    fd44,
    F44,
    g _ (by decide +kernel),
    FunD.bindsN F44 fun _ _ _ _ _ _ us hl => match us, hl with | [_], _ => rfl,
    fd45,
    F45,
    g _ (by decide +kernel),
    FunD.bindsN F45 fun _ _ _ _ _ _ us hl => match us, hl with | [_], _ => rfl,
    fd46,
    F46,
    g _ (by decide +kernel),
    FunD.bindsN F46 fun _ _ _ _ _ _ us hl => match us, hl with | [_], _ => rfl,
    fd47,
    F47,
    g _ (by decide +kernel),
    FunD.bindsN F47 fun _ _ _ _ _ _ us hl => match us, hl with | [_], _ => rfl,
    fd48,
    F48,
    g _ (by decide +kernel),
    FunD.bindsN F48 fun _ _ _ _ _ _ us hl => match us, hl with | [_], _ => rfl,
    fd49,
    F49,
    g _ (by decide +kernel),
    FunD.bindsN F49 fun _ _ _ _ _ _ us hl => match us, hl with | [_, _], _ => rfl,
    fd50,
    F50,
    g _ (by decide +kernel),
    FunD.bindsN F50 fun _ _ _ _ _ _ us hl => match us, hl with | [_, _], _ => rfl,
    fd51,
    F51,
    g _ (by decide +kernel),
    FunD.bindsN F51 fun _ _ _ _ _ _ us hl => match us, hl with | [_], _ => rfl,
    fd52,
    F52,
    FunD.bindsN F52 fun _ _ _ _ _ _ us hl => match us, hl with | [_, _], _ => rfl,
    oexB_ok c7,
    initB_ok c8,
    n _ (by decide +kernel),
    n _ (by decide +kernel),
    n _ (by decide +kernel),
    n _ (by decide +kernel),
    n _ (by decide +kernel),
    n _ (by decide +kernel),
    n _ (by decide +kernel),
    n _ (by decide +kernel),
    n _ (by decide +kernel),
    n _ (by decide +kernel),
    n _ (by decide +kernel),
    n _ (by decide +kernel),
    n _ (by decide +kernel),
    n _ (by decide +kernel),
    n _ (by decide +kernel),
    n _ (by decide +kernel),
    n _ (by decide +kernel),
    g _ (by decide +kernel),
    g _ (by decide +kernel),
    g _ (by decide +kernel),
    g _ (by decide +kernel),
    g _ (by decide +kernel),
    g _ (by decide +kernel),
    g _ (by decide +kernel),
    g _ (by decide +kernel),
    g _ (by decide +kernel),
    g _ (by decide +kernel),
    xCls_ok (g _ (by decide +kernel)) (List.all_eq_true.mp c2 _ (by decide +kernel)),
    xCls_ok (g _ (by decide +kernel)) (List.all_eq_true.mp c2 _ (by decide +kernel)),
    xCls_ok (g _ (by decide +kernel)) (List.all_eq_true.mp c2 _ (by decide +kernel)),
    isiB_ok (fun x hx => g x (clsSub x hx)) c3,
    exmB_ok (fun x hx => g x (clsSub x hx)) (g _ (by decide +kernel)) c4,
    xfsB_ok (g _ (by decide +kernel)) c5,
    winitB_ok c6,
    g _ (by decide +kernel),
    ktab_ok X G c9 (s.tab 0) (by
    intro p hp
    simp only [kd_FORMS, List.mem_cons, List.not_mem_nil, or_false] at hp
    rcases hp with rfl | rfl | rfl | rfl
    · exact ⟨.glo "is_load", by simp [kv_FORMS], fun r H => .gl (g _ (by decide +kernel))⟩
    · exact ⟨.glo "is_store", by simp [kv_FORMS], fun r H => .gl (g _ (by decide +kernel))⟩
    · exact ⟨.glo "is_numbered", by simp [kv_FORMS], fun r H => .gl (g _ (by decide +kernel))⟩
    · exact ⟨.glo "is_numbered", by simp [kv_FORMS], fun r H => .gl (g _ (by decide +kernel))⟩),
    g _ (by decide +kernel),
    ktab_ok X G c10 (s.tab 1) (by
    intro p hp
    simp only [kd_RESTS, List.mem_cons, List.not_mem_nil, or_false] at hp
    rcases hp with rfl | rfl | rfl | rfl | rfl | rfl | rfl
    · exact ⟨.glo "is_page_rest", by simp [kv_RESTS], fun r H => .gl (g _ (by decide +kernel))⟩
    · exact ⟨.glo "is_last_rest", by simp [kv_RESTS], fun r H => .gl (g _ (by decide +kernel))⟩
    · exact ⟨.glo "is_lack_rest", by simp [kv_RESTS], fun r H => .gl (g _ (by decide +kernel))⟩
    · exact ⟨.glo "is_bare_rest", by simp [kv_RESTS], fun r H => .gl (g _ (by decide +kernel))⟩
    · exact ⟨.glo "is_bare_rest", by simp [kv_RESTS], fun r H => .gl (g _ (by decide +kernel))⟩
    · exact ⟨.glo "is_bare_rest", by simp [kv_RESTS], fun r H => .gl (g _ (by decide +kernel))⟩
    · exact ⟨.glo "is_bare_rest", by simp [kv_RESTS], fun r H => .gl (g _ (by decide +kernel))⟩),
    ⟨gloB_ok X G (He.ba c11).1 (List.mem_singleton.mpr rfl), fun H => He.tupB_ok (He.ba c11).2 H, fun r H => (.cons (.int _) (.cons (.int _) (.cons (.int _) (.cons (.int _) (.cons (.int _) (.cons (.int _) (.cons (.int _) (.cons (.int _) .nil))))))))⟩,
    He.str_ok X G c12,
    He.str_ok X G c13,
    He.int_ok X G c14,
    He.int_ok X G c15,
    He.int_ok X G c16,
    He.int_ok X G c17,
    He.int_ok X G c18,
    He.int_ok X G c19,
    He.int_ok X G c20,
    He.str_ok X G c21⟩⟩
def looseL : List Str := (["WalkError", "NoCell", "NoPages", "NoAddress", "NoRoot", "NoPage", "NoLetter", "NoText", "NoLine", "NoDeed", "PLACES", "MOST", "MOST_PAGES", "MOST_NUMBER", "LAST_ADDRESS", "BLANK", "is_within", "is_cell", "is_page", "is_number", "is_address", "is_load", "is_store", "is_numbered"] : List Str) ++ (["FORMS", "is_deed", "MOST_MOVE", "is_move", "is_count", "is_page_number", "is_row", "is_page_rest", "is_last_rest", "is_lack_rest", "is_bare_rest", "RESTS", "is_letter", "FIGURES", "SIGNS", "MOST_FIGURES", "BLANK_TEXT", "hexed", "rowed", "page_text", "deed_text", "letter_text", "number_in", "cell_in"] : List Str) ++ (["numbers_in", "page_in", "words_in", "read_deed", "letter_in", "read_letter", "_law_pot", "_law_take", "_law_entry", "_law_page", "_law_root", "_law_address", "_law_deed", "_law_by_sixteen", "_law_written", "_law_same", "_law_count", "_law_letter", "_law_told", "_law_is_from", "_law_is_deed", "_law_is_page", "_law_is_row", "_law_is_letter"] : List Str) ++ (["_law_spoilt", "_law_met"] : List Str)
abbrev R : PySem.W.OpenRow := PySem.W.OpenLaw.row PySem.Challenge.rw_lodgewalk_k79_deeds_and_letters_written
abbrev hk : PySem.W.Hook := hookC 5 chk dl tabL
def ob (s : PySem.W.SharedT) : He.AlT := obsCG 5 chk dl tabL (HandSHeadRun.getT s)
theorem ob_eq (s : PySem.W.SharedT) : ob s = hk.obs s.abs := obsCG_eq (HandSHeadRun.getT_eq s)
end Lw

namespace Lw
open PySem PySem.Spec PyProof.Rows L2 Sw
set_option maxHeartbeats 0
theorem runF (w : World) : HandSHeadRun.RunEq R (PySem.W.view R.prog [80]) hk ob 14000 looseL (w.withFollow "special-get-raises" false) := by
  intro os
  kernel_rfl
theorem runT (w : World) : HandSHeadRun.RunEq R (PySem.W.view R.prog [80]) hk ob 14000 looseL (w.withFollow "special-get-raises" true) := by
  intro os
  kernel_rfl
theorem run (w : World) : HandSHeadRun.RunEq R (PySem.W.view R.prog [80]) hk ob 14000 looseL w := PySem.W.byRow2 "special-get-raises" (P := fun w => HandSHeadRun.RunEq R (PySem.W.view R.prog [80]) hk ob 14000 looseL w) runF runT w
end Lw

namespace Lw
open PySem PySem.Spec PyProof.Rows L2 Sw
def LawOk : Prop := ∀ l : List Int, l.length ≤ 63 → ∃ st, f_law [.rol (l.map W.int)] [] = .ok (.bl true) st
theorem fin_ok (LO : LawOk) {P : Program} {w : World} {K : PySem.W.Frag} {h : Heap} {mg : Str → Option Value} {fa : Addr} (KX : K.In h) (G : h.Ns mainGlobals mg) (c : SaysC chk dl tabL w K) (hmg : mg ("law" : Str) = some (.ref fa)) :
    ∃ (K : PySem.W.Frag) (fd : FuncData) (sp : Sp), K.In h ∧ (∀ (s : Shared) (u : Value), BindsTo s fd ⟨[u], []⟩ [("script", u)]) ∧
        (∀ (H : Hp) (a : Addr) (ns : List Int), ns.length ≤ 63 → Only H → SqL K H a (ns.map V.int) → sp [.ref a] H (fun v _ => v = .bl true) fun _ _ _ => False) ∧
        ∀ base : Heap, K.In base → base.Ns mainGlobals mg → FnOk P w K mg base (L2.CX P w) 8 fa fd ["script"] sp := by
  obtain ⟨fd, F⟩ := c.b.def_ 51 rfl
  have ga : mg ("law" : Str) = some (.ref (He.ga K "law")) := gloB_ok KX G (He.ba c.b.checked).1 (by decide +kernel)
  have e := hmg.symm.trans ga
  cases e
  have b := FunD.bindsA (ps := ["script"]) F fun _ _ _ _ _ _ us hl => match us, hl with | [_], _ => rfl
  refine ⟨K, fd, spF ⟨K, mg⟩ 1 f_law, KX, fun s u => b s [u] rfl, fun H a ns hl hO hS => sp_law hO hS (LO ns hl), fun base _ _ => ?_⟩
  obtain ⟨T⟩ := tx_of (P := P) (w := w) (base := base) KX G c
  exact ok_law_fd T F
end Lw
section
open PySem PySem.W PySem.Calls PyProof.Rows
set_option maxHeartbeats 0 in
theorem Lw.close_law (LO : Lw.LawOk) : PySem.Challenge.rw_lodgewalk_k79_deeds_and_letters_written.Holds := by
  w_on; o_law
  refine HandSHeadRun.head_any (r := Lw.R) (q := view Lw.R.prog [80]) (H := Lw.hk) (ob := Lw.ob) (M := 14000) (loose := Lw.looseL) (d := HandSHeadRun.topDef Lw.R.prog 80) (kwd := []) Lw.ob_eq
    (by kernel_rfl) (fun s => by kernel_rfl) Lw.run (by kernel_rfl) (by kernel_rfl) (by kernel_rfl) (by rfl) (by first | assumption | decide +kernel) (by decide +kernel) ⟨rfl, rfl, rfl, rfl, rfl, by decide +kernel⟩ ?hw ?hc
  case hw => w_witness2
  case hc =>
    refine Sw.walk_ofW (l := PySem.Challenge.rw_lodgewalk_k79_deeds_and_letters_written) (n := 63) (k := 8) (x := "script") rfl (by decide) (by kernel_rfl) ⟨rfl, by decide, by decide⟩ ?F
    intro w mg fa h Y G hmg0
    obtain ⟨K, KX, c⟩ := Y
    have hmg : mg ("law" : PySem.Str) = some (.ref fa) := by
      have e : (HandSHeadRun.topDef Lw.R.prog 80).name = ("law" : PySem.Str) := by kernel_rfl
      rw [← e]
      exact hmg0
    exact Lw.fin_ok LO KX G c hmg
end

namespace Lw
open PySem PySem.Spec PyProof.Rows L2 Sw
/-! ### kinds -/
theorem isi_b {x : W} {st : Sto} {m n : String} (h : tgOf isiC st x = some (.b m)) (hm : m ∈ bTs) (hn : n ∈ bTs) : wIsi isiT isiC [x, .ty n] st = .ok (.bl (bIs m n)) st := by
  have e2 : isiT (.b m) (.b n) = some (bIs m n) := by
    show (if m ∈ bTs ∧ n ∈ bTs then some (bIs m n) else none) = _
    rw [if_pos ⟨hm, hn⟩]
  simp only [wIsi, h, tgT, e2]
/-- a thing whose type is a built-in one -/
def TyB (st : Sto) (x : W) : Prop := ∃ m, tgOf isiC st x = some (.b m) ∧ m ∈ bTs
theorem TyB.int {st : Sto} {i : Int} : TyB st (.int i) := ⟨"int", rfl, by decide⟩
theorem TyB.bl {st : Sto} {i : Bool} : TyB st (.bl i) := ⟨"bool", rfl, by decide⟩
theorem TyB.str {st : Sto} {i : Str} : TyB st (.str i) := ⟨"str", rfl, by decide⟩
theorem TyB.non {st : Sto} : TyB st .non := ⟨"NoneType", rfl, by decide⟩
theorem TyB.tup {st : Sto} {l : List W} : TyB st (.tup l) := ⟨"tuple", rfl, by decide⟩
theorem TyB.lst {st : Sto} {n : Nat} {l : List W} (h : st[n]? = some (.lst l)) : TyB st (.ref n) := ⟨"list", by simp only [tgOf, h], by decide⟩
theorem TyB.dct {st : Sto} {n : Nat} {l : List (Key × W)} (h : st[n]? = some (.dct l)) : TyB st (.ref n) := ⟨"dict", by simp only [tgOf, h], by decide⟩
theorem TyB.app {st g : Sto} {x : W} (h : TyB st x) : TyB (st ++ g) x := by
  obtain ⟨m, h, hm⟩ := h
  refine ⟨m, ?_, hm⟩
  cases x with
  | ref n =>
    simp only [tgOf] at h ⊢
    cases e : st[n]? with
    | none => rw [e] at h; cases h
    | some o => rw [sto_app e, ← e]; exact h
  | _ => exact h
def isInt : W → Bool
  | .int _ => true
  | _ => false
def isBl : W → Bool
  | .bl _ => true
  | _ => false
def isTup : W → Bool
  | .tup _ => true
  | _ => false
def isSt : W → Bool
  | .str _ => true
  | _ => false
theorem isi_int {st : Sto} {x : W} (h : TyB st x) : wIsi isiT isiC [x, .ty "int"] st = .ok (.bl (isInt x || isBl x)) st := by
  obtain ⟨m, h, hm⟩ := h
  rw [isi_b h hm (by decide)]
  cases x <;> first | (cases h <;> rfl) | skip
  rename_i n
  simp only [tgOf] at h
  split at h <;> first | (cases h; rfl) | (split at h <;> cases h) | cases h
theorem isi_bool {st : Sto} {x : W} (h : TyB st x) : wIsi isiT isiC [x, .ty "bool"] st = .ok (.bl (isBl x)) st := by
  obtain ⟨m, h, hm⟩ := h
  rw [isi_b h hm (by decide)]
  cases x <;> first | (cases h <;> rfl) | skip
  rename_i n
  simp only [tgOf] at h
  split at h <;> first | (cases h; rfl) | (split at h <;> cases h) | cases h
theorem isi_tup {st : Sto} {x : W} (h : TyB st x) : wIsi isiT isiC [x, .ty "tuple"] st = .ok (.bl (isTup x)) st := by
  obtain ⟨m, h, hm⟩ := h
  rw [isi_b h hm (by decide)]
  cases x <;> first | (cases h <;> rfl) | skip
  rename_i n
  simp only [tgOf] at h
  split at h <;> first | (cases h; rfl) | (split at h <;> cases h) | cases h
theorem isi_str {st : Sto} {x : W} (h : TyB st x) : wIsi isiT isiC [x, .ty "str"] st = .ok (.bl (isSt x)) st := by
  obtain ⟨m, h, hm⟩ := h
  rw [isi_b h hm (by decide)]
  cases x <;> first | (cases h <;> rfl) | skip
  rename_i n
  simp only [tgOf] at h
  split at h <;> first | (cases h; rfl) | (split at h <;> cases h) | cases h
/-! ### numbers within bounds -/
def isW (a b : Int) : W → Bool
  | .int i => decide (a ≤ i) && decide (i ≤ b)
  | _ => false
theorem within_ok {st : Sto} {x : W} {a b : Int} (h : TyB st x) : f_is_within [x, .int a, .int b] st = .ok (.bl (isW a b x)) st := by
  have h1 := isi_int h
  have h2 := isi_bool h
  refine clean_id (fRun_rt (e := [some x, some (.int a), some (.int b)]) rfl ?_)
  cases x with
  | int i =>
    by_cases hc : a ≤ i <;> simp only [b_is_within, fRet, fAnd, fNot, fChnE, fCall, fCons, fNil, fVar, fC, List.getElem?_cons_zero, List.getElem?_cons_succ, An.bind_ok, h1, h2, isInt, isBl, Bool.or_false, Bool.not_false, truW, optB_some, if_true, wLe, wIb, hc, decide_true, decide_false, Bool.false_eq_true, if_false, An.toS_ok, isW, Bool.true_and, Bool.false_and]
  | bl i => simp only [b_is_within, fRet, fAnd, fNot, fChnE, fCall, fCons, fNil, fVar, fC, List.getElem?_cons_zero, List.getElem?_cons_succ, An.bind_ok, h1, h2, isInt, isBl, Bool.or_true, Bool.not_true, truW, optB_some, if_true, Bool.false_eq_true, if_false, An.toS_ok, isW]
  | _ => simp only [b_is_within, fRet, fAnd, fNot, fChnE, fCall, fCons, fNil, fVar, fC, List.getElem?_cons_zero, List.getElem?_cons_succ, An.bind_ok, h1, h2, isInt, isBl, Bool.or_false, truW, optB_some, Bool.false_eq_true, if_false, An.toS_ok, isW]
theorem cell_ok {st : Sto} {x : W} (h : TyB st x) : f_is_cell [x] st = .ok (.bl (isW 0 65535 x)) st := by
  have h1 := within_ok (a := 0) (b := 65535) h
  refine clean_id (fRun_rt (e := [some x]) rfl ?_)
  simp only [b_is_cell, fRet, fFn, fCons, fNil, fVar, fC, k_MOST, List.getElem?_cons_zero, An.bind_ok, List.length_cons, List.length_nil, Nat.zero_add, Nat.reduceAdd, if_true, h1, An.toS_ok]
/-! ### all of a list of truths -/
theorem getB_map {α : Type} {f : α → Bool} : ∀ l : List α, getB (l.map fun x => W.bl (f x)) = some (l.map f)
  | [] => rfl
  | x :: l => by simp [getB, getB_map l]
theorem all_ok {st : Sto} {n : Nat} {α : Type} {l : List α} {f : α → Bool} (h : st[n]? = some (.lst (l.map fun x => W.bl (f x)))) : wAll [.ref n] st = .ok (.bl (l.all f)) st := by
  simp only [wAll, wBl, getL, h, Option.bind_some, getB_map, optB_some, An.bind_ok]
  simp [List.all_map, Function.comp_def]
def isPg : W → Bool
  | .tup l => decide (l.length = 8) && l.all (isW 0 65535)
  | _ => false
theorem page_ok {st : Sto} {x : W} (h : TyB st x) (hl : ∀ l, x = .tup l → ∀ w ∈ l, TyB st w) : f_is_page [x] st = .ok (.bl (isPg x)) st := by
  have h1 := isi_tup h
  cases x with
  | tup l =>
    by_cases h8 : l.length = 8
    · have hc : fLc [1] (fSeqI (fVar 0)) (bN 1) fYes (fFn 1 f_is_cell (fCons (fVar 1) fNil)) [some (.tup l), none] st = .ok (.ref st.length) (st ++ [.lst (l.map fun w => .bl (isW 0 65535 w))]) := by
        refine fLc_pure (by rfl) (by omega) fun acc w hw => ⟨[some (.tup l), some w], rfl, ?_⟩
        have hq := cell_ok (TyB.app (g := [.lst acc]) (hl l rfl w hw))
        simp only [fFn, fCons, fNil, fVar, List.getElem?_cons_zero, List.getElem?_cons_succ, An.bind_ok, List.length_cons, List.length_nil, Nat.zero_add, if_true, hq]
      have ha := all_ok (st := st ++ [.lst (l.map fun w => .bl (isW 0 65535 w))]) (n := st.length) sto_at
      refine clean_app' [.lst (l.map fun w => .bl (isW 0 65535 w))] (fRun_rt (e := [some (.tup l), none]) rfl ?_) rfl
      simp only [b_is_page, fRet, fAnd, fCmpE, fCall, fCons, fNil, fVar, fC, k_PLACES, List.getElem?_cons_zero, An.bind_ok, h1, isTup, truW, optB_some, if_true, wLen, wEq, eqW, h8, hc, ha, An.toS_ok, isPg, show ((8 : Nat) : Int) = 8 from rfl, decide_true, Bool.true_and]
    · refine clean_id (fRun_rt (e := [some (.tup l), none]) rfl ?_)
      have h8' : ¬ ((l.length : Int) = 8) := by omega
      simp only [b_is_page, fRet, fAnd, fCmpE, fCall, fCons, fNil, fVar, fC, k_PLACES, List.getElem?_cons_zero, An.bind_ok, h1, isTup, truW, optB_some, if_true, wLen, wEq, eqW, h8, h8', decide_false, Bool.false_eq_true, if_false, An.toS_ok, isPg, Bool.false_and]
  | _ =>
    refine clean_id (fRun_rt rfl ?_)
    show b_is_page [some _, none] st = _
    simp only [b_is_page, fRet, fAnd, fCmpE, fCall, fCons, fNil, fVar, fC, List.getElem?_cons_zero, An.bind_ok, h1, isTup, truW, optB_some, Bool.false_eq_true, if_false, An.toS_ok, isPg]
/-! ### numbers by sixteen -/
def sg (d : Nat) : Nat := if d < 10 then 48 + d else 87 + d
def hexL (n : Nat) : List Nat := if h : n = 0 then [] else hexL (n / 16) ++ [sg (n % 16)]
termination_by n
decreasing_by omega
def hexS (n : Nat) : Str := if n = 0 then "0" else ⟨(hexL n).toArray⟩
theorem sg_at {d : Nat} (h : d < 16) {st : Sto} : wIx (.str "0123456789abcdef") (.int (d : Nat)) st = some (.str ⟨#[sg d]⟩) := by
  have hl : ("0123456789abcdef" : Str).length ≤ sizeLine := by
    rw [sizeLine_eq]
    decide +kernel
  have e : ("0123456789abcdef" : Str).cps.toList[d]? = some (sg d) := by
    have key : ∀ k : Fin 16, ("0123456789abcdef" : Str).cps.toList[(k : Nat)]? = some (sg k) := by decide +kernel
    exact key ⟨d, h⟩
  simp only [wIx, if_pos hl, atI_nat e, Option.map_some]
theorem str_app (d : Nat) (t : List Nat) : (⟨#[d]⟩ : Str) ++ (⟨t.toArray⟩ : Str) = ⟨(d :: t).toArray⟩ := by
  show (⟨#[d] ++ t.toArray⟩ : Str) = _
  simp
theorem hexL_step {n : Nat} (h : 0 < n) : hexL n = hexL (n / 16) ++ [sg (n % 16)] := by
  conv => lhs; unfold hexL
  rw [dif_neg (by omega)]
theorem hexL_len : ∀ (k n : Nat), n < 16 ^ k → (hexL n).length ≤ k
  | 0, n, h => by
    have : n = 0 := by simp at h; exact h
    subst this
    unfold hexL
    simp
  | k + 1, n, h => by
    by_cases h0 : n = 0
    · subst h0
      unfold hexL
      simp
    · rw [hexL_step (by omega), List.length_append]
      have := hexL_len k (n / 16) (by rw [Nat.pow_succ] at h; omega)
      simpa using this
/-! ### the two loops -/
theorem and15 (c : Nat) : Builtin.bitAnd (c : Int) 15 = ((c % 16 : Nat) : Int) := by
  have h := Bits.bitAnd_mask (x := (c : Int)) 4 (by omega)
  have e : ((2 : Int) ^ 4 - 1) = 15 := by decide
  rw [e] at h
  rw [h]
  omega
theorem loop16 {st : Sto} {body : FS} (hb : ∀ (c : Nat) (t : List Nat), t.length ≤ 100 → body [some (.int c), some (.str ⟨t.toArray⟩)] st = .nx [some (.int ((c / 16 : Nat) : Int)), some (.str ⟨(sg (c % 16) :: t).toArray⟩)] st) :
    ∀ (k c : Nat) (t : List Nat), c < 16 ^ k → t.length + k ≤ 100 → ∀ fuel, k < fuel → whS (fCmp wGt (fVar 0) (fC (.int 0))) body fuel [some (.int c), some (.str ⟨t.toArray⟩)] st = .nx [some (.int 0), some (.str ⟨(hexL c ++ t).toArray⟩)] st
  | 0, c, t, h, hl, fuel + 1, hf => by
    have : c = 0 := by simp at h; exact h
    subst this
    have e : hexL 0 = [] := by unfold hexL; simp
    simp [whS, fCmp, fVar, fC, wGt, wIb, e]
  | k + 1, c, t, h, hl, fuel + 1, hf => by
    by_cases h0 : c = 0
    · subst h0
      have e : hexL 0 = [] := by unfold hexL; simp
      simp [whS, fCmp, fVar, fC, wGt, wIb, e]
    · have ih := loop16 hb k (c / 16) (sg (c % 16) :: t) (by rw [Nat.pow_succ] at h; omega) (by simp; omega) fuel (by omega)
      have hc : (0 : Int) < (c : Int) := by omega
      rw [hexL_step (by omega), List.append_assoc]
      simp only [whS, fCmp, fVar, fC, wGt, wIb, List.getElem?_cons_zero, An.bind_ok, optB_some, An.toS_ok, hc, decide_true, if_true]
      rw [hb c t (by omega)]
      exact ih
theorem sg_len {c : Nat} {t : List Nat} (h : t.length ≤ 100) : ((⟨#[sg (c % 16)]⟩ : Str).length + (⟨t.toArray⟩ : Str).length ≤ sizeLine) := by
  rw [sizeLine_eq]
  show (#[sg (c % 16)]).size + t.toArray.size ≤ _
  simp
  omega
theorem hexed_body {st : Sto} (c : Nat) (t : List Nat) (h : t.length ≤ 100) : (fSeq (fSet 1 (fBin wAdd (fBin wIxA (fC k_SIGNS) (fBin wAnd (fVar 0) (fC (.int 15)))) (fVar 1))) (fAug 0 wShr (fC (.int 4)))) [some (.int c), some (.str ⟨t.toArray⟩)] st = .nx [some (.int ((c / 16 : Nat) : Int)), some (.str ⟨(sg (c % 16) :: t).toArray⟩)] st := by
  have hd : c % 16 < 16 := Nat.mod_lt _ (by omega)
  have h1 := sg_at hd (st := st)
  have h2 := sg_len (c := c) h
  have h3 : ((c : Int) / 2 ^ (4 : Int).toNat) = ((c / 16 : Nat) : Int) := by
    show (c : Int) / 2 ^ 4 = _
    omega
  simp only [fSeq, fSet, fBin, fAug, fVar, fC, k_SIGNS, wAnd, wI, wShr, wIc, List.getElem?_cons_zero, List.getElem?_cons_succ, An.bind_ok, An.toS_ok, and15, wIxA, h1, optB_some, wAdd, if_pos h2, str_app, List.set_cons_succ, List.set_cons_zero, h3, show (0 : Int) ≤ 4 from by decide, decide_true, if_true]
theorem six_body {st : Sto} (c : Nat) (t : List Nat) (h : t.length ≤ 100) : (fSeq (fSet 1 (fBin wAdd (fBin wIxA (fC (.str "0123456789abcdef")) (fBin wMod (fVar 0) (fC (.int 16)))) (fVar 1))) (fSet 0 (fBin wFdiv (fVar 0) (fC (.int 16))))) [some (.int c), some (.str ⟨t.toArray⟩)] st = .nx [some (.int ((c / 16 : Nat) : Int)), some (.str ⟨(sg (c % 16) :: t).toArray⟩)] st := by
  have hd : c % 16 < 16 := Nat.mod_lt _ (by omega)
  have h1 := sg_at hd (st := st)
  have h2 := sg_len (c := c) h
  have e1 : wMod (.int (c : Int)) (.int 16) st = .ok (.int ((c % 16 : Nat) : Int)) st := by
    rw [wMod_ok (by omega)]
    rfl
  have e2 : wFdiv (.int (c : Int)) (.int 16) st = .ok (.int ((c / 16 : Nat) : Int)) st := by
    rw [wFdiv_ok (by omega) (by decide +kernel)]
    rfl
  simp only [fSeq, fSet, fBin, fVar, fC, List.getElem?_cons_zero, List.getElem?_cons_succ, An.bind_ok, An.toS_ok, e1, wIxA, h1, optB_some, wAdd, if_pos h2, str_app, List.set_cons_succ, List.set_cons_zero, e2]
theorem six_tail {b : FS} {c : Nat} {st : Sto} (h : c < 16 ^ 20) (hl : b [some (.int c), some (.str "")] st = .nx [some (.int 0), some (.str ⟨(hexL c).toArray⟩)] st) :
    fSeq (fSet 1 (fC (.str ""))) (fSeq b (fRet (fOr (fVar 1) (fC (.str "0"))))) [some (.int c), none] st = .rt (.str (hexS c)) st := by
  have hlen := hexL_len 20 c h
  have hs : (⟨(hexL c).toArray⟩ : Str).length ≤ sizeLine := by
    rw [sizeLine_eq]
    show (hexL c).toArray.size ≤ _
    simp
    omega
  have hn : ((((⟨(hexL c).toArray⟩ : Str).length : Nat) : Int) != 0) = !decide (c = 0) := by
    by_cases h0 : c = 0
    · subst h0
      unfold hexL
      rfl
    · have : (hexL c).length ≠ 0 := by rw [hexL_step (by omega)]; simp
      have e : (⟨(hexL c).toArray⟩ : Str).length = (hexL c).length := by show (hexL c).toArray.size = _; simp
      rw [e, decide_eq_false h0]
      simpa using this
  rw [fSeq_nx (env1 := [some (.int c), some (.str "")]) (st1 := st) (by simp only [fSet, fC, An.toS_ok, List.set_cons_succ, List.set_cons_zero]), fSeq_nx hl]
  by_cases h0 : c = 0
  · subst h0
    simp only [fRet, fOr, fVar, fC, List.getElem?_cons_zero, List.getElem?_cons_succ, An.bind_ok, truW, if_pos hs, optB_some, hn, decide_true, Bool.not_true, Bool.false_eq_true, if_false, An.toS_ok, hexS, if_true]
  · simp only [fRet, fOr, fVar, fC, List.getElem?_cons_zero, List.getElem?_cons_succ, An.bind_ok, truW, if_pos hs, optB_some, hn, h0, decide_false, Bool.not_false, if_true, An.toS_ok, hexS, if_false]
theorem e0 : (⟨([] : List Nat).toArray⟩ : Str) = "" := by decide +kernel
theorem hexed_ok {c : Nat} {st : Sto} (h : c < 16 ^ 20) : f_hexed [.int c] st = .ok (.str (hexS c)) st := by
  have hl := loop16 (st := st) hexed_body 20 c [] h (by simp) 1000 (by omega)
  rw [e0, List.append_nil] at hl
  exact clean_id (fRun_rt (e := [some (.int c), none]) rfl (six_tail h hl))
theorem six_ok {c : Nat} {st : Sto} (h : c < 16 ^ 20) : f_law_by_sixteen [.int c] st = .ok (.str (hexS c)) st := by
  have hl := loop16 (st := st) six_body 20 c [] h (by simp) 1000 (by omega)
  rw [e0, List.append_nil] at hl
  exact clean_id (fRun_rt (e := [some (.int c), none]) rfl (six_tail h hl))
/-! ### pages -/
def wI8 (ns : List Nat) : List W := ns.map fun n : Nat => .int n
theorem toD_int {st : Sto} {k : Nat} {i : Int} : toD st (k + 1) (.int i) = some (.int i) := rfl
theorem toD_tup {st : Sto} {k : Nat} {l : List W} : toD st (k + 1) (.tup l) = (l.mapM (toD st k)).map .tuple := by
  conv => lhs; unfold toD
theorem toD_wI {st : Sto} {ns : List Nat} : toD st 64 (.tup (wI8 ns)) = some (.tuple (ns.map fun n : Nat => .int n)) := by
  refine (toD_tup (k := 63)).trans ?_
  rw [mapM_all (g := fun w => match w with | .int b => .int b | _ => .none)]
  · simp [wI8, Function.comp_def]
  · intro x hx
    obtain ⟨b, _, rfl⟩ := List.mem_map.mp hx
    rfl
theorem eqv_ints : ∀ {bs cs : List Nat}, PyData.eqv (.tuple (bs.map fun n : Nat => .int n)) (.tuple (cs.map fun n : Nat => .int n)) = decide (bs = cs)
  | [], [] => by simp [PyData.eqv, PyData.eqvAll]
  | [], _ :: _ => by simp [PyData.eqv, PyData.eqvAll]
  | _ :: _, [] => by simp [PyData.eqv, PyData.eqvAll]
  | a :: bs, b :: cs => by
    have ih := eqv_ints (bs := bs) (cs := cs)
    simp only [PyData.eqv, List.map_cons, PyData.eqvAll] at ih ⊢
    rw [ih]
    by_cases h : a = b
    · subst h
      simp [PyData.eqv]
    · have h' : ¬ ((a : Int) = b) := by omega
      simp [PyData.eqv, h, h']
theorem eqW_pages {st : Sto} {ns ms : List Nat} : eqW st (.tup (wI8 ns)) (.tup (wI8 ms)) = some (decide (ns = ms)) := by
  show ((toD st 64 (.tup (wI8 ns))).bind fun d => (toD st 64 (.tup (wI8 ms))).map fun e => PyData.eqv d e) = _
  rw [toD_wI, toD_wI]
  simp only [Option.bind_some, Option.map_some, eqv_ints]
/-- a page -/
def Pg (ns : List Nat) : Prop := ns.length = 8 ∧ ∀ n ∈ ns, n ≤ 65535
theorem Pg.is {ns : List Nat} (h : Pg ns) : isPg (.tup (wI8 ns)) = true := by
  simp only [isPg, wI8, List.length_map, h.1, decide_true, Bool.true_and, List.all_map, List.all_eq_true, Function.comp_apply, isW, Bool.and_eq_true, decide_eq_true_eq]
  intro n hn
  have := h.2 n hn
  omega
theorem wI8_ty {st : Sto} {ns : List Nat} : ∀ l, W.tup (wI8 ns) = .tup l → ∀ w ∈ l, TyB st w := fun l e w hw => by
  cases e
  obtain ⟨n, _, rfl⟩ := List.mem_map.mp hw
  exact TyB.int
def pageS (ns : List Nat) : Str := if ns = List.replicate 8 0 then "-" else Txt.join "," (ns.map hexS)
theorem getT_map {α : Type} {f : α → Str} : ∀ l : List α, getT (l.map fun x => W.str (f x)) = some (l.map f)
  | [] => rfl
  | x :: l => by simp [getT, getT_map l]
theorem hexS_len {n : Nat} (h : n < 16 ^ 20) : (hexS n).length ≤ 20 := by
  unfold hexS
  split
  · decide +kernel
  · show (hexL n).toArray.size ≤ 20
    have := hexL_len 20 n h
    simpa using this
theorem sum_le {α : Type} {f : α → Nat} {k : Nat} : ∀ {l : List α}, (∀ x ∈ l, f x ≤ k) → (l.map f).sum ≤ l.length * k
  | [], _ => by simp
  | x :: l, h => by
    have h1 := h x List.mem_cons_self
    have h2 := sum_le (l := l) (f := f) (k := k) fun y hy => h y (List.mem_cons_of_mem _ hy)
    rw [List.map_cons, List.sum_cons, List.length_cons, Nat.succ_mul]
    omega
/-- the cells' texts, joined: by hexed, by the law's own -/
theorem cells_ok {ns : List Nat} (h : Pg ns) {st : Sto} {F : FF} (hF : ∀ (n : Nat) (s : Sto), n < 16 ^ 20 → F [.int n] s = .ok (.str (hexS n)) s) :
    fM1 wJoin (fC (.str ",")) (fLc [1] (fSeqI (fVar 0)) (bN 1) fYes (fFn 1 F (fCons (fVar 1) fNil))) [some (.tup (wI8 ns)), none] st = .ok (.str (Txt.join "," (ns.map hexS))) (st ++ [.lst (ns.map fun n : Nat => .str (hexS n))]) := by
  have big : ∀ n ∈ ns, n < 16 ^ 20 := fun n hn => by
    have := h.2 n hn
    have e : 65535 < 16 ^ 20 := by decide +kernel
    omega
  have hc : fLc [1] (fSeqI (fVar 0)) (bN 1) fYes (fFn 1 F (fCons (fVar 1) fNil)) [some (.tup (wI8 ns)), none] st = .ok (.ref st.length) (st ++ [.lst (ns.map fun n : Nat => .str (hexS n))]) := by
    have q := fLc_pure (own := [1]) (it := fSeqI (fVar 0)) (bind := bN 1) (f := fFn 1 F (fCons (fVar 1) fNil)) (env := [some (.tup (wI8 ns)), none]) (st := st) (st1 := st) (items := wI8 ns) (g := fun w => match w with | .int i => .str (hexS i.toNat) | w => w) rfl (by simp [wI8, h.1]) (fun acc w hw => by
      obtain ⟨n, hn, rfl⟩ := List.mem_map.mp hw
      refine ⟨[some (.tup (wI8 ns)), some (.int n)], rfl, ?_⟩
      simp only [fFn, fCons, fNil, fVar, List.getElem?_cons_zero, List.getElem?_cons_succ, An.bind_ok, List.length_cons, List.length_nil, Nat.zero_add, if_true, hF n _ (big n hn), Int.toNat_natCast])
    rw [q]
    simp [wI8, Function.comp_def]
  have hz : ((ns.map hexS).map (·.length)).sum + (ns.map hexS).length * (("," : Str).length) ≤ 16777216 := by
    have e1 : ((ns.map hexS).map (·.length)).sum ≤ (ns.map hexS).length * 20 := sum_le fun x hx => by
      obtain ⟨n, hn, rfl⟩ := List.mem_map.mp hx
      exact hexS_len (big n hn)
    have e2 : ("," : Str).length = 1 := by decide +kernel
    rw [e2, List.length_map, h.1] at *
    omega
  simp only [fM1, fC, isStr, An.bind_ok, if_true, hc, wJoin, getS, getL, sto_at, Option.bind_some, getT_map, optB_some, if_pos hz]
theorem text_ok {ns : List Nat} (h : Pg ns) {st : Sto} : f_page_text [.tup (wI8 ns)] st = .ok (.str (pageS ns)) st := by
  have h1 := page_ok (st := st) TyB.tup (wI8_ty (ns := ns))
  rw [h.is] at h1
  have hB : k_BLANK = .tup (wI8 (List.replicate 8 0)) := rfl
  by_cases hb : ns = List.replicate 8 0
  · subst hb
    refine clean_id (fRun_rt (e := [some (.tup (wI8 (List.replicate 8 0))), none]) rfl ?_)
    simp only [b_page_text, fSeq, fIfS, fNotT, fTru, fFn, fCons, fNil, fVar, fC, List.getElem?_cons_zero, An.bind_ok, List.length_cons, List.length_nil, Nat.zero_add, if_true, h1, truW, optB_some, Bool.not_true, An.toS_ok, Bool.false_eq_true, if_false, fNext, fCmp, wEq, hB, eqW_pages, decide_true, fRet, k_BLANK_TEXT, pageS]
  · refine clean_app' [.lst (ns.map fun n : Nat => .str (hexS n))] (fRun_rt (e := [some (.tup (wI8 ns)), none]) rfl ?_) rfl
    have hj := cells_ok h (st := st) (F := f_hexed) fun n s hn => hexed_ok hn
    simp only [b_page_text, fSeq, fIfS, fNotT, fTru, fFn, fCons, fNil, fVar, fC, List.getElem?_cons_zero, An.bind_ok, List.length_cons, List.length_nil, Nat.zero_add, if_true, h1, truW, optB_some, Bool.not_true, An.toS_ok, Bool.false_eq_true, if_false, fNext, fCmp, wEq, hB, eqW_pages, hb, decide_false, fRet, pageS]
    rw [hj]
    simp only [An.toS_ok]
theorem text_no {x : W} {st : Sto} (h : TyB st x) (hl : ∀ l, x = .tup l → ∀ w ∈ l, TyB st w) (hn : isPg x = false) : f_page_text [x] st = .ex "NoPages" [] st := by
  have h1 := page_ok h hl
  rw [hn] at h1
  refine clean_ex ?_
  show (match b_page_text [some x, none] st with | .nx _ s => An.ok W.non s | .rt w s => .ok w s | .ex C fs _ s => .ex C fs s | _ => .bad) = _
  have hb : b_page_text [some x, none] st = .ex "NoPages" [] [some x, none] st := by
    simp only [b_page_text, fSeq, fIfS, fNotT, fTru, fFn, fCons, fNil, fVar, List.getElem?_cons_zero, An.bind_ok, List.length_cons, List.length_nil, Nat.zero_add, if_true, h1, truW, optB_some, Bool.not_false, An.toS_ok, fRaise]
  rw [hb]
theorem written_ok {ns : List Nat} (h : Pg ns) {st : Sto} : f_law_written [.tup (wI8 ns)] st = .ok (.str (pageS ns)) st := by
  have hm : wMul (.tup [.int 0]) (.int 8) st = .ok (.tup (wI8 (List.replicate 8 0))) st := by
    show (if [W.int 0] ≠ [] ∧ (2 : Int) ≤ 8 ∧ (8 : Int) ≤ 1000 ∧ [W.int 0].length ≤ 1000 then An.ok (W.tup (List.replicate (8 : Int).toNat [W.int 0]).flatten) st else .bad) = _
    rw [if_pos ⟨by simp, by decide, by decide, by decide⟩]
    rfl
  by_cases hb : ns = List.replicate 8 0
  · subst hb
    refine clean_id (fRun_rt (e := [some (.tup (wI8 (List.replicate 8 0))), none]) rfl ?_)
    simp only [b_law_written, fSeq, fIfS, fCmp, fVar, fBin, fTup, fCons, fNil, fC, List.getElem?_cons_zero, An.bind_ok, List.length_cons, List.length_nil, Nat.zero_add, Nat.reduceLeDiff, if_true, hm, wEq, eqW_pages, decide_true, optB_some, An.toS_ok, fRet, pageS]
  · refine clean_app' [.lst (ns.map fun n : Nat => .str (hexS n))] (fRun_rt (e := [some (.tup (wI8 ns)), none]) rfl ?_) rfl
    have hj := cells_ok h (st := st) (F := f_law_by_sixteen) fun n s hn => six_ok hn
    simp only [b_law_written, fSeq, fIfS, fCmp, fVar, fBin, fTup, fCons, fNil, fC, List.getElem?_cons_zero, An.bind_ok, List.length_cons, List.length_nil, Nat.zero_add, Nat.reduceLeDiff, if_true, hm, wEq, eqW_pages, hb, decide_false, Bool.false_eq_true, if_false, optB_some, An.toS_ok, fNext, fRet, pageS]
    have hj' := hj
    rw [hj]
    simp only [An.toS_ok]
/-! ### reading a cell -/
def Hxc (c : Nat) : Prop := (48 ≤ c ∧ c ≤ 57) ∨ (97 ≤ c ∧ c ≤ 102)
theorem sg_hx {d : Nat} (h : d < 16) : Hxc (sg d) := by
  unfold Hxc sg
  split <;> omega
theorem hexL_hx : ∀ (k n : Nat), n < 16 ^ k → ∀ c ∈ hexL n, Hxc c
  | 0, n, h, c, hc => by
    have : n = 0 := by simp at h; exact h
    subst this
    unfold hexL at hc
    simp at hc
  | k + 1, n, h, c, hc => by
    by_cases h0 : n = 0
    · subst h0
      unfold hexL at hc
      simp at hc
    · rw [hexL_step (by omega)] at hc
      rcases List.mem_append.mp hc with q | q
      · exact hexL_hx k (n / 16) (by rw [Nat.pow_succ] at h; omega) c q
      · rw [List.mem_singleton.mp q]
        exact sg_hx (Nat.mod_lt _ (by omega))
theorem hexS_tl {n : Nat} : (hexS n).cps.toList = if n = 0 then [48] else hexL n := by
  unfold hexS
  split
  · decide +kernel
  · rfl
theorem hexS_hx {n : Nat} (h : n < 16 ^ 20) : ∀ c ∈ (hexS n).cps.toList, Hxc c := by
  rw [hexS_tl]
  split
  · intro c hc
    rw [List.mem_singleton.mp hc]
    exact .inl ⟨by omega, by omega⟩
  · exact hexL_hx 20 n h
theorem hexNum_snoc {l : List Nat} {c : Nat} : Hx.hexNum (l ++ [c]) = Hx.hexNum l * 16 + Hx.hv c := by
  unfold Hx.hexNum
  rw [List.foldl_append]
  rfl
theorem hv_sg {d : Nat} (h : d < 16) : Hx.hv (sg d) = d := by
  unfold Hx.hv sg
  split <;> split <;> first | omega | (split <;> omega)
theorem hexNum_L : ∀ (k n : Nat), n < 16 ^ k → Hx.hexNum (hexL n) = n
  | 0, n, h => by
    have : n = 0 := by simp at h; exact h
    subst this
    unfold hexL
    rfl
  | k + 1, n, h => by
    by_cases h0 : n = 0
    · subst h0
      unfold hexL
      rfl
    · rw [hexL_step (by omega), hexNum_snoc, hexNum_L k (n / 16) (by rw [Nat.pow_succ] at h; omega), hv_sg (Nat.mod_lt _ (by omega))]
      omega
theorem hexNum_S {n : Nat} (h : n < 16 ^ 20) : Hx.hexNum (hexS n).cps.toList = n := by
  rw [hexS_tl]
  split
  · rename_i h0
    subst h0
    decide
  · exact hexNum_L 20 n h
/-- no nought ahead -/
theorem hexL_head : ∀ (k n : Nat), n < 16 ^ k → 0 < n → ∃ c r, hexL n = c :: r ∧ c ≠ 48
  | 0, n, h, h0 => by
    have : n = 0 := by simp at h; exact h
    omega
  | k + 1, n, h, h0 => by
    rw [hexL_step h0]
    by_cases hq : n / 16 = 0
    · have e : hexL (n / 16) = [] := by rw [hq]; unfold hexL; simp
      refine ⟨sg (n % 16), [], by rw [e]; rfl, ?_⟩
      unfold sg
      split <;> omega
    · obtain ⟨c, r, e, hc⟩ := hexL_head k (n / 16) (by rw [Nat.pow_succ] at h; omega) (by omega)
      exact ⟨c, r ++ [sg (n % 16)], by rw [e]; rfl, hc⟩
theorem in_signs {c : Nat} (h : Hxc c) : c ∈ ("0123456789abcdef" : Str).cps.toList := by
  have key : ∀ k : Fin 128, Hxc k → (k : Nat) ∈ ("0123456789abcdef" : Str).cps.toList := by
    unfold Hxc
    decide +kernel
  have hc : c < 128 := by rcases h with h | h <;> omega
  exact key ⟨c, hc⟩ h
theorem one_sign {c : Nat} {st : Sto} : wIn (.str ⟨#[c]⟩) (.str "0123456789abcdef") st = some (decide (c ∈ ("0123456789abcdef" : Str).cps.toList)) := rfl
/-- all signs of a text of signs -/
theorem signs_ok {z : Str} {st : Sto} (hz : ∀ c ∈ z.cps.toList, Hxc c) (hl : z.cps.toList.length ≤ 1000) :
    fLc [1] (fSeqI (fVar 0)) (bN 1) fYes (fCmpE wIn (fVar 1) (fC k_SIGNS)) [some (.str z), none] st = .ok (.ref st.length) (st ++ [.lst (z.cps.toList.map fun _ => .bl true)]) := by
  have q := fLc_pure (own := [1]) (it := fSeqI (fVar 0)) (bind := bN 1) (f := fCmpE wIn (fVar 1) (fC k_SIGNS)) (env := [some (.str z), none]) (st := st) (st1 := st) (items := z.cps.toList.map fun c => .str ⟨#[c]⟩) (g := fun _ => .bl true) rfl (by simp at hl ⊢; omega) (fun acc w hw => by
    obtain ⟨c, hc, rfl⟩ := List.mem_map.mp hw
    refine ⟨[some (.str z), some (.str ⟨#[c]⟩)], rfl, ?_⟩
    have e : wIn (.str ⟨#[c]⟩) k_SIGNS (st ++ [.lst acc]) = some true := by
      show wIn (.str ⟨#[c]⟩) (.str "0123456789abcdef") (st ++ [.lst acc]) = _
      rw [one_sign, decide_eq_true (in_signs (hz c hc))]
    simp only [fCmpE, fVar, fC, List.getElem?_cons_zero, List.getElem?_cons_succ, An.bind_ok, e, optB_some])
  rw [q, List.map_map]
  rfl
theorem cellin_ok {n : Nat} (h : n ≤ 65535) {st : Sto} : f_cell_in [.str (hexS n)] st = .ok (.int n) st := by
  have hb : n < 16 ^ 20 := by
    have e : 65535 < 16 ^ 20 := by decide +kernel
    omega
  have hx := hexS_hx hb
  have hlen : (hexS n).length = (hexS n).cps.toList.length := rfl
  have h4 : 1 ≤ (hexS n).length ∧ (hexS n).length ≤ 4 := by
    rw [hlen, hexS_tl]
    split
    · simp
    · rename_i h0
      have := hexL_len 4 n (by have e : (16 : Nat) ^ 4 = 65536 := by decide
                               omega)
      obtain ⟨c, r, e, _⟩ := hexL_head 20 n hb (by omega)
      rw [e] at this ⊢
      simp at this ⊢
      omega
  have hw : wLen [.str (hexS n)] st = .ok (.int (hexS n).length) st := by
    show (if (hexS n).length ≤ sizeLine then An.ok (W.int (hexS n).length) st else .bad) = _
    rw [if_pos (by rw [sizeLine_eq]; omega)]
  have hs := signs_ok (st := st) hx (by rw [← hlen]; omega)
  have ha := all_ok (st := st ++ [.lst ((hexS n).cps.toList.map fun _ => .bl true)]) (n := st.length) (l := (hexS n).cps.toList) (f := fun _ => true) sto_at
  have ha2 : ((hexS n).cps.toList.all fun _ => true) = true := by simp
  rw [ha2] at ha
  generalize hS : st ++ [Ob.lst ((hexS n).cps.toList.map fun _ => .bl true)] = S at hs ha
  have hi : wIntH [.str (hexS n), .int 16] S = .ok (.int n) S := by
    show (if (hexS n).cps.toList ≠ [] ∧ (hexS n).cps.toList.length ≤ 640 ∧ (∀ c ∈ (hexS n).cps.toList, (48 ≤ c ∧ c ≤ 57) ∨ (97 ≤ c ∧ c ≤ 102)) then An.ok (W.int ((Hx.hexNum (hexS n).cps.toList : Nat) : Int)) S else .bad) = _
    rw [if_pos ⟨fun z => by rw [hlen, z] at h4; simp at h4, by rw [← hlen]; omega, hx⟩, hexNum_S hb]
  have hc1 : (1 : Int) ≤ ((hexS n).length : Int) := by omega
  have hc2 : ((hexS n).length : Int) ≤ 4 := by omega
  refine clean_app' [.lst ((hexS n).cps.toList.map fun _ => .bl true)] (fRun_rt (e := [some (.str (hexS n)), none]) rfl ?_) rfl
  rw [hS]
  have h1 : (fIfS (fOrT (fNotT (fChn wLe wLe (fC (.int 1)) (fCall wLen (fCons (fVar 0) fNil)) (fC (.int 4)))) (fNotT (fTru (fCall wAll (fCons (fLc [1] (fSeqI (fVar 0)) (bN 1) fYes (fCmpE wIn (fVar 1) (fC k_SIGNS))) fNil))))) (fRet (fC .non)) fNext) [some (.str (hexS n)), none] st = .nx [some (.str (hexS n)), none] S := by
    simp only [fIfS, fOrT, fNotT, fChn, fTru, fCall, fCons, fNil, fVar, fC, List.getElem?_cons_zero, An.bind_ok, hw, wLe, wIb, hc1, hc2, decide_true, optB_some, if_true, Bool.not_true, Bool.false_eq_true, if_false, hs, ha, truW, An.toS_ok, fNext]
  unfold b_cell_in
  rw [fSeq_nx h1]
  by_cases h0 : n = 0
  · subst h0
    have e : hexS 0 = "0" := rfl
    simp only [fRet, fIf, fOrT, fCmp, fVar, fC, fCall, fCons, fNil, wEq, eqW, List.getElem?_cons_zero, An.bind_ok, e, decide_true, optB_some, if_true, An.toS_ok]
    rw [e] at hi
    rw [hi]
    rfl
  · obtain ⟨c, r, e, hc⟩ := hexL_head 20 n hb (by omega)
    have et : (hexS n).cps.toList = c :: r := by rw [hexS_tl, if_neg h0, e]
    have n1 : ¬ (hexS n = "0") := fun z => by
      have e2 := congrArg (fun q : Str => q.cps.toList) z
      have e3 : ("0" : Str).cps.toList = [48] := by decide +kernel
      simp only [et, e3] at e2
      exact hc (List.cons.inj e2).1
    have n2 : ¬ ((⟨#[c]⟩ : Str) = "0") := fun z => by
      have e2 := congrArg (fun q : Str => q.cps.toList) z
      have e3 : ("0" : Str).cps.toList = [48] := by decide +kernel
      rw [e3] at e2
      exact hc (List.cons.inj e2).1
    have hx0 : wIx (.str (hexS n)) (.int 0) S = some (.str ⟨#[c]⟩) := by
      show (if (hexS n).length ≤ sizeLine then (atI (hexS n).cps.toList 0).map (fun c => W.str ⟨#[c]⟩) else none) = _
      rw [if_pos (by rw [sizeLine_eq]; omega), et, show atI (c :: r) 0 = some c from atI_nat (j := 0) rfl]
      rfl
    simp only [fRet, fIf, fOrT, fCmp, fBin, wIxA, fVar, fC, fCall, fCons, fNil, wEq, wNe, eqW, List.getElem?_cons_zero, An.bind_ok, n1, n2, hx0, decide_false, Option.map_some, Bool.not_false, optB_some, Bool.false_eq_true, if_false, if_true, hi, An.toS_ok]
/-! ### reading a page -/
theorem lc_pureG {gd : GD} {bind : W → En → Option En} {f : FE} {env : En} {st : Sto} {g : W → W} : ∀ {items acc : List W}, acc.length + items.length ≤ 100000 → (∀ acc, gdOk gd (st ++ [.lst acc])) →
    (∀ acc, ∀ w ∈ items, ∃ env1, bind w env = some env1 ∧ f env1 (st ++ [.lst acc]) = .ok (g w) (st ++ [.lst acc])) →
    lcS gd bind fYes f st.length env items (st ++ [.lst acc]) = .ok () (st ++ [.lst (acc ++ items.map g)])
  | [], acc, _, hg, _ => by simp [lcS, hg acc]
  | w :: items, acc, hl, hg, h => by
    obtain ⟨env1, h1, h3⟩ := h acc w List.mem_cons_self
    have hl' : acc.length + (items.length + 1) ≤ 100000 := by simpa using hl
    have ih := lc_pureG (gd := gd) (bind := bind) (f := f) (env := env) (st := st) (g := g) (items := items) (acc := acc ++ [g w]) (by simp; omega) hg fun acc x hx => h acc x (List.mem_cons_of_mem _ hx)
    have hlt : acc.length < 100000 := by omega
    simp only [lcS, hg acc, if_true, h1, fYes_ok, h3, An.noex_ok, An.bind_ok, sto_at, hlt, sto_set0, List.set_cons_zero]
    simpa using ih
theorem fLc_pureG {own : List Nat} {it : FI} {gd : GD} {bind : W → En → Option En} {f : FE} {env : En} {st st1 : Sto} {items : List W} {g : W → W} (hi : it env st = .ok (items, gd) st1) (hl : items.length ≤ 100000) (hg : ∀ acc, gdOk gd (st1 ++ [.lst acc]))
    (h : ∀ acc, ∀ w ∈ items, ∃ env1, bind w (wipeW env own) = some env1 ∧ f env1 (st1 ++ [.lst acc]) = .ok (g w) (st1 ++ [.lst acc])) : fLc own it bind fYes f env st = .ok (.ref st1.length) (st1 ++ [.lst (items.map g)]) := by
  unfold fLc
  rw [hi, An.bind_ok]
  have := lc_pureG (gd := gd) (bind := bind) (f := f) (env := wipeW env own) (st := st1) (g := g) (items := items) (acc := []) (by simpa using hl) hg h
  rw [this]
  simp
theorem joinL_len {S : List Nat} : ∀ ps : List (List Nat), (TL.joinL S ps).length ≤ (ps.map List.length).sum + ps.length * S.length
  | [] => by simp [TL.joinL]
  | [p] => by simp [TL.joinL]
  | p :: q :: r => by
    have ih := joinL_len (S := S) (q :: r)
    simp only [TL.joinL, List.length_append, List.map_cons, List.sum_cons, List.length_cons, Nat.succ_mul] at ih ⊢
    omega
theorem join_len {y : Str} {ps : List Str} : (Txt.join y ps).length ≤ (ps.map (·.length)).sum + ps.length * y.length := by
  have e : (Txt.join y ps).length = (TL.tl (Txt.join y ps)).length := rfl
  rw [e, TL.join_eq, TL.tl_join]
  have := joinL_len (S := TL.tl y) (ps.map TL.tl)
  rw [List.map_map, List.length_map] at this
  exact this
theorem joinL_mem {S : List Nat} {c : Nat} : ∀ ps : List (List Nat), c ∈ TL.joinL S ps → c ∈ S ∨ ∃ p ∈ ps, c ∈ p
  | [], h => by simp [TL.joinL] at h
  | [p], h => .inr ⟨p, List.mem_cons_self, h⟩
  | p :: q :: r, h => by
    simp only [TL.joinL, List.mem_append] at h
    rcases h with h | h | h
    · exact .inr ⟨p, List.mem_cons_self, h⟩
    · exact .inl h
    · rcases joinL_mem (S := S) (q :: r) h with h | ⟨p', hp, h⟩
      · exact .inl h
      · exact .inr ⟨p', List.mem_cons_of_mem _ hp, h⟩
theorem join_mem {y : Str} {ps : List Str} {c : Nat} (h : c ∈ TL.tl (Txt.join y ps)) : c ∈ TL.tl y ∨ ∃ p ∈ ps, c ∈ TL.tl p := by
  rw [TL.join_eq, TL.tl_join] at h
  rcases joinL_mem _ h with h | ⟨p, hp, h⟩
  · exact .inl h
  · obtain ⟨z, hz, rfl⟩ := List.mem_map.mp hp
    exact .inr ⟨z, hz, h⟩
theorem comma : TL.tl (("," : Str)) = [44] := by decide +kernel
theorem blank : TL.tl ((" " : Str)) = [32] := by decide +kernel
theorem Pg.big {ns : List Nat} (h : Pg ns) : ∀ n ∈ ns, n < 16 ^ 20 := fun n hn => by
  have := h.2 n hn
  have e : 65535 < 16 ^ 20 := by decide +kernel
  omega
theorem no_comma {ns : List Nat} (h : Pg ns) : ∀ p ∈ ns.map hexS, 44 ∉ TL.tl p := fun p hp hc => by
  obtain ⟨n, hn, rfl⟩ := List.mem_map.mp hp
  have := hexS_hx (h.big n hn) 44 hc
  unfold Hxc at this
  omega
theorem Pg.ne {ns : List Nat} (h : Pg ns) : ns.map hexS ≠ [] := fun e => by
  have := congrArg List.length e
  rw [List.length_map, h.1] at this
  simp at this
theorem split_cells {ns : List Nat} (h : Pg ns) : Txt.split (Txt.join "," (ns.map hexS)) "," = ns.map hexS := TL.split_join comma (by decide +kernel) h.ne (no_comma h)
theorem join_one {y z : Str} : Txt.join y [z] = z := by
  rw [TL.join_eq]
  rfl
theorem join_ne {ns : List Nat} (h : Pg ns) : Txt.join "," (ns.map hexS) ≠ "-" := fun e => by
  have h1 := split_cells h
  rw [e] at h1
  have h2 := TL.split_join comma (by decide +kernel) (parts := ["-"]) (by simp) (by
    intro p hp
    rw [List.mem_singleton.mp hp]
    decide +kernel)
  rw [join_one, h1] at h2
  have := congrArg List.length h2
  rw [List.length_map, h.1] at this
  simp at this
theorem page_len {ns : List Nat} (h : Pg ns) : (pageS ns).length ≤ 200 := by
  unfold pageS
  split
  · decide +kernel
  · have e1 : ((ns.map hexS).map (·.length)).sum ≤ (ns.map hexS).length * 20 := sum_le fun x hx => by
      obtain ⟨n, hn, rfl⟩ := List.mem_map.mp hx
      exact hexS_len (h.big n hn)
    have e2 := join_len (y := ",") (ps := ns.map hexS)
    have e3 : ("," : Str).length = 1 := by decide +kernel
    have e4 : (ns.map hexS).length = 8 := by rw [List.length_map]; exact h.1
    rw [e3, e4] at e2
    rw [e4] at e1
    omega
theorem page_noblank {ns : List Nat} (h : Pg ns) : 32 ∉ TL.tl (pageS ns) := by
  unfold pageS
  split
  · decide +kernel
  · intro hc
    rcases join_mem hc with hc | ⟨p, hp, hc⟩
    · rw [comma] at hc
      simp at hc
    · obtain ⟨n, hn, rfl⟩ := List.mem_map.mp hp
      have := hexS_hx (h.big n hn) 32 hc
      unfold Hxc at this
      omega
theorem split_ok {a b : Str} {st : Sto} (hb : (b.length == 0) = false) (ha : a.length + 2 ≤ sizeLine) : wSplit (.str a) (.str b) st = .ok (.ref st.length) (st ++ [.lst ((Txt.split a b).map .str)]) := by
  show (if (b.length == 0) = false ∧ a.length + 2 ≤ sizeLine then An.ok (W.ref st.length) (st ++ [.lst ((Txt.split a b).map .str)]) else .bad) = _
  rw [if_pos ⟨hb, ha⟩]
theorem pagein_ok {ns : List Nat} (h : Pg ns) {st : Sto} : f_page_in [.str (pageS ns)] st = .ok (.tup (wI8 ns)) st := by
  by_cases hb : ns = List.replicate 8 0
  · subst hb
    refine clean_id (fRun_rt (e := [some (.str (pageS (List.replicate 8 0))), none]) rfl ?_)
    have e : pageS (List.replicate 8 0) = "-" := by unfold pageS; rw [if_pos rfl]
    simp only [b_page_in, fSeq, fIfS, fCmp, fVar, fC, List.getElem?_cons_zero, An.bind_ok, wEq, k_BLANK_TEXT, eqW, e, decide_true, optB_some, if_true, An.toS_ok, fRet]
    rfl
  · have e : pageS ns = Txt.join "," (ns.map hexS) := by unfold pageS; rw [if_neg hb]
    have hlen := page_len h
    rw [e] at hlen ⊢
    have hs : wSplit (.str (Txt.join "," (ns.map hexS))) (.str ",") st = .ok (.ref st.length) (st ++ [.lst ((ns.map hexS).map .str)]) := by
      rw [split_ok (by decide +kernel) (by rw [sizeLine_eq]; omega), split_cells h]
    have hc : fLc [1] (fSeqI (fM1 wSplit (fVar 0) (fC (.str ",")))) (bN 1) fYes (fFn 1 f_cell_in (fCons (fVar 1) fNil)) [some (.str (Txt.join "," (ns.map hexS))), none] st = .ok (.ref (st ++ [Ob.lst ((ns.map hexS).map .str)]).length) (st ++ [.lst ((ns.map hexS).map .str)] ++ [.lst (wI8 ns)]) := by
      have q := fLc_pureG (own := [1]) (it := fSeqI (fM1 wSplit (fVar 0) (fC (.str ",")))) (gd := some (st.length, (ns.map hexS).map .str)) (bind := bN 1) (f := fFn 1 f_cell_in (fCons (fVar 1) fNil)) (env := [some (.str (Txt.join "," (ns.map hexS))), none]) (st := st) (st1 := st ++ [.lst ((ns.map hexS).map .str)]) (items := (ns.map hexS).map .str) (g := fun w => match w with | .str z => .int (Hx.hexNum z.cps.toList : Nat) | w => w)
        (by simp only [fSeqI, fM1, fVar, fC, List.getElem?_cons_zero, An.bind_ok, isStr, if_true, hs, seqJ, seqI, sto_at, optB_some]) (by simp [h.1]) (fun acc => sto_app sto_at) (fun acc w hw => by
          obtain ⟨z, hz, rfl⟩ := List.mem_map.mp hw
          obtain ⟨n, hn, rfl⟩ := List.mem_map.mp hz
          refine ⟨[some (.str (Txt.join "," (ns.map hexS))), some (.str (hexS n))], rfl, ?_⟩
          simp only [fFn, fCons, fNil, fVar, List.getElem?_cons_zero, List.getElem?_cons_succ, An.bind_ok, List.length_cons, List.length_nil, Nat.zero_add, if_true, cellin_ok (h.2 n hn), hexNum_S (h.big n hn)])
      rw [q]
      have e3 : (((ns.map hexS).map W.str).map fun w => match w with | .str z => W.int (Hx.hexNum z.cps.toList : Nat) | w => w) = wI8 ns := by
        rw [List.map_map, List.map_map]
        refine List.map_congr_left fun n hn => ?_
        show W.int ((Hx.hexNum (hexS n).cps.toList : Nat) : Int) = .int n
        rw [hexNum_S (h.big n hn)]
      rw [e3]
    have ht : wTuple [.ref (st ++ [Ob.lst ((ns.map hexS).map .str)]).length] (st ++ [.lst ((ns.map hexS).map .str)] ++ [.lst (wI8 ns)]) = .ok (.tup (wI8 ns)) (st ++ [.lst ((ns.map hexS).map .str)] ++ [.lst (wI8 ns)]) := by
      simp only [wTuple, getS, getL, sto_at]
    refine clean_app' ([.lst ((ns.map hexS).map .str)] ++ [.lst (wI8 ns)]) (fRun_rt (e := [some (.str (Txt.join "," (ns.map hexS))), none]) rfl ?_) ?_
    · simp only [b_page_in, fSeq, fIfS, fCmp, fVar, fC, List.getElem?_cons_zero, An.bind_ok, wEq, k_BLANK_TEXT, eqW, join_ne h, decide_false, optB_some, Bool.false_eq_true, if_false, An.toS_ok, fNext, fRet, fCall, fCons, fNil]
      rw [hc]
      simp only [An.bind_ok, ht, An.toS_ok]
      simp only [List.append_assoc]
    · simp only [closedW]
      have : ∀ l : List Nat, closedL st.length (wI8 l) = true := fun l => by
        induction l with
        | nil => rfl
        | cons x l ih => simp only [wI8, List.map_cons, closedL, closedW, Bool.true_and]; exact ih
      exact this ns

end Lw

namespace Lw
open PySem PySem.Spec PyProof.Rows L2 Sw
/-- one step; the goal's head says which -/
local macro_rules | `(tactic| decreasing_trivial_pre_omega) => `(tactic| first
  | ((with_reducible refine Sw.gWi ?_); first
    | with_reducible refine Sw.ws_ift ?_
    | with_reducible refine Sw.ws_iff ?_
    | with_reducible refine Sw.ws_ifn ?_
    | ((with_reducible refine Sw.ws_ifd1 ?_ ?_); (focus first | assumption | omega | (simp; done)))
    | ((with_reducible refine Sw.ws_ifd0 ?_ ?_); (focus first | assumption | omega | (simp; done)))
    | ((with_reducible refine Sw.ws_ifb1 ?_ ?_); (focus rfl))
    | ((with_reducible refine Sw.ws_ifb0 ?_ ?_); (focus rfl))
    )
  | ((with_reducible refine Sw.gW ?_); first
    | with_reducible refine Sw.ws_seqS ?_
    | with_reducible refine Sw.ws_ifS ?_
    | with_reducible refine Sw.ws_forN ?_
    | with_reducible refine Sw.ws_seq ?_
    | with_reducible refine Sw.ws_set ?_
    | with_reducible refine Sw.ws_if ?_
    | with_reducible refine Sw.ws_ret ?_
    | with_reducible refine Sw.ws_next ?_
    | with_reducible refine Sw.ws_drop ?_
    | with_reducible refine Sw.ws_for ?_
    | with_reducible refine Sw.ws_asg ?_
    | with_reducible refine Sw.ws_retN ?_
    | with_reducible refine Sw.ws_raise ?_
    | with_reducible refine Sw.ws_raiseD ?_
    | with_reducible refine Sw.ws_gN ?_
    | with_reducible refine Sw.ws_brk ?_
    | with_reducible refine Sw.ws_cnt ?_
    | ((with_reducible apply Sw.ws_aug); rfl)
    | with_reducible refine Sw.ws_gSub ?_
    | with_reducible refine Sw.ws_gsCons ?_
    | with_reducible refine Sw.ws_gsNil ?_
    | ((with_reducible apply Sw.ws_gsConsE); (focus rfl))
    | ((with_reducible apply Sw.ws_gsNilE); (focus rfl))
    | with_reducible refine Sw.ws_par2 ?_
    | with_reducible refine Sw.ws_par3 ?_
    | ((with_reducible refine Sw.ws_gTup ?_ ?_); (focus rfl))
    | ((with_reducible apply Sw.ws_gSeqN); (focus first | rfl | exact getS_at (by assumption) | exact getS_at sto_at | exact getS_at (sto_app (by assumption)) | exact getS_at (sto_app sto_at)); (focus first | rfl | decide | (simp; done) | (simp; omega)))
    | ((with_reducible apply Sw.ws_gStarN); (focus first | rfl | exact getS_at (by assumption) | exact getS_at sto_at | exact getS_at (sto_app (by assumption)) | exact getS_at (sto_app sto_at)); (focus first | decide | (simp; done) | (simp; omega)))
    )
  | ((with_reducible refine Sw.gI ?_); first
    | with_reducible refine Sw.wp_ift ?_
    | with_reducible refine Sw.wp_iff ?_
    | with_reducible refine Sw.wp_ifn ?_
    | ((with_reducible refine Sw.wp_ifd1 ?_ ?_); (focus first | assumption | omega | (simp; done)))
    | ((with_reducible refine Sw.wp_ifd0 ?_ ?_); (focus first | assumption | omega | (simp; done)))
    | ((with_reducible refine Sw.wp_ifb1 ?_ ?_); (focus rfl))
    | ((with_reducible refine Sw.wp_ifb0 ?_ ?_); (focus rfl))
    )
  | ((with_reducible refine Sw.gF ?_); first
    | ((with_reducible apply Sw.v_var); rfl)
    | with_reducible refine Sw.v_c ?_
    | with_reducible refine Sw.v_cons ?_
    | with_reducible refine Sw.v_nil ?_
    | ((with_reducible refine Sw.v_fn ?_))
    | with_reducible refine Sw.v_call ?_
    | ((with_reducible apply Sw.v_ask); (focus rfl); (focus rfl))
    | with_reducible refine Sw.v_bin ?_
    | with_reducible refine Sw.v_cmp ?_
    | with_reducible refine Sw.v_cmpE ?_
    | with_reducible refine Sw.v_tru ?_
    | with_reducible refine Sw.v_notT ?_
    | with_reducible refine Sw.v_andT ?_
    | with_reducible refine Sw.v_orT ?_
    | with_reducible refine Sw.v_and ?_
    | with_reducible refine Sw.v_or ?_
    | with_reducible refine Sw.v_not ?_
    | with_reducible refine Sw.v_if ?_
    | with_reducible refine Sw.v_chn ?_
    | with_reducible refine Sw.v_chnE ?_
    | with_reducible refine Sw.v_tup ?_
    | with_reducible refine Sw.v_lst ?_
    | with_reducible refine Sw.v_sl ?_
    | with_reducible refine Sw.v_no ?_
    | with_reducible refine Sw.v_so ?_
    | with_reducible refine Sw.v_neg ?_
    | with_reducible refine Sw.v_lc ?_
    | with_reducible refine Sw.v_it ?_
    | with_reducible refine Sw.v_seqI ?_
    | with_reducible refine Sw.v_mt ?_
    | with_reducible refine Sw.v_m1 ?_
    | with_reducible refine Sw.v_dict0 ?_
    | with_reducible refine Sw.v_it1 ?_
    )
  | ((with_reducible refine Sw.gO ?_); first
    | with_reducible refine Sw.v_ltI ?_
    | with_reducible refine Sw.v_leI ?_
    | with_reducible refine Sw.v_gtI ?_
    | with_reducible refine Sw.v_geI ?_
    | with_reducible refine Sw.v_eqI ?_
    | with_reducible refine Sw.v_neI ?_
    | with_reducible refine Sw.v_eqS ?_
    | with_reducible refine Sw.v_neS ?_
    | with_reducible refine Sw.v_truB ?_
    | with_reducible refine Sw.v_truI ?_
    | with_reducible refine Sw.v_truN ?_
    | with_reducible refine Sw.v_truT ?_
    | with_reducible refine Sw.v_seqT ?_
    | with_reducible refine Sw.v_seqR ?_
    | with_reducible refine Sw.v_seqS ?_
    | ((with_reducible apply Sw.v_seqL); (focus first | assumption | exact sto_at | exact sto_app (by assumption) | exact sto_app (sto_app (by assumption)) | exact sto_app sto_at | exact sto_app (sto_app sto_at)))
    | with_reducible refine Sw.v_inK ?_
    | with_reducible refine Sw.v_notInK ?_
    | ((with_reducible apply Sw.wp_opt); (focus rfl))
    )
  | ((with_reducible refine Sw.gE ?_); first
    | with_reducible refine Sw.wp_bind ?_
    | with_reducible refine Sw.wp_ok ?_
    | with_reducible refine Sw.v_addI ?_
    | with_reducible refine Sw.v_subI ?_
    | ((with_reducible refine Sw.v_mulI (.inl ?_) ?_); (focus first | decide | omega))
    | ((with_reducible refine Sw.v_mulT ?_ ?_); exact ⟨by simp, by decide, by decide, by simp⟩)
    | ((with_reducible apply Sw.v_mulL); (focus first | assumption | exact sto_at | exact sto_app (by assumption) | exact sto_app (sto_app (by assumption)) | exact sto_app sto_at | exact sto_app (sto_app sto_at)); (focus exact ⟨by decide, by decide, by simp⟩))
    | ((with_reducible refine Sw.v_modI ?_ ?_); (focus first | decide | omega))
    | ((with_reducible refine Sw.v_addT ?_ ?_); refine line1000 ?_; (focus first | decide | (simp; done) | (simp; omega)))
    | ((with_reducible apply Sw.v_powE); (focus decide +kernel); (focus (simp only [Int.reduceToNat, Int.reducePow]; rfl)))
    | ((with_reducible apply Sw.v_ixL); (first | assumption | exact sto_at | exact sto_app (by assumption) | exact sto_app (sto_app (by assumption)) | exact sto_app sto_at | exact sto_app (sto_app sto_at)); (focus first | rfl | assumption | exact atI_nat (by assumption) | exact Sw.atc0 | exact Sw.atc1 | exact Sw.atc2))
    | ((with_reducible apply Sw.v_ixT); (focus first | rfl | assumption | exact atI_nat (by assumption) | exact Sw.atc0 | exact Sw.atc1 | exact Sw.atc2))
    | ((with_reducible apply Sw.v_ixR); (focus first | rfl | assumption | exact atI_nat (by assumption) | exact Sw.atc0 | exact Sw.atc1 | exact Sw.atc2))
    | with_reducible refine Sw.v_slc1 ?_
    | with_reducible refine Sw.v_slc2 ?_
    | ((with_reducible apply Sw.v_slLt1); (focus first | assumption | exact sto_at | exact sto_app (by assumption) | exact sto_app (sto_app (by assumption)) | exact sto_app sto_at | exact sto_app (sto_app sto_at)))
    | ((with_reducible apply Sw.v_slLt2); (focus first | assumption | exact sto_at | exact sto_app (by assumption) | exact sto_app (sto_app (by assumption)) | exact sto_app sto_at | exact sto_app (sto_app sto_at)))
    | ((with_reducible apply Sw.v_slLd1); (focus first | assumption | exact sto_at | exact sto_app (by assumption) | exact sto_app (sto_app (by assumption)) | exact sto_app sto_at | exact sto_app (sto_app sto_at)))
    | ((with_reducible apply Sw.v_addL); (focus first | assumption | exact sto_at | exact sto_app (by assumption) | exact sto_app (sto_app (by assumption)) | exact sto_app sto_at | exact sto_app (sto_app sto_at)); (focus first | assumption | exact sto_at | exact sto_app (by assumption) | exact sto_app (sto_app (by assumption)) | exact sto_app sto_at | exact sto_app (sto_app sto_at)); (focus first | decide | (simp; done) | (simp; omega)))
    | with_reducible refine Sw.v_sortSet ?_
    | ((with_reducible refine Sw.v_sl0 ?_ ?_); (focus omega))
    | ((with_reducible refine Sw.v_sl1 ?_ ?_); (focus omega))
    | with_reducible refine Sw.v_lenT ?_
    | with_reducible refine Sw.v_lenR ?_
    | ((with_reducible apply Sw.v_lenL); (focus first | assumption | exact sto_at | exact sto_app (by assumption) | exact sto_app (sto_app (by assumption)) | exact sto_app sto_at | exact sto_app (sto_app sto_at)))
    | ((with_reducible apply Sw.v_appT); (focus first | decide | (simp; done) | (simp; omega)))
    | with_reducible refine Sw.v_intI ?_
    | with_reducible refine Sw.v_intB ?_
    | with_reducible refine Sw.v_absI ?_
    | with_reducible refine Sw.v_max2 ?_
    | with_reducible refine Sw.v_min2 ?_
    | with_reducible refine Sw.v_listT ?_
    | ((with_reducible apply Sw.v_listL); (focus first | assumption | exact sto_at | exact sto_app (by assumption) | exact sto_app (sto_app (by assumption)) | exact sto_app sto_at | exact sto_app (sto_app sto_at)))
    | with_reducible refine Sw.v_tupleT ?_
    | ((with_reducible apply Sw.v_tupleL); (focus first | assumption | exact sto_at | exact sto_app (by assumption) | exact sto_app (sto_app (by assumption)) | exact sto_app sto_at | exact sto_app (sto_app sto_at)))
    | ((with_reducible refine Sw.v_rng1 ?_ ?_); (focus first | exact ⟨by omega, by omega, by omega, by omega⟩ | decide))
    | ((with_reducible refine Sw.v_rng2 ?_ ?_); (focus first | exact ⟨by omega, by omega, by omega, by omega⟩ | decide))
    | with_reducible refine Sw.v_zipT ?_
    | with_reducible refine Sw.v_enumT ?_
    | ((with_reducible apply Sw.v_enumL); (focus first | assumption | exact sto_at | exact sto_app (by assumption) | exact sto_app (sto_app (by assumption)) | exact sto_app sto_at | exact sto_app (sto_app sto_at)))
    | with_reducible refine Sw.v_andI ?_
    | with_reducible refine Sw.v_orI ?_
    | ((with_reducible refine Sw.v_shrI ?_ ?_); decide)
    | ((with_reducible apply Sw.v_allL); (focus first | assumption | exact sto_at | exact sto_app (by assumption) | exact sto_app (sto_app (by assumption)) | exact sto_app sto_at | exact sto_app (sto_app sto_at)))
    | ((with_reducible apply Sw.v_anyL); (focus first | assumption | exact sto_at | exact sto_app (by assumption) | exact sto_app (sto_app (by assumption)) | exact sto_app sto_at | exact sto_app (sto_app sto_at)))
    | with_reducible refine Sw.v_addGI ?_
    | ((with_reducible refine Sw.v_addGT ?_ ?_); refine line1000 ?_; (focus first | decide | (simp; done) | (simp; omega)))
    | ((with_reducible apply Sw.v_ixK); (focus rfl))
    )
  | with_reducible refine ⟨_, rfl, ?_⟩
  | with_reducible refine ⟨_, _, rfl, ?_⟩
  | with_reducible refine ⟨_, _, _, rfl, ?_⟩
  | ((with_reducible refine And.intro ?_ ?_); (focus first | rfl | decide | exact isLst_at sto_at | exact isLst_at (by assumption) | exact isLst_at (sto_app sto_at) | exact isLst_at (sto_app (by assumption)) | (simp; done) | (simp; omega)))
  | exact ⟨[], (List.append_nil _).symm⟩
  | with_reducible rfl
  | with_reducible refine Sw.ex_app ?_
  | exact ⟨_, rfl⟩
  )
theorem eqS {st : Sto} {i j : Str} : eqW st (.str i) (.str j) = some (decide (i = j)) := rfl
theorem words_ok {z : Str} {st : Sto} (hz : z.length ≤ 100000) : f_words_in [.str z] st = .ok (.ref st.length) (st ++ [.lst ((Txt.split z " ").map .str)]) := by
  have h1 := isi_str (st := st) (TyB.str (i := z))
  have hs := split_ok (a := z) (b := " ") (st := st) (by decide +kernel) (by rw [sizeLine_eq]; omega)
  refine clean_new (fRun_rt (e := [some (.str z)]) rfl ?_) (Nat.le_refl _)
  simp only [b_words_in, fSeq, fIfS, fNotT, fTru, fCall, fCons, fNil, fVar, fC, List.getElem?_cons_zero, An.bind_ok, h1, isSt, truW, optB_some, Bool.not_true, An.toS_ok, Bool.false_eq_true, if_false, fNext, fRet, fM1, isStr, if_true, hs]
theorem split_one {z : Str} (h : 32 ∉ TL.tl z) : Txt.split z " " = [z] := by
  have q := TL.split_join blank (by decide +kernel) (parts := [z]) (by simp) (by
    intro p hp
    rw [List.mem_singleton.mp hp]
    exact h)
  rw [join_one] at q
  exact q
theorem wI8_closed {n : Nat} (l : List Nat) : closedW n (.tup (wI8 l)) = true := by
  simp only [closedW]
  induction l with
  | nil => rfl
  | cons x l ih => simp only [wI8, List.map_cons, closedL, closedW, Bool.true_and]; exact ih
/-- a number -/
def unI : W → Nat
  | .int i => i.toNat
  | _ => 0
theorem isiX {st : Sto} {m : Nat} {C : Str} {fs : Flds} (h : st[m]? = some (.exc C fs)) (hC : C ∈ clsL) : tgOf isiC st (.ref m) = some (.c C) := by
  simp only [tgOf, h]
  rw [if_pos (show isiC C = true from decide_eq_true hC)]

end Lw

namespace Lw
open PySem PySem.Spec PyProof.Rows L2 Sw
/-- one step; the goal's head says which -/
local macro_rules | `(tactic| decreasing_trivial_pre_omega) => `(tactic| first
  | ((with_reducible refine Sw.gWi ?_); first
    | with_reducible refine Sw.ws_ift ?_
    | with_reducible refine Sw.ws_iff ?_
    | with_reducible refine Sw.ws_ifn ?_
    | ((with_reducible refine Sw.ws_ifd1 ?_ ?_); (focus first | assumption | omega | (simp; done)))
    | ((with_reducible refine Sw.ws_ifd0 ?_ ?_); (focus first | assumption | omega | (simp; done)))
    | ((with_reducible refine Sw.ws_ifb1 ?_ ?_); (focus rfl))
    | ((with_reducible refine Sw.ws_ifb0 ?_ ?_); (focus rfl))
    )
  | ((with_reducible refine Sw.gW ?_); first
    | with_reducible refine Sw.ws_seqS ?_
    | with_reducible refine Sw.ws_ifS ?_
    | with_reducible refine Sw.ws_forN ?_
    | with_reducible refine Sw.ws_seq ?_
    | with_reducible refine Sw.ws_set ?_
    | with_reducible refine Sw.ws_if ?_
    | with_reducible refine Sw.ws_ret ?_
    | with_reducible refine Sw.ws_next ?_
    | with_reducible refine Sw.ws_drop ?_
    | with_reducible refine Sw.ws_for ?_
    | with_reducible refine Sw.ws_asg ?_
    | with_reducible refine Sw.ws_retN ?_
    | with_reducible refine Sw.ws_raise ?_
    | with_reducible refine Sw.ws_raiseD ?_
    | with_reducible refine Sw.ws_gN ?_
    | with_reducible refine Sw.ws_brk ?_
    | with_reducible refine Sw.ws_cnt ?_
    | ((with_reducible apply Sw.ws_aug); rfl)
    | with_reducible refine Sw.ws_gSub ?_
    | with_reducible refine Sw.ws_gsCons ?_
    | with_reducible refine Sw.ws_gsNil ?_
    | ((with_reducible apply Sw.ws_gsConsE); (focus rfl))
    | ((with_reducible apply Sw.ws_gsNilE); (focus rfl))
    | with_reducible refine Sw.ws_par2 ?_
    | with_reducible refine Sw.ws_par3 ?_
    | ((with_reducible refine Sw.ws_gTup ?_ ?_); (focus rfl))
    | ((with_reducible apply Sw.ws_gSeqN); (focus first | rfl | exact getS_at (by assumption) | exact getS_at sto_at | exact getS_at (sto_app (by assumption)) | exact getS_at (sto_app sto_at)); (focus first | rfl | decide | (simp; done) | (simp; omega)))
    | ((with_reducible apply Sw.ws_gStarN); (focus first | rfl | exact getS_at (by assumption) | exact getS_at sto_at | exact getS_at (sto_app (by assumption)) | exact getS_at (sto_app sto_at)); (focus first | decide | (simp; done) | (simp; omega)))
    )
  | ((with_reducible refine Sw.gI ?_); first
    | with_reducible refine Sw.wp_ift ?_
    | with_reducible refine Sw.wp_iff ?_
    | with_reducible refine Sw.wp_ifn ?_
    | ((with_reducible refine Sw.wp_ifd1 ?_ ?_); (focus first | assumption | omega | (simp; done)))
    | ((with_reducible refine Sw.wp_ifd0 ?_ ?_); (focus first | assumption | omega | (simp; done)))
    | ((with_reducible refine Sw.wp_ifb1 ?_ ?_); (focus rfl))
    | ((with_reducible refine Sw.wp_ifb0 ?_ ?_); (focus rfl))
    )
  | ((with_reducible refine Sw.gF ?_); first
    | ((with_reducible apply Sw.v_var); rfl)
    | with_reducible refine Sw.v_c ?_
    | with_reducible refine Sw.v_cons ?_
    | with_reducible refine Sw.v_nil ?_
    | ((with_reducible refine Sw.v_fn ?_))
    | with_reducible refine Sw.v_call ?_
    | ((with_reducible apply Sw.v_ask); (focus rfl); (focus rfl))
    | with_reducible refine Sw.v_bin ?_
    | with_reducible refine Sw.v_cmp ?_
    | with_reducible refine Sw.v_cmpE ?_
    | with_reducible refine Sw.v_tru ?_
    | with_reducible refine Sw.v_notT ?_
    | with_reducible refine Sw.v_andT ?_
    | with_reducible refine Sw.v_orT ?_
    | with_reducible refine Sw.v_and ?_
    | with_reducible refine Sw.v_or ?_
    | with_reducible refine Sw.v_not ?_
    | with_reducible refine Sw.v_if ?_
    | with_reducible refine Sw.v_chn ?_
    | with_reducible refine Sw.v_chnE ?_
    | with_reducible refine Sw.v_tup ?_
    | with_reducible refine Sw.v_lst ?_
    | with_reducible refine Sw.v_sl ?_
    | with_reducible refine Sw.v_no ?_
    | with_reducible refine Sw.v_so ?_
    | with_reducible refine Sw.v_neg ?_
    | with_reducible refine Sw.v_lc ?_
    | with_reducible refine Sw.v_it ?_
    | with_reducible refine Sw.v_seqI ?_
    | with_reducible refine Sw.v_mt ?_
    | with_reducible refine Sw.v_m1 ?_
    | with_reducible refine Sw.v_dict0 ?_
    | with_reducible refine Sw.v_it1 ?_
    )
  | ((with_reducible refine Sw.gO ?_); first
    | with_reducible refine Sw.v_ltI ?_
    | with_reducible refine Sw.v_leI ?_
    | with_reducible refine Sw.v_gtI ?_
    | with_reducible refine Sw.v_geI ?_
    | with_reducible refine Sw.v_eqI ?_
    | with_reducible refine Sw.v_neI ?_
    | with_reducible refine Sw.v_eqS ?_
    | with_reducible refine Sw.v_neS ?_
    | with_reducible refine Sw.v_truB ?_
    | with_reducible refine Sw.v_truI ?_
    | with_reducible refine Sw.v_truN ?_
    | with_reducible refine Sw.v_truT ?_
    | with_reducible refine Sw.v_seqT ?_
    | with_reducible refine Sw.v_seqR ?_
    | with_reducible refine Sw.v_seqS ?_
    | ((with_reducible apply Sw.v_seqL); (focus first | assumption | exact sto_at | exact sto_app (by assumption) | exact sto_app (sto_app (by assumption)) | exact sto_app sto_at | exact sto_app (sto_app sto_at)))
    | with_reducible refine Sw.v_inK ?_
    | with_reducible refine Sw.v_notInK ?_
    | ((with_reducible apply Sw.wp_opt); (focus rfl))
    )
  | ((with_reducible refine Sw.gE ?_); first
    | with_reducible refine Sw.wp_bind ?_
    | with_reducible refine Sw.wp_ok ?_
    | with_reducible refine Sw.v_addI ?_
    | with_reducible refine Sw.v_subI ?_
    | ((with_reducible refine Sw.v_mulI (.inl ?_) ?_); (focus first | decide | omega))
    | ((with_reducible refine Sw.v_mulT ?_ ?_); exact ⟨by simp, by decide, by decide, by simp⟩)
    | ((with_reducible apply Sw.v_mulL); (focus first | assumption | exact sto_at | exact sto_app (by assumption) | exact sto_app (sto_app (by assumption)) | exact sto_app sto_at | exact sto_app (sto_app sto_at)); (focus exact ⟨by decide, by decide, by simp⟩))
    | ((with_reducible refine Sw.v_modI ?_ ?_); (focus first | decide | omega))
    | ((with_reducible refine Sw.v_addT ?_ ?_); refine line1000 ?_; (focus first | decide | (simp; done) | (simp; omega)))
    | ((with_reducible apply Sw.v_powE); (focus decide +kernel); (focus (simp only [Int.reduceToNat, Int.reducePow]; rfl)))
    | ((with_reducible apply Sw.v_ixL); (first | assumption | exact sto_at | exact sto_app (by assumption) | exact sto_app (sto_app (by assumption)) | exact sto_app sto_at | exact sto_app (sto_app sto_at)); (focus first | rfl | assumption | exact atI_nat (by assumption) | exact Sw.atc0 | exact Sw.atc1 | exact Sw.atc2))
    | ((with_reducible apply Sw.v_ixT); (focus first | rfl | assumption | exact atI_nat (by assumption) | exact Sw.atc0 | exact Sw.atc1 | exact Sw.atc2))
    | ((with_reducible apply Sw.v_ixR); (focus first | rfl | assumption | exact atI_nat (by assumption) | exact Sw.atc0 | exact Sw.atc1 | exact Sw.atc2))
    | with_reducible refine Sw.v_slc1 ?_
    | with_reducible refine Sw.v_slc2 ?_
    | ((with_reducible apply Sw.v_slLt1); (focus first | assumption | exact sto_at | exact sto_app (by assumption) | exact sto_app (sto_app (by assumption)) | exact sto_app sto_at | exact sto_app (sto_app sto_at)))
    | ((with_reducible apply Sw.v_slLt2); (focus first | assumption | exact sto_at | exact sto_app (by assumption) | exact sto_app (sto_app (by assumption)) | exact sto_app sto_at | exact sto_app (sto_app sto_at)))
    | ((with_reducible apply Sw.v_slLd1); (focus first | assumption | exact sto_at | exact sto_app (by assumption) | exact sto_app (sto_app (by assumption)) | exact sto_app sto_at | exact sto_app (sto_app sto_at)))
    | ((with_reducible apply Sw.v_addL); (focus first | assumption | exact sto_at | exact sto_app (by assumption) | exact sto_app (sto_app (by assumption)) | exact sto_app sto_at | exact sto_app (sto_app sto_at)); (focus first | assumption | exact sto_at | exact sto_app (by assumption) | exact sto_app (sto_app (by assumption)) | exact sto_app sto_at | exact sto_app (sto_app sto_at)); (focus first | decide | (simp; done) | (simp; omega)))
    | with_reducible refine Sw.v_sortSet ?_
    | ((with_reducible refine Sw.v_sl0 ?_ ?_); (focus omega))
    | ((with_reducible refine Sw.v_sl1 ?_ ?_); (focus omega))
    | with_reducible refine Sw.v_lenT ?_
    | with_reducible refine Sw.v_lenR ?_
    | ((with_reducible apply Sw.v_lenL); (focus first | assumption | exact sto_at | exact sto_app (by assumption) | exact sto_app (sto_app (by assumption)) | exact sto_app sto_at | exact sto_app (sto_app sto_at)))
    | ((with_reducible apply Sw.v_appT); (focus first | decide | (simp; done) | (simp; omega)))
    | with_reducible refine Sw.v_intI ?_
    | with_reducible refine Sw.v_intB ?_
    | with_reducible refine Sw.v_absI ?_
    | with_reducible refine Sw.v_max2 ?_
    | with_reducible refine Sw.v_min2 ?_
    | with_reducible refine Sw.v_listT ?_
    | ((with_reducible apply Sw.v_listL); (focus first | assumption | exact sto_at | exact sto_app (by assumption) | exact sto_app (sto_app (by assumption)) | exact sto_app sto_at | exact sto_app (sto_app sto_at)))
    | with_reducible refine Sw.v_tupleT ?_
    | ((with_reducible apply Sw.v_tupleL); (focus first | assumption | exact sto_at | exact sto_app (by assumption) | exact sto_app (sto_app (by assumption)) | exact sto_app sto_at | exact sto_app (sto_app sto_at)))
    | ((with_reducible refine Sw.v_rng1 ?_ ?_); (focus first | exact ⟨by omega, by omega, by omega, by omega⟩ | decide))
    | ((with_reducible refine Sw.v_rng2 ?_ ?_); (focus first | exact ⟨by omega, by omega, by omega, by omega⟩ | decide))
    | with_reducible refine Sw.v_zipT ?_
    | with_reducible refine Sw.v_enumT ?_
    | ((with_reducible apply Sw.v_enumL); (focus first | assumption | exact sto_at | exact sto_app (by assumption) | exact sto_app (sto_app (by assumption)) | exact sto_app sto_at | exact sto_app (sto_app sto_at)))
    | with_reducible refine Sw.v_andI ?_
    | with_reducible refine Sw.v_orI ?_
    | ((with_reducible refine Sw.v_shrI ?_ ?_); decide)
    | ((with_reducible apply Sw.v_allL); (focus first | assumption | exact sto_at | exact sto_app (by assumption) | exact sto_app (sto_app (by assumption)) | exact sto_app sto_at | exact sto_app (sto_app sto_at)))
    | ((with_reducible apply Sw.v_anyL); (focus first | assumption | exact sto_at | exact sto_app (by assumption) | exact sto_app (sto_app (by assumption)) | exact sto_app sto_at | exact sto_app (sto_app sto_at)))
    | with_reducible refine Sw.v_addGI ?_
    | ((with_reducible refine Sw.v_addGT ?_ ?_); refine line1000 ?_; (focus first | decide | (simp; done) | (simp; omega)))
    | ((with_reducible apply Sw.v_ixK); (focus rfl))
    )
  | with_reducible refine ⟨_, rfl, ?_⟩
  | with_reducible refine ⟨_, _, rfl, ?_⟩
  | with_reducible refine ⟨_, _, _, rfl, ?_⟩
  | ((with_reducible refine And.intro ?_ ?_); (focus first | rfl | decide | exact isLst_at sto_at | exact isLst_at (by assumption) | exact isLst_at (sto_app sto_at) | exact isLst_at (sto_app (by assumption)) | (simp; done) | (simp; omega)))
  | exact ⟨[], (List.append_nil _).symm⟩
  | with_reducible rfl
  | with_reducible refine Sw.ex_app ?_
  | exact ⟨_, rfl⟩
  )
theorem e_pot : f_law_pot = potF := rfl
theorem e_take : f_law_take = takeF := rfl
def depW : Nat → W → Prop
  | 0, _ => False
  | n + 1, w => (∃ i, w = .int i) ∨ (∃ z, w = .str z) ∨ ∃ l, w = .tup l ∧ l.length ≤ 100 ∧ ∀ x ∈ l, depW n x
theorem eqI {st : Sto} {i j : Int} : eqW st (.int i) (.int j) = some (decide (i = j)) := rfl
theorem same_ok : ∀ (n : Nat) (w : W) (st : Sto), depW n w → f_law_same n [w, w] st = .ok (.bl true) st
  | 0, _, _, h => h.elim
  | n + 1, w, st, h => by
    show clean (fRun 4 (b_law_same (f_law_same n))) [w, w] st = _
    rcases h with ⟨i, rfl⟩ | ⟨z, rfl⟩ | ⟨l, rfl, hl, hd⟩
    · have h1 := isi_tup (st := st) (TyB.int (i := i))
      have h2 := isi_str (st := st) (TyB.int (i := i))
      have h3 := isi_int (st := st) (TyB.int (i := i))
      have h4 := isi_bool (st := st) (TyB.int (i := i))
      refine clean_id (fRun_rt (e := [some (.int i), some (.int i), none, none]) rfl ?_)
      simp only [b_law_same, fSeq, fIfS, fTru, fNot, fAnd, fCall, fCons, fNil, fVar, fC, fCmpE, wEq, List.getElem?_cons_zero, List.getElem?_cons_succ, An.bind_ok, h1, h2, h3, h4, isTup, isSt, isInt, isBl, Bool.or_false, Bool.not_false, truW, optB_some, An.toS_ok, Bool.false_eq_true, if_false, if_true, fNext, fRet, eqI, decide_true]
    · have h1 := isi_tup (st := st) (TyB.str (i := z))
      have h2 := isi_str (st := st) (TyB.str (i := z))
      refine clean_id (fRun_rt (e := [some (.str z), some (.str z), none, none]) rfl ?_)
      simp only [b_law_same, fSeq, fIfS, fTru, fAnd, fCall, fCons, fNil, fVar, fC, fCmpE, wEq, List.getElem?_cons_zero, List.getElem?_cons_succ, An.bind_ok, h1, h2, isTup, isSt, truW, optB_some, An.toS_ok, Bool.false_eq_true, if_false, if_true, fNext, fRet, eqS, decide_true]
    · have h1 := isi_tup (st := st) (TyB.tup (l := l))
      have hlen : wLen [.tup l] st = .ok (.int l.length) st := rfl
      have hc : fLc [2, 3] (fIt wZip (fCons (fVar 0) (fCons (fVar 1) fNil))) (b2 2 3) fYes (fFn 2 (f_law_same n) (fCons (fVar 2) (fCons (fVar 3) fNil))) [some (.tup l), some (.tup l), none, none] st = .ok (.ref st.length) (st ++ [.lst ((zipW l l).map fun _ => .bl true)]) := by
        refine fLc_pure (g := fun _ => .bl true) (items := zipW l l) rfl (by rw [zipW_length]; omega) fun acc w hw => ?_
        obtain ⟨p, hp, rfl⟩ := List.mem_map.mp hw
        obtain ⟨x, y⟩ := p
        have hxy : x = y ∧ x ∈ l := by
          obtain ⟨i, hi, e⟩ := List.mem_iff_getElem.mp hp
          rw [List.getElem_zip] at e
          have e1 := congrArg Prod.fst e
          have e2 := congrArg Prod.snd e
          dsimp only at e1 e2
          rw [← e1, ← e2]
          exact ⟨rfl, List.getElem_mem _⟩
        obtain ⟨rfl, hx⟩ := hxy
        refine ⟨[some (.tup l), some (.tup l), some x, some x], rfl, ?_⟩
        simp only [fFn, fCons, fNil, fVar, List.getElem?_cons_zero, List.getElem?_cons_succ, An.bind_ok, List.length_cons, List.length_nil, Nat.zero_add, Nat.reduceAdd, if_true, same_ok n x _ (hd x hx)]
      have ha := all_ok (st := st ++ [.lst ((zipW l l).map fun _ => .bl true)]) (n := st.length) (l := zipW l l) (f := fun _ => true) sto_at
      have ha2 : ((zipW l l).all fun _ => true) = true := by simp
      rw [ha2] at ha
      refine clean_app' [.lst ((zipW l l).map fun _ => .bl true)] (fRun_rt (e := [some (.tup l), some (.tup l), none, none]) rfl ?_) rfl
      simp only [b_law_same, fSeq, fIfS, fTru, fNotT, fOrT, fCmp, fCall, fCons, fNil, fVar, fC, wNe, List.getElem?_cons_zero, List.getElem?_cons_succ, An.bind_ok, h1, isTup, hlen, eqI, decide_true, Option.map_some, Bool.not_true, truW, optB_some, An.toS_ok, Bool.false_eq_true, if_false, if_true, fNext, fRet, hc, ha]
theorem dep_page {n : Nat} {ns : List Nat} (h : ns.length ≤ 100) : depW (n + 2) (.tup (wI8 ns)) := .inr (.inr ⟨_, rfl, by simpa [wI8] using h, fun x hx => by
  obtain ⟨k, _, rfl⟩ := List.mem_map.mp hx
  exact .inl ⟨_, rfl⟩⟩)
/-- the store st, its pot at n drawn from, and things behind it -/
def Shp (st S : Sto) (n : Nat) (c : Int) : Prop := ∃ o g, S = st.set n o ++ g ∧ (∀ m, closedO m o = true) ∧ n < st.length ∧ Pot S n c
theorem Shp.of {st : Sto} {n : Nat} {c : Int} (P : Pot st n c) : Shp st st n c := by
  obtain ⟨a, m, k, h, r⟩ := P
  have hl := sto_lt h
  refine ⟨.lst [.int a, .int m, .int k], [], ?_, fun _ => by simp [closedO, closedL, closedW], hl, a, m, k, h, r⟩
  rw [List.append_nil]
  refine (List.ext_getElem? fun i => ?_)
  by_cases hi : n = i
  · subst hi
    rw [h, set_at hl]
  · rw [List.getElem?_set_ne hi]
theorem Shp.pot {st S : Sto} {n : Nat} {c : Int} (h : Shp st S n c) : Pot S n c := by
  obtain ⟨_, _, _, _, _, P⟩ := h
  exact P
theorem Shp.app {st S g : Sto} {n : Nat} {c : Int} (h : Shp st S n c) : Shp st (S ++ g) n c := by
  obtain ⟨o, g0, e, cl, hl, P⟩ := h
  exact ⟨o, g0 ++ g, by rw [e, List.append_assoc], cl, hl, P.app⟩
theorem Shp.set {st S : Sto} {n : Nat} {c d : Int} {o : Ob} (h : Shp st S n c) (cl : ∀ m, closedO m o = true) (P : Pot (S.set n o) n d) : Shp st (S.set n o) n d := by
  obtain ⟨o0, g0, e, _, hl, _⟩ := h
  refine ⟨o, g0, ?_, cl, hl, P⟩
  rw [e, sto_setl (by simpa using hl), List.set_set]
theorem Shp.take {st S : Sto} {n : Nat} {c many : Int} (h : Shp st S n c) (hc : c ≤ 10 ^ 14) (h0 : 0 < many) (h1 : many < 10 ^ 800) : ∃ (v : Nat) (S' : Sto), takeF [.ref n, .int many] S = .ok (.int v) S' ∧ (v : Int) < many ∧ Shp st S' n (c + 1) := by
  obtain ⟨v, o, h, v0, v1, cl, P2⟩ := take_ok h.pot (by omega) h0 h1
  exact ⟨v.toNat, _, by rw [Int.toNat_of_nonneg v0]; exact h, by rw [Int.toNat_of_nonneg v0]; exact v1, Shp.set ‹Shp st S n c› cl P2⟩
/-- a function ends -/
theorem Shp.done {F : FF} {ws : List W} {st S : Sto} {n : Nat} {c : Int} {w : W} (h : Shp st S n c) (hF : F ws st = .ok w S) (hw : closedW st.length w = true) : ∃ o, clean F ws st = .ok w (st.set n o) ∧ (∀ m, closedO m o = true) ∧ Pot (st.set n o) n c := by
  obtain ⟨o, g, e, cl, hl, a, m, k, h1, r⟩ := h
  refine ⟨o, clean_put (g := g) (by rw [hF, e]) (cl _) hw, cl, a, m, k, ?_, r⟩
  rw [e, List.getElem?_append_left (by simpa using hl)] at h1
  exact h1
/-- [..][take(pot, m)] -/
theorem pickS {st S0 S : Sto} {n i : Nat} {c : Int} {env : En} {f : FA} {ws : List W} (hf : f env S0 = .ok ws S) (h : Shp st S n c) (hc : c ≤ 10 ^ 13) (he : env[i]? = some (some (.ref n))) (h0 : 0 < ws.length) (h1 : ws.length ≤ 1000) {m : Int} (hm : m = ws.length) :
    ∃ w S', fBin wIxA (fLst f) (fFn 2 f_law_take (fCons (fVar i) (fCons (fC (.int m)) fNil))) env S0 = .ok w S' ∧ w ∈ ws ∧ Shp st S' n (c + 1) := by
  subst hm
  have hA : Shp st (S ++ [.lst ws]) n c := h.app
  have b8 : (1000 : Int) < 10 ^ 800 := by decide +kernel
  obtain ⟨v, S', t, hv, hS⟩ := hA.take (by omega) (show (0 : Int) < (ws.length : Int) by omega) (by omega)
  have hv2 : v < ws.length := by omega
  have hS2 : S'[S.length]? = some (.lst ws) := by
    obtain ⟨v', o, t2, _⟩ := take_ok hA.pot (by omega) (show (0 : Int) < (ws.length : Int) by omega) (by omega)
    rw [t] at t2
    have e := (An.ok.inj t2).2
    rw [e, sto_setl h.pot.lt]
    have hl : S.length = (S.set n o).length := by simp
    rw [hl]
    exact sto_at
  refine ⟨ws[v], S', ?_, List.getElem_mem _, hS⟩
  have hx : wIx (.ref S.length) (.int v) S' = some ws[v] := by
    rw [wIx_at hS2]
    exact atI_nat (List.getElem?_eq_getElem hv2)
  simp only [fBin, fLst, hf, An.bind_ok, if_pos h1, fFn, fCons, fNil, fVar, fC, he, List.length_cons, List.length_nil, Nat.zero_add, Nat.reduceAdd, if_true, e_take, t, wIxA, hx, optB_some]
/-- a number below 2 ** 16 -/
def Cel (w : W) : Prop := ∃ v : Nat, w = .int v ∧ v ≤ 65535
theorem tk_ok {st S : Sto} {n i : Nat} {c m : Int} {env : En} (h : Shp st S n c) (hc : c ≤ 10 ^ 14) (he : env[i]? = some (some (.ref n))) (h0 : 0 < m) (h1 : m < 10 ^ 800) : ∃ (v : Nat) (S' : Sto), fFn 2 f_law_take (fCons (fVar i) (fCons (fC (.int m)) fNil)) env S = .ok (.int v) S' ∧ (v : Int) < m ∧ Shp st S' n (c + 1) := by
  obtain ⟨v, S', t, hv, hS⟩ := h.take hc h0 h1
  refine ⟨v, S', ?_, hv, hS⟩
  simp only [fFn, fCons, fNil, fVar, fC, he, An.bind_ok, List.length_cons, List.length_nil, Nat.zero_add, Nat.reduceAdd, if_true, e_take, t]
theorem b800 : (10 : Int) ^ 6 < 10 ^ 800 := by decide +kernel
theorem entry_ok {st : Sto} {n many : Nat} {c : Int} (P : Pot st n c) (hc : c ≤ 10 ^ 12) (hm : 0 < many) (hm2 : many ≤ 100) : ∃ w o, f_law_entry [.ref n, .int many] st = .ok w (st.set n o) ∧ Cel w ∧ (∀ m, closedO m o = true) ∧ Pot (st.set n o) n (c + 6) := by
  have b8 := b800
  have E : ([some (.ref n), some (.int many), none, none] : En)[0]? = some (some (.ref n)) := rfl
  -- marks
  obtain ⟨v1, S1, t1, h1, P1⟩ := tk_ok (Shp.of P) (m := 16) (env := [some (.ref n), some (.int many), none, none]) (i := 0) (by omega) rfl (by omega) (by omega)
  obtain ⟨w2, S2, t2, h2, P2⟩ := pickS (f := fCons (fC (.int 3)) (fCons (fC (.int 3)) (fCons (fC (.int 3)) (fCons (fC (.int 3)) (fCons (fC (.int 1)) (fCons (fC (.int 7)) (fCons (fC (.int 15)) (fCons (fC (.int 11)) (fCons (fC (.int 0)) (fCons (fFn 2 f_law_take (fCons (fVar 0) (fCons (fC (.int 16)) fNil))) fNil)))))))))) (S0 := st) (S := S1) (ws := [.int 3, .int 3, .int 3, .int 3, .int 1, .int 7, .int 15, .int 11, .int 0, .int v1]) (env := [some (.ref n), some (.int many), none, none]) (i := 0) (m := 10)
    (by simp only [fCons, fC, fNil, An.bind_ok] at t1 ⊢; rw [t1]; rfl) P1 (by omega) rfl (by simp) (by simp) (by simp)
  obtain ⟨k2, rfl, hk2⟩ : ∃ k : Nat, w2 = .int k ∧ k ≤ 15 := by
    simp only [List.mem_cons, List.not_mem_nil, or_false] at h2
    rcases h2 with rfl | rfl | rfl | rfl | rfl | rfl | rfl | rfl | rfl | rfl
    · exact ⟨3, rfl, by omega⟩
    · exact ⟨3, rfl, by omega⟩
    · exact ⟨3, rfl, by omega⟩
    · exact ⟨3, rfl, by omega⟩
    · exact ⟨1, rfl, by omega⟩
    · exact ⟨7, rfl, by omega⟩
    · exact ⟨15, rfl, by omega⟩
    · exact ⟨11, rfl, by omega⟩
    · exact ⟨0, rfl, by omega⟩
    · exact ⟨v1, rfl, by omega⟩
  have b1 : (fSet 2 (fBin wIxA (fLst (fCons (fC (.int 3)) (fCons (fC (.int 3)) (fCons (fC (.int 3)) (fCons (fC (.int 3)) (fCons (fC (.int 1)) (fCons (fC (.int 7)) (fCons (fC (.int 15)) (fCons (fC (.int 11)) (fCons (fC (.int 0)) (fCons (fFn 2 f_law_take (fCons (fVar 0) (fCons (fC (.int 16)) fNil))) fNil))))))))))) (fFn 2 f_law_take (fCons (fVar 0) (fCons (fC (.int 10)) fNil))))) [some (.ref n), some (.int many), none, none] st = .nx [some (.ref n), some (.int many), some (.int k2), none] S2 := by
    unfold fSet
    rw [t2]
    rfl
  -- number
  obtain ⟨v3, S3, t3, h3, P3⟩ := P2.take (many := many) (by omega) (by omega) (by omega)
  have b2 : (fSet 3 (fFn 2 f_law_take (fCons (fVar 0) (fCons (fVar 1) fNil)))) [some (.ref n), some (.int many), some (.int k2), none] S2 = .nx [some (.ref n), some (.int many), some (.int k2), some (.int v3)] S3 := by
    simp only [fSet, fFn, fCons, fNil, fVar, List.getElem?_cons_zero, List.getElem?_cons_succ, An.bind_ok, List.length_cons, List.length_nil, Nat.zero_add, Nat.reduceAdd, if_true, e_take, t3, An.toS_ok, List.set_cons_succ, List.set_cons_zero]
  obtain ⟨v4, S4, t4, h4, P4⟩ := tk_ok P3 (m := 12) (env := [some (.ref n), some (.int many), some (.int k2), some (.int v3)]) (i := 0) (by omega) rfl (by omega) (by omega)
  obtain ⟨k5, S5, b3, hk5, P5⟩ : ∃ (k5 : Nat) (S5 : Sto), (fIfS (fCmp wEq (fFn 2 f_law_take (fCons (fVar 0) (fCons (fC (.int 12)) fNil))) (fC (.int 0))) (fSet 3 (fBin wIxA (fLst (fCons (fVar 1) (fCons (fC (.int 4095)) (fCons (fFn 2 f_law_take (fCons (fVar 0) (fCons (fC (.int 4096)) fNil))) (fCons (fC (.int 63)) fNil))))) (fFn 2 f_law_take (fCons (fVar 0) (fCons (fC (.int 4)) fNil))))) fNext) [some (.ref n), some (.int many), some (.int k2), some (.int v3)] S3 = .nx [some (.ref n), some (.int many), some (.int k2), some (.int k5)] S5 ∧ k5 ≤ 4095 ∧ Shp st S5 n (c + 6) := by
    by_cases hz : (v4 : Int) = 0
    · obtain ⟨v6, S6, t6, h6, P6⟩ := tk_ok P4 (m := 4096) (env := [some (.ref n), some (.int many), some (.int k2), some (.int v3)]) (i := 0) (by omega) rfl (by omega) (by omega)
      obtain ⟨w7, S7, t7, h7, P7⟩ := pickS (f := fCons (fVar 1) (fCons (fC (.int 4095)) (fCons (fFn 2 f_law_take (fCons (fVar 0) (fCons (fC (.int 4096)) fNil))) (fCons (fC (.int 63)) fNil)))) (S0 := S4) (S := S6) (ws := [.int many, .int 4095, .int v6, .int 63]) (env := [some (.ref n), some (.int many), some (.int k2), some (.int v3)]) (i := 0) (m := 4)
        (by
          have t6' := t6
          rw [show (fCons (fVar 1) (fCons (fC (.int 4095)) (fCons (fFn 2 f_law_take (fCons (fVar 0) (fCons (fC (.int 4096)) fNil))) (fCons (fC (.int 63)) fNil)))) [some (.ref n), some (.int many), some (.int k2), some (.int v3)] S4 = ((fCons (fC (.int 4095)) (fCons (fFn 2 f_law_take (fCons (fVar 0) (fCons (fC (.int 4096)) fNil))) (fCons (fC (.int 63)) fNil))) [some (.ref n), some (.int many), some (.int k2), some (.int v3)] S4).bind fun ws st2 => .ok (W.int many :: ws) st2 from rfl]
          rw [show (fCons (fC (.int 4095)) (fCons (fFn 2 f_law_take (fCons (fVar 0) (fCons (fC (.int 4096)) fNil))) (fCons (fC (.int 63)) fNil))) [some (.ref n), some (.int many), some (.int k2), some (.int v3)] S4 = (((fFn 2 f_law_take (fCons (fVar 0) (fCons (fC (.int 4096)) fNil))) [some (.ref n), some (.int many), some (.int k2), some (.int v3)] S4).bind fun w st1 => .ok [w, W.int 63] st1).bind fun ws st2 => .ok (W.int 4095 :: ws) st2 from rfl]
          rw [t6]
          rfl) P6 (by omega) rfl (by simp) (by simp) (by simp)
      obtain ⟨k7, rfl, hk7⟩ : ∃ k : Nat, w7 = .int k ∧ k ≤ 4095 := by
        simp only [List.mem_cons, List.not_mem_nil, or_false] at h7
        rcases h7 with rfl | rfl | rfl | rfl
        · exact ⟨many, rfl, by omega⟩
        · exact ⟨4095, rfl, by omega⟩
        · exact ⟨v6, rfl, by omega⟩
        · exact ⟨63, rfl, by omega⟩
      refine ⟨k7, S7, ?_, hk7, ?_⟩
      · unfold fIfS fCmp
        rw [t4]
        simp only [fC, An.bind_ok, wEq, eqI, hz, decide_true, optB_some, An.toS_ok, if_true]
        unfold fSet
        rw [t7]
        rfl
      · have e : c + 1 + 1 + 1 + 1 + 1 + 1 = c + 6 := by omega
        rw [← e]
        exact P7
    · refine ⟨v3, S4, ?_, by omega, ?_⟩
      · unfold fIfS fCmp
        rw [t4]
        simp only [fC, An.bind_ok, wEq, eqI, hz, decide_false, optB_some, An.toS_ok, Bool.false_eq_true, if_false, fNext]
      · obtain ⟨o, g, e, cl, hl, Pq⟩ := P4
        exact ⟨o, g, e, cl, hl, Pq.mono (by omega)⟩
  have e9 : wMul (.int (k5 : Int)) (.int 16) S5 = .ok (.int ((k5 * 16 : Nat) : Int)) S5 := by
    rw [wMul_any (by decide)]
    rfl
  have hr : fRun 4 b_law_entry [.ref n, .int many] st = .ok (.int ((k5 * 16 + k2 : Nat) : Int)) S5 := by
    refine fRun_rt (e := [some (.ref n), some (.int many), none, none]) rfl ?_
    unfold b_law_entry
    rw [fSeq_nx b1, fSeq_nx b2, fSeq_nx b3]
    simp only [fRet, fBin, fVar, fC, List.getElem?_cons_zero, List.getElem?_cons_succ, An.bind_ok, e9, wAdd_int, An.toS_ok]
    rfl
  obtain ⟨o, q1, q2, q3⟩ := P5.done hr rfl
  exact ⟨_, o, q1, ⟨_, rfl, by omega⟩, q2, q3⟩
theorem Shp.above {st S : Sto} {n m : Nat} {c : Int} {x : Ob} (h : Shp st S n c) (hm : st.length ≤ m) : Shp st (S.set m x) n c := by
  obtain ⟨o, g, e, cl, hl, a, mm, k, h1, r⟩ := h
  have hlen : (st.set n o).length ≤ m := by simpa using hm
  refine ⟨o, g.set (m - (st.set n o).length) x, ?_, cl, hl, a, mm, k, ?_, r⟩
  · rw [e, List.set_append_right _ _ hlen]
  · rw [List.getElem?_set_ne (by omega)]
    exact h1
theorem lc_draw {st : Sto} {n m : Nat} {d C : Int} {bind : W → En → Option En} {f : FE} {env : En} {A : W → Prop} (hm : st.length ≤ m) (hd : 0 ≤ d) : ∀ {items : List W} {acc : List W} {S : Sto} {c : Int}, acc.length + items.length ≤ 100000 → Shp st S n c → c + d * items.length ≤ C → S[m]? = some (.lst acc) →
    (∀ w ∈ items, ∃ env1, bind w env = some env1 ∧ ∀ (S : Sto) (c : Int), Shp st S n c → c ≤ C → m < S.length → ∃ w S', f env1 S = .ok w S' ∧ A w ∧ Shp st S' n (c + d) ∧ S'[m]? = S[m]?) →
    ∃ ws S', lcS none bind fYes f m env items S = .ok () S' ∧ S'[m]? = some (.lst (acc ++ ws)) ∧ ws.length = items.length ∧ (∀ w ∈ ws, A w) ∧ Shp st S' n (c + d * items.length)
  | [], acc, S, c, _, h, _, hS, _ => ⟨[], S, by simp [lcS, gdOk], by simpa using hS, rfl, by simp, by simpa using h⟩
  | w :: items, acc, S, c, hl, h, hC, hS, hf => by
    obtain ⟨env1, hb, hq⟩ := hf w List.mem_cons_self
    have hl' : acc.length + (items.length + 1) ≤ 100000 := by simpa using hl
    have hC' : c + d * ((items.length : Int) + 1) ≤ C := by simpa using hC
    have e1 : d * ((items.length : Int) + 1) = d * items.length + d := by rw [Int.mul_add, Int.mul_one]
    have hpos : 0 ≤ d * (items.length : Int) := Int.mul_nonneg hd (by omega)
    obtain ⟨y, S1, q1, q2, q3, q4⟩ := hq S c h (by omega) (sto_lt hS)
    rw [hS] at q4
    have hlt : acc.length < 100000 := by omega
    have hm1 : m < S1.length := sto_lt q4
    obtain ⟨ws, S', r1, r2, r3, r4, r5⟩ := lc_draw (st := st) (n := n) (m := m) (d := d) (C := C) (bind := bind) (f := f) (env := env) (A := A) hm hd (items := items) (acc := acc ++ [y]) (S := S1.set m (.lst (acc ++ [y]))) (c := c + d) (by simp; omega) (q3.above hm) (by omega) (set_at hm1) fun x hx => hf x (List.mem_cons_of_mem _ hx)
    refine ⟨y :: ws, S', ?_, by simpa using r2, by simp [r3], fun x hx => ?_, ?_⟩
    · simp only [lcS, gdOk, if_true, hb, fYes_ok, An.noex_ok, An.bind_ok, q1, q4, hlt]
      exact r1
    · rcases List.mem_cons.mp hx with rfl | hx
      · exact q2
      · exact r4 x hx
    · have e : c + d * ((w :: items).length : Int) = c + d + d * items.length := by
        rw [List.length_cons]
        push_cast
        omega
      rw [e]
      exact r5
theorem cells_wI : ∀ {ws : List W}, (∀ w ∈ ws, Cel w) → ∃ ns : List Nat, ws = wI8 ns ∧ ns.length = ws.length ∧ ∀ n ∈ ns, n ≤ 65535
  | [], _ => ⟨[], rfl, rfl, by simp⟩
  | w :: ws, h => by
    obtain ⟨v, rfl, hv⟩ := h w List.mem_cons_self
    obtain ⟨ns, rfl, hl, hn⟩ := cells_wI (ws := ws) fun x hx => h x (List.mem_cons_of_mem _ hx)
    refine ⟨v :: ns, rfl, by simp [hl], fun x hx => ?_⟩
    rcases List.mem_cons.mp hx with rfl | hx
    · exact hv
    · exact hn x hx
/-- .. with what stays -/
theorem tkS {st S : Sto} {n i : Nat} {c m : Int} {env : En} (h : Shp st S n c) (hc : c ≤ 10 ^ 14) (he : env[i]? = some (some (.ref n))) (h0 : 0 < m) (h1 : m < 10 ^ 800) : ∃ (v : Nat) (S' : Sto), fFn 2 f_law_take (fCons (fVar i) (fCons (fC (.int m)) fNil)) env S = .ok (.int v) S' ∧ (v : Int) < m ∧ Shp st S' n (c + 1) ∧ (∀ j, j ≠ n → S'[j]? = S[j]?) ∧ S'.length = S.length := by
  obtain ⟨v, o, t, v0, v1, cl, P2⟩ := take_ok h.pot (by omega) h0 h1
  refine ⟨v.toNat, S.set n o, ?_, by rw [Int.toNat_of_nonneg v0]; exact v1, h.set cl P2, fun j hj => List.getElem?_set_ne (Ne.symm hj), by simp⟩
  simp only [fFn, fCons, fNil, fVar, fC, he, An.bind_ok, List.length_cons, List.length_nil, Nat.zero_add, Nat.reduceAdd, if_true, e_take, t, Int.toNat_of_nonneg v0]
theorem pickT {st S0 S : Sto} {n i : Nat} {c : Int} {env : En} {f : FA} {ws : List W} (hf : f env S0 = .ok ws S) (h : Shp st S n c) (hc : c ≤ 10 ^ 13) (he : env[i]? = some (some (.ref n))) (h0 : 0 < ws.length) (h1 : ws.length ≤ 1000) {m : Int} (hm : m = ws.length) :
    ∃ w S', fBin wIxA (fLst f) (fFn 2 f_law_take (fCons (fVar i) (fCons (fC (.int m)) fNil))) env S0 = .ok w S' ∧ w ∈ ws ∧ Shp st S' n (c + 1) ∧ ∀ j, j ≠ n → j < S.length → S'[j]? = S[j]? := by
  obtain ⟨w, S', q1, q2, q3⟩ := pickS hf h hc he h0 h1 hm
  refine ⟨w, S', q1, q2, q3, fun j hj hl => ?_⟩
  subst hm
  have b8 : (1000 : Int) < 10 ^ 800 := by decide +kernel
  obtain ⟨v', o, t2, _⟩ := take_ok (h.app (g := [Ob.lst ws])).pot (by omega) (show (0 : Int) < (ws.length : Int) by omega) (by omega)
  simp only [fBin, fLst, hf, An.bind_ok, if_pos h1, fFn, fCons, fNil, fVar, fC, he, List.length_cons, List.length_nil, Nat.zero_add, Nat.reduceAdd, if_true, e_take, t2, wIxA] at q1
  cases e : wIx (.ref S.length) (.int v') ((S ++ [Ob.lst ws]).set n o) with
  | none => rw [e] at q1; cases q1
  | some x =>
    rw [e] at q1
    simp only [optB_some] at q1
    have e2 := (An.ok.inj q1).2
    rw [← e2, List.getElem?_set_ne (Ne.symm hj), List.getElem?_append_left hl]
theorem entryS {st S : Sto} {n many : Nat} {c : Int} (h : Shp st S n c) (hc : c ≤ 10 ^ 12) (hm : 0 < many) (hm2 : many ≤ 100) : ∃ w S', f_law_entry [.ref n, .int many] S = .ok w S' ∧ Cel w ∧ Shp st S' n (c + 6) ∧ ∀ j, j ≠ n → S'[j]? = S[j]? := by
  obtain ⟨w, o, q1, q2, q3, q4⟩ := entry_ok h.pot hc hm hm2
  exact ⟨w, _, q1, q2, h.set q3 q4, fun j hj => List.getElem?_set_ne (Ne.symm hj)⟩
theorem tup8 {st S : Sto} {n : Nat} {c d : Int} {f : FE} {x y z : W} (h : Shp st S n c) (hd : 0 ≤ d) (hd2 : d ≤ 10) (hC : c ≤ 10 ^ 10)
    (hf : ∀ (k : Nat) (S : Sto) (c : Int), Shp st S n c → c ≤ 10 ^ 11 → ∃ w S', f [some x, some y, some z, some (.int k)] S = .ok w S' ∧ Cel w ∧ Shp st S' n (c + d) ∧ ∀ j, j ≠ n → j < S.length → S'[j]? = S[j]?) :
    ∃ ns S', fCall wTuple (fCons (fLc [3] (fIt wRng1 (fCons (fC (.int 8)) fNil)) (bN 3) fYes f) fNil) [some x, some y, some z, none] S = .ok (.tup (wI8 ns)) S' ∧ Pg ns ∧ Shp st S' n (c + d * 8) := by
  have hn : n < st.length := by
    obtain ⟨_, _, _, _, hl, _⟩ := h
    exact hl
  have hlen : st.length ≤ S.length := by
    obtain ⟨o, g, e, _⟩ := h
    rw [e]
    simp
  have hr : (rngW 0 8).length = 8 := by decide
  obtain ⟨ws, S', q1, q2, q3, q4, q5⟩ := lc_draw (st := st) (n := n) (m := S.length) (d := d) (C := 10 ^ 11) (bind := bN 3) (f := f) (env := [some x, some y, some z, none]) (A := Cel) hlen hd (items := rngW 0 8) (acc := []) (S := S ++ [.lst []]) (c := c) (by rw [hr]; decide) h.app (by rw [hr]; omega) sto_at fun w hw => by
    obtain ⟨k, _, rfl⟩ := List.mem_map.mp hw
    refine ⟨_, rfl, fun S1 c1 h1 hc1 hl1 => ?_⟩
    obtain ⟨w, S2, r1, r2, r3, r4⟩ := hf k S1 c1 h1 hc1
    refine ⟨w, S2, ?_, r2, r3, r4 _ (by omega) hl1⟩
    have e : (0 : Int) + (k : Nat) = (k : Int) := by omega
    rw [e]
    exact r1
  rw [hr] at q3 q5
  obtain ⟨ns, rfl, hl, hb⟩ := cells_wI q4
  refine ⟨ns, S', ?_, ⟨by omega, hb⟩, q5⟩
  have e1 : fLc [3] (fIt wRng1 (fCons (fC (.int 8)) fNil)) (bN 3) fYes f [some x, some y, some z, none] S = .ok (.ref S.length) S' := by
    unfold fLc
    rw [show fIt wRng1 (fCons (fC (.int 8)) fNil) [some x, some y, some z, none] S = .ok (rngW 0 8, none) S from (by have h8 : okR 0 8 := (by unfold okR; omega); simp only [fIt, fCons, fC, fNil, An.bind_ok, wRng1, if_pos h8]), An.bind_ok]
    rw [show wipeW [some x, some y, some z, none] [3] = [some x, some y, some z, none] from rfl, q1]
    rfl
  rw [List.nil_append] at q2
  have e2 : getL S' (.ref S.length) = some (wI8 ns) := by simp only [getL, q2]
  simp only [fCall, fCons, fNil, e1, An.bind_ok, wTuple, e2]
theorem pages1_ok {st : Sto} {n many : Nat} {c : Int} (P : Pot st n c) (hc : c ≤ 10 ^ 9) (hm : 0 < many) (hm2 : many ≤ 100) : ∃ ns o, f_law_page [.ref n, .int many] st = .ok (.tup (wI8 ns)) (st.set n o) ∧ Pg ns ∧ (∀ m, closedO m o = true) ∧ Pot (st.set n o) n (c + 60) := by
  have b8 := b800
  obtain ⟨way, S1, t1, h1, P1, _⟩ := tkS (Shp.of P) (m := 6) (env := [some (.ref n), some (.int many), none, none]) (i := 0) (by omega) rfl (by omega) (by omega)
  have b1 : (fSet 2 (fFn 2 f_law_take (fCons (fVar 0) (fCons (fC (.int 6)) fNil)))) [some (.ref n), some (.int many), none, none] st = .nx [some (.ref n), some (.int many), some (.int way), none] S1 := by
    unfold fSet
    rw [t1]
    rfl
  have fin : ∀ {ns : List Nat} {S' : Sto} {c' : Int}, b_law_page [some (.ref n), some (.int many), none, none] st = .rt (.tup (wI8 ns)) S' → Pg ns → Shp st S' n c' → c' ≤ c + 60 → ∃ ns o, f_law_page [.ref n, .int many] st = .ok (.tup (wI8 ns)) (st.set n o) ∧ Pg ns ∧ (∀ m, closedO m o = true) ∧ Pot (st.set n o) n (c + 60) := fun {ns S' c'} hb hp hs hle => by
    obtain ⟨o, q1, q2, q3⟩ := hs.done (F := fRun 4 b_law_page) (ws := [.ref n, .int many]) (fRun_rt (e := [some (.ref n), some (.int many), none, none]) rfl hb) (wI8_closed ns)
    exact ⟨ns, o, q1, hp, q2, q3.mono hle⟩
  have E : ∀ k : Nat, ([some (.ref n), some (.int many), some (.int way), some (.int k)] : En)[0]? = some (some (.ref n)) := fun _ => rfl
  by_cases c0 : (way : Int) = 0
  · have hm' : wMul (.tup [.int 0]) (.int 8) S1 = .ok (.tup (wI8 (List.replicate 8 0))) S1 := by
      show (if [W.int 0] ≠ [] ∧ (2 : Int) ≤ 8 ∧ (8 : Int) ≤ 1000 ∧ [W.int 0].length ≤ 1000 then An.ok (W.tup (List.replicate (8 : Int).toNat [W.int 0]).flatten) S1 else .bad) = _
      rw [if_pos ⟨by simp, by decide, by decide, by decide⟩]
      rfl
    refine fin (ns := List.replicate 8 0) (S' := S1) ?_ ⟨by simp, by simp⟩ P1 (by omega)
    unfold b_law_page
    rw [fSeq_nx b1]
    simp only [fSeq, fIfS, fCmp, fVar, fC, wEq, eqI, List.getElem?_cons_zero, List.getElem?_cons_succ, An.bind_ok, decide_eq_true c0, optB_some, An.toS_ok, if_true, fRet, fBin, fTup, fCons, fNil, List.length_cons, List.length_nil, Nat.zero_add, Nat.reduceLeDiff, hm']
  by_cases c1 : (way : Int) < 4
  · obtain ⟨ns, S2, t2, hp, P2⟩ := tup8 (x := .ref n) (y := .int many) (z := .int way) (f := fFn 2 f_law_entry (fCons (fVar 0) (fCons (fVar 1) fNil))) (d := 6) P1 (by omega) (by omega) (by omega) fun k S c' h hc' => by
      obtain ⟨w, S', q1, q2, q3, q4⟩ := entryS h (by omega) hm hm2
      refine ⟨w, S', ?_, q2, q3, fun j hj _ => q4 j hj⟩
      simp only [fFn, fCons, fNil, fVar, List.getElem?_cons_zero, List.getElem?_cons_succ, An.bind_ok, List.length_cons, List.length_nil, Nat.zero_add, Nat.reduceAdd, if_true, q1]
    refine fin ?_ hp P2 (by omega)
    unfold b_law_page
    rw [fSeq_nx b1]
    simp only [fSeq, fIfS, fCmp, fVar, fC, wEq, wLt, wIb, eqI, List.getElem?_cons_zero, List.getElem?_cons_succ, An.bind_ok, decide_eq_false c0, decide_eq_true c1, optB_some, An.toS_ok, Bool.false_eq_true, if_false, if_true, fNext, fRet]
    rw [t2]
    rfl
  by_cases c2 : (way : Int) = 4
  · obtain ⟨ns, S2, t2, hp, P2⟩ := tup8 (x := .ref n) (y := .int many) (z := .int way) (f := fFn 2 f_law_take (fCons (fVar 0) (fCons (fC (.int 65536)) fNil))) (d := 1) P1 (by omega) (by omega) (by omega) fun k S c' h hc' => by
      obtain ⟨v, S', q1, q2, q3, q4, _⟩ := tkS h (m := 65536) (env := [some (.ref n), some (.int many), some (.int way), some (.int k)]) (i := 0) (by omega) rfl (by omega) (by omega)
      exact ⟨.int v, S', q1, ⟨v, rfl, by omega⟩, q3, fun j hj _ => q4 j hj⟩
    refine fin ?_ hp P2 (by omega)
    unfold b_law_page
    rw [fSeq_nx b1]
    simp only [fSeq, fIfS, fCmp, fVar, fC, wEq, wLt, wIb, eqI, List.getElem?_cons_zero, List.getElem?_cons_succ, An.bind_ok, decide_eq_false c0, decide_eq_false c1, decide_eq_true c2, optB_some, An.toS_ok, Bool.false_eq_true, if_false, if_true, fNext, fRet]
    rw [t2]
    rfl
  · obtain ⟨ns, S2, t2, hp, P2⟩ := tup8 (x := .ref n) (y := .int many) (z := .int way) (f := fBin wIxA (fLst (fCons (fC (.int 0)) (fCons (fC (.int 1)) (fCons (fC (.int 65535)) (fCons (fFn 2 f_law_take (fCons (fVar 0) (fCons (fC (.int 40)) fNil))) fNil))))) (fFn 2 f_law_take (fCons (fVar 0) (fCons (fC (.int 4)) fNil)))) (d := 2) P1 (by omega) (by omega) (by omega) fun k S c' h hc' => by
      obtain ⟨v, Sa, q1, q2, q3, q4, hlen⟩ := tkS h (m := 40) (env := [some (.ref n), some (.int many), some (.int way), some (.int k)]) (i := 0) (by omega) rfl (by omega) (by omega)
      obtain ⟨w, S', r1, r2, r3, r4⟩ := pickT (f := fCons (fC (.int 0)) (fCons (fC (.int 1)) (fCons (fC (.int 65535)) (fCons (fFn 2 f_law_take (fCons (fVar 0) (fCons (fC (.int 40)) fNil))) fNil)))) (S0 := S) (S := Sa) (ws := [.int 0, .int 1, .int 65535, .int v]) (env := [some (.ref n), some (.int many), some (.int way), some (.int k)]) (i := 0) (m := 4)
        (by simp only [fCons, fC, fNil, An.bind_ok] at q1 ⊢; rw [q1]; rfl) q3 (by omega) rfl (by simp) (by simp) (by simp)
      refine ⟨w, S', r1, ?_, ?_, fun j hj hl => (r4 j hj (by omega)).trans (q4 j hj)⟩
      · simp only [List.mem_cons, List.not_mem_nil, or_false] at r2
        rcases r2 with rfl | rfl | rfl | rfl
        · exact ⟨0, rfl, by omega⟩
        · exact ⟨1, rfl, by omega⟩
        · exact ⟨65535, rfl, by omega⟩
        · exact ⟨v, rfl, by omega⟩
      · have e : c' + 2 = c' + 1 + 1 := by omega
        rw [e]
        exact r3
    refine fin ?_ hp P2 (by omega)
    unfold b_law_page
    rw [fSeq_nx b1]
    simp only [fSeq, fIfS, fCmp, fVar, fC, wEq, wLt, wIb, eqI, List.getElem?_cons_zero, List.getElem?_cons_succ, An.bind_ok, decide_eq_false c0, decide_eq_false c1, decide_eq_false c2, optB_some, An.toS_ok, Bool.false_eq_true, if_false, fNext, fRet]
    rw [t2]
    rfl

def TyV (S : Sto) : W → Prop
  | .int _ => True
  | .bl _ => True
  | .str _ => True
  | .non => True
  | .tup _ => True
  | .ref n => ∃ l : List W, S[n]? = some (Ob.lst l)
  | _ => False
theorem TyV.ty {S : Sto} {w : W} (h : TyV S w) : TyB S w := by
  cases w with
  | int i => exact TyB.int
  | bl i => exact TyB.bl
  | str i => exact TyB.str
  | non => exact TyB.non
  | tup l => exact TyB.tup
  | ref n => obtain ⟨l, h⟩ := h; exact TyB.lst h
  | _ => exact h.elim
def TyD (S : Sto) : Nat → W → Prop
  | 0, w => TyV S w
  | k + 1, w => TyV S w ∧ ∀ l, w = .tup l → ∀ v ∈ l, TyD S k v
theorem TyD.v {S : Sto} : ∀ {k : Nat} {w : W}, TyD S k w → TyV S w
  | 0, _, h => h
  | _ + 1, _, h => h.1
def Ext (S S' : Sto) : Prop := ∀ (i : Nat) (l : List W), S[i]? = some (Ob.lst l) → ∃ l' : List W, S'[i]? = some (Ob.lst l')
theorem Ext.refl {S : Sto} : Ext S S := fun _ l h => ⟨l, h⟩
theorem Ext.trans {S T U : Sto} (h : Ext S T) (k : Ext T U) : Ext S U := fun i l e => by
  obtain ⟨l', e'⟩ := h i l e
  exact k i l' e'
theorem Ext.app {S g : Sto} : Ext S (S ++ g) := fun _ l h => ⟨l, sto_app h⟩
theorem Ext.pot {S S' : Sto} {n : Nat} {c : Int} (P : Pot S' n c) (k : ∀ j, j ≠ n → j < S.length → S'[j]? = S[j]?) : Ext S S' := fun i l h => by
  by_cases hi : i = n
  · subst hi
    obtain ⟨a, m, k, h, _⟩ := P
    exact ⟨_, h⟩
  · exact ⟨l, (k i hi (sto_lt h)).trans h⟩
theorem TyV.ext {S S' : Sto} {w : W} (h : TyV S w) (e : Ext S S') : TyV S' w := by
  cases w with
  | ref n =>
    obtain ⟨l, h⟩ := h
    exact e n l h
  | _ => first | trivial | exact h.elim
theorem TyD.ext {S S' : Sto} (e : Ext S S') : ∀ {k : Nat} {w : W}, TyD S k w → TyD S' k w
  | 0, _, h => TyV.ext h e
  | _ + 1, _, h => ⟨h.1.ext e, fun l hl v hv => TyD.ext e (h.2 l hl v hv)⟩
theorem closedL_mem {m : Nat} : ∀ {l : List W}, closedL m l = true → ∀ v ∈ l, closedW m v = true
  | [], _, _, hv => absurd hv List.not_mem_nil
  | w :: l, h, v, hv => by
    simp only [closedL, Bool.and_eq_true] at h
    rcases List.mem_cons.mp hv with rfl | hv
    · exact h.1
    · exact closedL_mem h.2 v hv
theorem TyV.take {S : Sto} {m : Nat} {w : W} (h : TyV S w) (c : closedW m w = true) : TyV (S.take m) w := by
  cases w with
  | ref n =>
    obtain ⟨l, h⟩ := h
    simp only [closedW, decide_eq_true_eq] at c
    exact ⟨l, by rw [List.getElem?_take_of_lt c]; exact h⟩
  | _ => first | trivial | exact h.elim
theorem TyD.take {S : Sto} {m : Nat} : ∀ {k : Nat} {w : W}, TyD S k w → closedW m w = true → TyD (S.take m) k w
  | 0, _, h, c => TyV.take h c
  | _ + 1, _, h, c => ⟨h.1.take c, fun l hl v hv => TyD.take (h.2 l hl v hv) (by
    subst hl
    simp only [closedW] at c
    exact closedL_mem c v hv)⟩
theorem keep_ext {n : Nat} {s s' : Sto} {c : Int} (k : Keep n s s') (P : Pot s' n c) : Ext s s' := Ext.pot P k.eq

end Lw

namespace Lw
open PySem PySem.Spec PyProof.Rows L2 Sw
/-- one step; the goal's head says which -/
local macro_rules | `(tactic| decreasing_trivial_pre_omega) => `(tactic| first
  | ((with_reducible refine Sw.gWi ?_); first
    | with_reducible refine Sw.ws_ift ?_
    | with_reducible refine Sw.ws_iff ?_
    | with_reducible refine Sw.ws_ifn ?_
    | ((with_reducible refine Sw.ws_ifd1 ?_ ?_); (focus first | assumption | omega | (simp; done)))
    | ((with_reducible refine Sw.ws_ifd0 ?_ ?_); (focus first | assumption | omega | (simp; done)))
    | ((with_reducible refine Sw.ws_ifb1 ?_ ?_); (focus rfl))
    | ((with_reducible refine Sw.ws_ifb0 ?_ ?_); (focus rfl))
    )
  | ((with_reducible refine Sw.gW ?_); first
    | with_reducible refine Sw.ws_seqS ?_
    | with_reducible refine Sw.ws_ifS ?_
    | with_reducible refine Sw.ws_forN ?_
    | with_reducible refine Sw.ws_seq ?_
    | with_reducible refine Sw.ws_set ?_
    | with_reducible refine Sw.ws_if ?_
    | with_reducible refine Sw.ws_ret ?_
    | with_reducible refine Sw.ws_next ?_
    | with_reducible refine Sw.ws_drop ?_
    | with_reducible refine Sw.ws_for ?_
    | with_reducible refine Sw.ws_asg ?_
    | with_reducible refine Sw.ws_retN ?_
    | with_reducible refine Sw.ws_raise ?_
    | with_reducible refine Sw.ws_raiseD ?_
    | with_reducible refine Sw.ws_gN ?_
    | with_reducible refine Sw.ws_brk ?_
    | with_reducible refine Sw.ws_cnt ?_
    | ((with_reducible apply Sw.ws_aug); rfl)
    | with_reducible refine Sw.ws_gSub ?_
    | with_reducible refine Sw.ws_gsCons ?_
    | with_reducible refine Sw.ws_gsNil ?_
    | ((with_reducible apply Sw.ws_gsConsE); (focus rfl))
    | ((with_reducible apply Sw.ws_gsNilE); (focus rfl))
    | with_reducible refine Sw.ws_par2 ?_
    | with_reducible refine Sw.ws_par3 ?_
    | ((with_reducible refine Sw.ws_gTup ?_ ?_); (focus rfl))
    | ((with_reducible apply Sw.ws_gSeqN); (focus first | rfl | exact getS_at (by assumption) | exact getS_at sto_at | exact getS_at (sto_app (by assumption)) | exact getS_at (sto_app sto_at)); (focus first | rfl | decide | (simp; done) | (simp; omega)))
    | ((with_reducible apply Sw.ws_gStarN); (focus first | rfl | exact getS_at (by assumption) | exact getS_at sto_at | exact getS_at (sto_app (by assumption)) | exact getS_at (sto_app sto_at)); (focus first | decide | (simp; done) | (simp; omega)))
    )
  | ((with_reducible refine Sw.gI ?_); first
    | with_reducible refine Sw.wp_ift ?_
    | with_reducible refine Sw.wp_iff ?_
    | with_reducible refine Sw.wp_ifn ?_
    | ((with_reducible refine Sw.wp_ifd1 ?_ ?_); (focus first | assumption | omega | (simp; done)))
    | ((with_reducible refine Sw.wp_ifd0 ?_ ?_); (focus first | assumption | omega | (simp; done)))
    | ((with_reducible refine Sw.wp_ifb1 ?_ ?_); (focus rfl))
    | ((with_reducible refine Sw.wp_ifb0 ?_ ?_); (focus rfl))
    )
  | ((with_reducible refine Sw.gF ?_); first
    | ((with_reducible apply Sw.v_var); rfl)
    | with_reducible refine Sw.v_c ?_
    | with_reducible refine Sw.v_cons ?_
    | with_reducible refine Sw.v_nil ?_
    | ((with_reducible refine Sw.v_fn ?_))
    | with_reducible refine Sw.v_call ?_
    | ((with_reducible apply Sw.v_ask); (focus rfl); (focus rfl))
    | with_reducible refine Sw.v_bin ?_
    | with_reducible refine Sw.v_cmp ?_
    | with_reducible refine Sw.v_cmpE ?_
    | with_reducible refine Sw.v_tru ?_
    | with_reducible refine Sw.v_notT ?_
    | with_reducible refine Sw.v_andT ?_
    | with_reducible refine Sw.v_orT ?_
    | with_reducible refine Sw.v_and ?_
    | with_reducible refine Sw.v_or ?_
    | with_reducible refine Sw.v_not ?_
    | with_reducible refine Sw.v_if ?_
    | with_reducible refine Sw.v_chn ?_
    | with_reducible refine Sw.v_chnE ?_
    | with_reducible refine Sw.v_tup ?_
    | with_reducible refine Sw.v_lst ?_
    | with_reducible refine Sw.v_sl ?_
    | with_reducible refine Sw.v_no ?_
    | with_reducible refine Sw.v_so ?_
    | with_reducible refine Sw.v_neg ?_
    | with_reducible refine Sw.v_lc ?_
    | with_reducible refine Sw.v_it ?_
    | with_reducible refine Sw.v_seqI ?_
    | with_reducible refine Sw.v_mt ?_
    | with_reducible refine Sw.v_m1 ?_
    | with_reducible refine Sw.v_dict0 ?_
    | with_reducible refine Sw.v_it1 ?_
    )
  | ((with_reducible refine Sw.gO ?_); first
    | with_reducible refine Sw.v_ltI ?_
    | with_reducible refine Sw.v_leI ?_
    | with_reducible refine Sw.v_gtI ?_
    | with_reducible refine Sw.v_geI ?_
    | with_reducible refine Sw.v_eqI ?_
    | with_reducible refine Sw.v_neI ?_
    | with_reducible refine Sw.v_eqS ?_
    | with_reducible refine Sw.v_neS ?_
    | with_reducible refine Sw.v_truB ?_
    | with_reducible refine Sw.v_truI ?_
    | with_reducible refine Sw.v_truN ?_
    | with_reducible refine Sw.v_truT ?_
    | with_reducible refine Sw.v_seqT ?_
    | with_reducible refine Sw.v_seqR ?_
    | with_reducible refine Sw.v_seqS ?_
    | ((with_reducible apply Sw.v_seqL); (focus first | assumption | exact sto_at | exact sto_app (by assumption) | exact sto_app (sto_app (by assumption)) | exact sto_app sto_at | exact sto_app (sto_app sto_at)))
    | with_reducible refine Sw.v_inK ?_
    | with_reducible refine Sw.v_notInK ?_
    | ((with_reducible apply Sw.wp_opt); (focus rfl))
    )
  | ((with_reducible refine Sw.gE ?_); first
    | with_reducible refine Sw.wp_bind ?_
    | with_reducible refine Sw.wp_ok ?_
    | with_reducible refine Sw.v_addI ?_
    | with_reducible refine Sw.v_subI ?_
    | ((with_reducible refine Sw.v_mulI (.inl ?_) ?_); (focus first | decide | omega))
    | ((with_reducible refine Sw.v_mulT ?_ ?_); exact ⟨by simp, by decide, by decide, by simp⟩)
    | ((with_reducible apply Sw.v_mulL); (focus first | assumption | exact sto_at | exact sto_app (by assumption) | exact sto_app (sto_app (by assumption)) | exact sto_app sto_at | exact sto_app (sto_app sto_at)); (focus exact ⟨by decide, by decide, by simp⟩))
    | ((with_reducible refine Sw.v_modI ?_ ?_); (focus first | decide | omega))
    | ((with_reducible refine Sw.v_addT ?_ ?_); refine line1000 ?_; (focus first | decide | (simp; done) | (simp; omega)))
    | ((with_reducible apply Sw.v_powE); (focus decide +kernel); (focus (simp only [Int.reduceToNat, Int.reducePow]; rfl)))
    | ((with_reducible apply Sw.v_ixL); (first | assumption | exact sto_at | exact sto_app (by assumption) | exact sto_app (sto_app (by assumption)) | exact sto_app sto_at | exact sto_app (sto_app sto_at)); (focus first | rfl | assumption | exact atI_nat (by assumption) | exact Sw.atc0 | exact Sw.atc1 | exact Sw.atc2))
    | ((with_reducible apply Sw.v_ixT); (focus first | rfl | assumption | exact atI_nat (by assumption) | exact Sw.atc0 | exact Sw.atc1 | exact Sw.atc2))
    | ((with_reducible apply Sw.v_ixR); (focus first | rfl | assumption | exact atI_nat (by assumption) | exact Sw.atc0 | exact Sw.atc1 | exact Sw.atc2))
    | with_reducible refine Sw.v_slc1 ?_
    | with_reducible refine Sw.v_slc2 ?_
    | ((with_reducible apply Sw.v_slLt1); (focus first | assumption | exact sto_at | exact sto_app (by assumption) | exact sto_app (sto_app (by assumption)) | exact sto_app sto_at | exact sto_app (sto_app sto_at)))
    | ((with_reducible apply Sw.v_slLt2); (focus first | assumption | exact sto_at | exact sto_app (by assumption) | exact sto_app (sto_app (by assumption)) | exact sto_app sto_at | exact sto_app (sto_app sto_at)))
    | ((with_reducible apply Sw.v_slLd1); (focus first | assumption | exact sto_at | exact sto_app (by assumption) | exact sto_app (sto_app (by assumption)) | exact sto_app sto_at | exact sto_app (sto_app sto_at)))
    | ((with_reducible apply Sw.v_addL); (focus first | assumption | exact sto_at | exact sto_app (by assumption) | exact sto_app (sto_app (by assumption)) | exact sto_app sto_at | exact sto_app (sto_app sto_at)); (focus first | assumption | exact sto_at | exact sto_app (by assumption) | exact sto_app (sto_app (by assumption)) | exact sto_app sto_at | exact sto_app (sto_app sto_at)); (focus first | decide | (simp; done) | (simp; omega)))
    | with_reducible refine Sw.v_sortSet ?_
    | ((with_reducible refine Sw.v_sl0 ?_ ?_); (focus omega))
    | ((with_reducible refine Sw.v_sl1 ?_ ?_); (focus omega))
    | with_reducible refine Sw.v_lenT ?_
    | with_reducible refine Sw.v_lenR ?_
    | ((with_reducible apply Sw.v_lenL); (focus first | assumption | exact sto_at | exact sto_app (by assumption) | exact sto_app (sto_app (by assumption)) | exact sto_app sto_at | exact sto_app (sto_app sto_at)))
    | ((with_reducible apply Sw.v_appT); (focus first | decide | (simp; done) | (simp; omega)))
    | with_reducible refine Sw.v_intI ?_
    | with_reducible refine Sw.v_intB ?_
    | with_reducible refine Sw.v_absI ?_
    | with_reducible refine Sw.v_max2 ?_
    | with_reducible refine Sw.v_min2 ?_
    | with_reducible refine Sw.v_listT ?_
    | ((with_reducible apply Sw.v_listL); (focus first | assumption | exact sto_at | exact sto_app (by assumption) | exact sto_app (sto_app (by assumption)) | exact sto_app sto_at | exact sto_app (sto_app sto_at)))
    | with_reducible refine Sw.v_tupleT ?_
    | ((with_reducible apply Sw.v_tupleL); (focus first | assumption | exact sto_at | exact sto_app (by assumption) | exact sto_app (sto_app (by assumption)) | exact sto_app sto_at | exact sto_app (sto_app sto_at)))
    | ((with_reducible refine Sw.v_rng1 ?_ ?_); (focus first | exact ⟨by omega, by omega, by omega, by omega⟩ | decide))
    | ((with_reducible refine Sw.v_rng2 ?_ ?_); (focus first | exact ⟨by omega, by omega, by omega, by omega⟩ | decide))
    | with_reducible refine Sw.v_zipT ?_
    | with_reducible refine Sw.v_enumT ?_
    | ((with_reducible apply Sw.v_enumL); (focus first | assumption | exact sto_at | exact sto_app (by assumption) | exact sto_app (sto_app (by assumption)) | exact sto_app sto_at | exact sto_app (sto_app sto_at)))
    | with_reducible refine Sw.v_andI ?_
    | with_reducible refine Sw.v_orI ?_
    | ((with_reducible refine Sw.v_shrI ?_ ?_); decide)
    | ((with_reducible apply Sw.v_allL); (focus first | assumption | exact sto_at | exact sto_app (by assumption) | exact sto_app (sto_app (by assumption)) | exact sto_app sto_at | exact sto_app (sto_app sto_at)))
    | ((with_reducible apply Sw.v_anyL); (focus first | assumption | exact sto_at | exact sto_app (by assumption) | exact sto_app (sto_app (by assumption)) | exact sto_app sto_at | exact sto_app (sto_app sto_at)))
    | with_reducible refine Sw.v_addGI ?_
    | ((with_reducible refine Sw.v_addGT ?_ ?_); refine line1000 ?_; (focus first | decide | (simp; done) | (simp; omega)))
    | ((with_reducible apply Sw.v_ixK); (focus rfl))
    )
  | with_reducible refine ⟨_, rfl, ?_⟩
  | with_reducible refine ⟨_, _, rfl, ?_⟩
  | with_reducible refine ⟨_, _, _, rfl, ?_⟩
  | ((with_reducible refine And.intro ?_ ?_); (focus first | rfl | decide | exact isLst_at sto_at | exact isLst_at (by assumption) | exact isLst_at (sto_app sto_at) | exact isLst_at (sto_app (by assumption)) | (simp; done) | (simp; omega)))
  | exact ⟨[], (List.append_nil _).symm⟩
  | with_reducible rfl
  | with_reducible refine Sw.ex_app ?_
  | exact ⟨_, rfl⟩
  )
/-! ### plain data -/
def PlD : Nat → W → Prop
  | 0, w => match w with
    | .int i => i.natAbs ≤ 10 ^ 50
    | .bl _ => True
    | .non => True
    | .str z => PyData.canLay0 (.str z) = true
    | _ => False
  | k + 1, w => match w with
    | .int i => i.natAbs ≤ 10 ^ 50
    | .bl _ => True
    | .non => True
    | .str z => PyData.canLay0 (.str z) = true
    | .tup l => l.length ≤ 1000 ∧ ∀ x ∈ l, PlD k x
    | _ => False
theorem PlD.ty {k : Nat} {w : W} {st : Sto} (h : PlD k w) : TyB st w := by
  cases k with
  | zero => cases w <;> first | exact TyB.int | exact TyB.bl | exact TyB.str | exact TyB.non | exact h.elim
  | succ k => cases w <;> first | exact TyB.int | exact TyB.bl | exact TyB.str | exact TyB.non | exact TyB.tup | exact h.elim
theorem PlD.mem {k : Nat} {l : List W} (h : PlD (k + 1) (.tup l)) : ∀ x ∈ l, PlD k x := h.2
theorem PlD.d {st : Sto} : ∀ {k m : Nat} {w : W}, PlD k w → k + 1 ≤ m → ∃ d, toD st m w = some d
  | _, 0, _, _, hk => absurd hk (by omega)
  | 0, m + 1, w, h, hk => by
    cases w with
    | int i => exact ⟨_, rfl⟩
    | bl i => exact ⟨_, rfl⟩
    | non => exact ⟨_, rfl⟩
    | str z =>
      refine ⟨.str z, ?_⟩
      show (if PyData.canLay0 (.str z) = true then some (PyData.str z) else none) = _
      rw [if_pos (show PyData.canLay0 (.str z) = true from h)]
    | _ => exact h.elim
  | k + 1, m + 1, w, h, hk => by
    cases w with
    | int i => exact ⟨_, rfl⟩
    | bl i => exact ⟨_, rfl⟩
    | non => exact ⟨_, rfl⟩
    | str z =>
      refine ⟨.str z, ?_⟩
      show (if PyData.canLay0 (.str z) = true then some (PyData.str z) else none) = _
      rw [if_pos (show PyData.canLay0 (.str z) = true from h)]
    | tup l =>
      have hm : ∀ x ∈ l, ∃ d, toD st m x = some d := fun x hx => PlD.d (h.2 x hx) (by omega)
      refine ⟨.tuple (l.map fun x => (toD st m x).getD .none), ?_⟩
      rw [toD_tup, mapM_all (g := fun x => (toD st m x).getD .none)]
      · rfl
      · intro x hx
        obtain ⟨d, hd⟩ := hm x hx
        rw [hd]
        rfl
    | _ => exact h.elim
theorem eqT_nil {st : Sto} {l : List W} {k : Nat} (h : PlD (k + 1) (.tup l)) (hk : k ≤ 60) : eqW st (.tup l) (.tup []) = some (decide (l = [])) := by
  show ((toD st 64 (.tup l)).bind fun d => (toD st 64 (.tup [])).map fun e => PyData.eqv d e) = _
  have hm : ∀ x ∈ l, toD st 63 x = some ((toD st 63 x).getD .none) := fun x hx => by
    obtain ⟨d, hd⟩ := PlD.d (st := st) (m := 63) (h.2 x hx) (by omega)
    rw [hd]
    rfl
  rw [toD_tup (k := 63), mapM_all hm]
  cases l with
  | nil => rfl
  | cons a l => rfl
/-! ### deeds, as data -/
def isLd : List W → Bool
  | [x] => isW 0 511 x
  | _ => false
def isSt' : List W → Bool
  | [x, y] => isW 0 511 x && isW 0 65535 y
  | _ => false
def isNm : List W → Bool
  | [x] => isW 0 4095 x
  | _ => false
def isDeedW : W → Bool
  | .tup (.str z :: l) => if z = "load" then isLd l else if z = "store" then isSt' l else if z = "turn" then isNm l else if z = "give" then isNm l else false
  | _ => false
theorem addr_ok {st : Sto} {x : W} (h : TyB st x) : f_is_address [x] st = .ok (.bl (isW 0 511 x)) st := by
  refine clean_wp (wp_run rfl ?_) rfl
  unfold b_is_address
  repeat decreasing_trivial_pre_omega
  refine wp_eq (within_ok h) ?_
  exact ⟨rfl, [], by simp⟩
theorem num_ok {st : Sto} {x : W} (h : TyB st x) : f_is_number [x] st = .ok (.bl (isW 0 4095 x)) st := by
  refine clean_wp (wp_run rfl ?_) rfl
  unfold b_is_number
  repeat decreasing_trivial_pre_omega
  refine wp_eq (within_ok h) ?_
  exact ⟨rfl, [], by simp⟩
theorem load_ok {st : Sto} {n : Nat} {l : List W} (hs : st[n]? = some (.lst l)) (h : ∀ x ∈ l, TyB st x) : f_is_load [.ref n] st = .ok (.bl (isLd l)) st := by
  refine clean_wp (wp_run rfl ?_) rfl
  unfold b_is_load
  rcases l with _ | ⟨x, _ | ⟨y, r⟩⟩
  · repeat decreasing_trivial_pre_omega
  · repeat decreasing_trivial_pre_omega
    refine wp_eq (addr_ok (h x (by simp))) ?_
    repeat decreasing_trivial_pre_omega
  · repeat decreasing_trivial_pre_omega
theorem store_ok {st : Sto} {n : Nat} {l : List W} (hs : st[n]? = some (.lst l)) (h : ∀ x ∈ l, TyB st x) : f_is_store [.ref n] st = .ok (.bl (isSt' l)) st := by
  refine clean_wp (wp_run rfl ?_) rfl
  unfold b_is_store
  rcases l with _ | ⟨x, _ | ⟨y, _ | ⟨z, r⟩⟩⟩
  · repeat decreasing_trivial_pre_omega
  · repeat decreasing_trivial_pre_omega
  · repeat decreasing_trivial_pre_omega
    refine wp_eq (addr_ok (h x (by simp))) ?_
    repeat decreasing_trivial_pre_omega
    rw [show isSt' [x, y] = (isW 0 511 x && isW 0 65535 y) from rfl]
    cases hx : isW 0 511 x
    · repeat decreasing_trivial_pre_omega
    · repeat decreasing_trivial_pre_omega
      refine wp_eq (cell_ok (h y (by simp))) ?_
      repeat decreasing_trivial_pre_omega
  · repeat decreasing_trivial_pre_omega
theorem nmd_ok {st : Sto} {n : Nat} {l : List W} (hs : st[n]? = some (.lst l)) (h : ∀ x ∈ l, TyB st x) : f_is_numbered [.ref n] st = .ok (.bl (isNm l)) st := by
  refine clean_wp (wp_run rfl ?_) rfl
  unfold b_is_numbered
  rcases l with _ | ⟨x, _ | ⟨y, r⟩⟩
  · repeat decreasing_trivial_pre_omega
  · repeat decreasing_trivial_pre_omega
    refine wp_eq (num_ok (h x (by simp))) ?_
    repeat decreasing_trivial_pre_omega
  · repeat decreasing_trivial_pre_omega
theorem look_none {α : Type} {z : Str} : ∀ {D : List (Str × α)}, z ∉ D.map (·.1) → D.lookup z = none
  | [], _ => rfl
  | (k, v) :: D, h => by
    simp only [List.map_cons, List.mem_cons, not_or] at h
    rw [List.lookup_cons, beq_eq_false_iff_ne.mpr h.1]
    exact look_none h.2
theorem ats {a : W} {l : List W} : atI (a :: l) 0 = some a := by
  have := atI_nat (xs := a :: l) (j := 0) (v := a) rfl
  simpa using this
theorem isdeed_ok {st : Sto} {w : W} (h : PlD 2 w ∨ ∃ n l, w = .ref n ∧ st[n]? = some (.lst l)) : f_is_deed [w] st = .ok (.bl (isDeedW w)) st := by
  have ht : TyB st w := h.elim PlD.ty fun ⟨n, l, e, hs⟩ => by subst e; exact TyB.lst hs
  refine clean_wp (wp_run rfl ?_) rfl
  unfold b_is_deed
  repeat decreasing_trivial_pre_omega
  refine wp_eq (isi_tup ht) ?_
  repeat decreasing_trivial_pre_omega
  cases w with
  | tup l =>
    have hp : PlD 2 (.tup l) := h.elim id fun ⟨n, l, e, hs⟩ => by cases e
    repeat decreasing_trivial_pre_omega
    refine Sw.v_eqW (eqT_nil (k := 1) hp (by omega)) ?_
    cases l with
    | nil => repeat decreasing_trivial_pre_omega
    | cons a l =>
      repeat decreasing_trivial_pre_omega
      refine wp_eq (isi_str (PlD.ty (hp.2 a (by simp)))) ?_
      repeat decreasing_trivial_pre_omega
      cases a with
      | str z =>
        have hl : ∀ x ∈ l, ∀ s, TyB s x := fun x hx s => PlD.ty (hp.2 x (by simp [hx]))
        have hs : ∀ g, (st ++ Ob.lst (List.drop 1 (W.str z :: l)) :: g)[st.length]? = some (Ob.lst l) := fun g => sto_at
        repeat decreasing_trivial_pre_omega
        by_cases h1 : z = "load"
        · subst h1
          repeat decreasing_trivial_pre_omega
          refine wp_eq (load_ok (hs []) fun x hx => hl x hx _) ?_
          repeat decreasing_trivial_pre_omega
        by_cases h2 : z = "store"
        · subst h2
          repeat decreasing_trivial_pre_omega
          refine wp_eq (store_ok (hs []) fun x hx => hl x hx _) ?_
          repeat decreasing_trivial_pre_omega
        by_cases h3 : z = "turn"
        · subst h3
          repeat decreasing_trivial_pre_omega
          refine wp_eq (nmd_ok (hs []) fun x hx => hl x hx _) ?_
          repeat decreasing_trivial_pre_omega
        by_cases h4 : z = "give"
        · subst h4
          repeat decreasing_trivial_pre_omega
          refine wp_eq (nmd_ok (hs []) fun x hx => hl x hx _) ?_
          repeat decreasing_trivial_pre_omega
        have hk : kd_FORMS.lookup z = none := look_none (by simp [kd_FORMS, h1, h2, h3, h4])
        have hr : isDeedW (.tup (.str z :: l)) = false := by simp [isDeedW, h1, h2, h3, h4]
        repeat decreasing_trivial_pre_omega
        rw [hk, hr]
        repeat decreasing_trivial_pre_omega
      | _ => repeat decreasing_trivial_pre_omega
  | ref n => repeat decreasing_trivial_pre_omega
  | _ => repeat decreasing_trivial_pre_omega
theorem from_ok {st : Sto} {x : W} {a b : Int} (h : TyB st x) : f_law_is_from [x, .int a, .int b] st = .ok (.bl (isW a b x)) st := by
  refine clean_wp (wp_run rfl ?_) rfl
  unfold b_law_is_from
  repeat decreasing_trivial_pre_omega
  refine wp_eq (isi_int h) ?_
  repeat decreasing_trivial_pre_omega
  cases x with
  | int i =>
    repeat decreasing_trivial_pre_omega
    refine wp_eq (isi_bool h) ?_
    repeat decreasing_trivial_pre_omega
    show wp (if decide (a ≤ i) = true then _ else _) _ _
    by_cases hc : a ≤ i
    · repeat decreasing_trivial_pre_omega
      exact ⟨by simp [isW, hc], [], by simp⟩
    · repeat decreasing_trivial_pre_omega
      exact ⟨by simp [isW, hc], [], by simp⟩
  | bl i =>
    repeat decreasing_trivial_pre_omega
    refine wp_eq (isi_bool h) ?_
    repeat decreasing_trivial_pre_omega
  | _ => repeat decreasing_trivial_pre_omega
theorem lisdeed_ok {st : Sto} {w : W} (h : PlD 2 w ∨ ∃ n l, w = .ref n ∧ st[n]? = some (.lst l)) : f_law_is_deed [w] st = .ok (.bl (isDeedW w)) st := by
  have ht : TyB st w := h.elim PlD.ty fun ⟨n, l, e, hs⟩ => by subst e; exact TyB.lst hs
  refine clean_wp (wp_run rfl ?_) rfl
  unfold b_law_is_deed
  repeat decreasing_trivial_pre_omega
  refine wp_eq (isi_tup ht) ?_
  repeat decreasing_trivial_pre_omega
  cases w with
  | tup l =>
    have hp : PlD 2 (.tup l) := h.elim id fun ⟨n, l, e, hs⟩ => by cases e
    have hl : ∀ x ∈ l, ∀ s, TyB s x := fun x hx s => PlD.ty (hp.2 x hx)
    repeat decreasing_trivial_pre_omega
    rcases l with _ | ⟨a, _ | ⟨b, _ | ⟨c, _ | ⟨d, r⟩⟩⟩⟩
    · repeat decreasing_trivial_pre_omega
    · repeat decreasing_trivial_pre_omega
      exact ⟨by cases a <;> simp [isDeedW, isLd, isSt', isNm], [], by simp⟩
    · repeat decreasing_trivial_pre_omega
      refine wp_eq (isi_str (hl a (by simp) _)) ?_
      repeat decreasing_trivial_pre_omega
      cases a with
      | str z =>
        repeat decreasing_trivial_pre_omega
        by_cases h1 : z = "load"
        · subst h1
          repeat decreasing_trivial_pre_omega
          refine wp_eq (from_ok (hl b (by simp) _)) ?_
          repeat decreasing_trivial_pre_omega
        repeat decreasing_trivial_pre_omega
        by_cases h3 : z = "turn"
        · subst h3
          repeat decreasing_trivial_pre_omega
          refine wp_eq (from_ok (hl b (by simp) _)) ?_
          repeat decreasing_trivial_pre_omega
        by_cases h4 : z = "give"
        · subst h4
          repeat decreasing_trivial_pre_omega
          refine wp_eq (from_ok (hl b (by simp) _)) ?_
          repeat decreasing_trivial_pre_omega
        have e : inFW (.str z) [.str "turn", .str "give"] = false := by simp [inFW, eqFW, Ne.symm h3, Ne.symm h4]
        have hr : isDeedW (.tup [.str z, b]) = false := by
          by_cases h2 : z = "store"
          · subst h2; rfl
          · simp [isDeedW, h1, h2, h3, h4]
        rw [e, hr]
        repeat decreasing_trivial_pre_omega
      | _ => repeat decreasing_trivial_pre_omega
    · repeat decreasing_trivial_pre_omega
      refine wp_eq (isi_str (hl a (by simp) _)) ?_
      repeat decreasing_trivial_pre_omega
      cases a with
      | str z =>
        repeat decreasing_trivial_pre_omega
        by_cases h1 : z = "store"
        · subst h1
          repeat decreasing_trivial_pre_omega
          refine wp_eq (from_ok (hl b (by simp) _)) ?_
          repeat decreasing_trivial_pre_omega
          rw [show isDeedW (.tup [.str "store", b, c]) = (isW 0 511 b && isW 0 65535 c) from rfl]
          cases isW 0 511 b
          · repeat decreasing_trivial_pre_omega
          · repeat decreasing_trivial_pre_omega
            refine wp_eq (from_ok (hl c (by simp) _)) ?_
            repeat decreasing_trivial_pre_omega
        have hr : isDeedW (.tup [.str z, b, c]) = false := by
          by_cases h2 : z = "load"
          · subst h2; rfl
          by_cases h3 : z = "turn"
          · subst h3; rfl
          by_cases h4 : z = "give"
          · subst h4; rfl
          · simp [isDeedW, h1, h2, h3, h4]
        rw [hr]
        repeat decreasing_trivial_pre_omega
      | _ => repeat decreasing_trivial_pre_omega
    · have e : inFW (.int ((a :: b :: c :: d :: r).length : Nat)) [.int 2, .int 3] = false := by
        simp only [inFW, List.any_cons, List.any_nil, eqFW, List.length_cons, Bool.or_false, Bool.or_eq_false_iff, beq_eq_false_iff_ne]
        exact ⟨by omega, by omega⟩
      rw [e]
      have hr : isDeedW (.tup (a :: b :: c :: d :: r)) = false := by
        cases a with
        | str z => simp [isDeedW, isLd, isSt', isNm]
        | _ => rfl
      rw [hr]
      repeat decreasing_trivial_pre_omega
  | ref n => repeat decreasing_trivial_pre_omega
  | _ => repeat decreasing_trivial_pre_omega
/-! ### letters, as data -/
def isCnt : W → Bool
  | .int i => decide (1 ≤ i)
  | _ => false
def isRw : W → Bool
  | .tup l => decide (1 ≤ l.length) && decide (l.length ≤ 16)
  | _ => false
def ltW : W → W → Bool
  | .int a, .int b => decide (a < b)
  | _, _ => false
def ltP : W → Bool
  | .tup [x, y] => ltW x y
  | _ => false
def riseW (l : List W) : Bool := (l.zip (l.drop 1)).all fun p => ltW p.1 p.2
def isPgR : List W → Bool
  | [a, b, c] => isCnt a && (isW 0 15 b && isPg c)
  | _ => false
def isLaR : List W → Bool
  | [a, .tup l] => isW 0 4095 a && (isRw (.tup l) && l.all isCnt)
  | _ => false
def isLkR : List W → Bool
  | [.tup l] => isRw (.tup l) && (l.all (isW 0 15) && riseW l)
  | _ => false
def isLetW : W → Bool
  | .tup (.str z :: m :: l) => isW 0 1000000 m && (if z = "page" then isPgR l else if z = "last" then isLaR l else if z = "lack" then isLkR l else if z = "go" ∨ z = "off" ∨ z = "have" ∨ z = "runs" then l.isEmpty else false)
  | _ => false
theorem move_ok {st : Sto} {x : W} (h : TyB st x) : f_is_move [x] st = .ok (.bl (isW 0 1000000 x)) st := by
  refine clean_wp (wp_run rfl ?_) rfl
  unfold b_is_move
  repeat decreasing_trivial_pre_omega
  refine wp_eq (within_ok h) ?_
  repeat decreasing_trivial_pre_omega
theorem pnum_ok {st : Sto} {x : W} (h : TyB st x) : f_is_page_number [x] st = .ok (.bl (isW 0 15 x)) st := by
  refine clean_wp (wp_run rfl ?_) rfl
  unfold b_is_page_number
  repeat decreasing_trivial_pre_omega
  refine wp_eq (within_ok h) ?_
  repeat decreasing_trivial_pre_omega
theorem cnt_ok {st : Sto} {x : W} (h : TyB st x) : f_is_count [x] st = .ok (.bl (isCnt x)) st := by
  refine clean_wp (wp_run rfl ?_) rfl
  unfold b_is_count
  repeat decreasing_trivial_pre_omega
  refine wp_eq (isi_int h) ?_
  repeat decreasing_trivial_pre_omega
  cases x with
  | int i =>
    repeat decreasing_trivial_pre_omega
    refine wp_eq (isi_bool h) ?_
    repeat decreasing_trivial_pre_omega
  | bl i =>
    repeat decreasing_trivial_pre_omega
    refine wp_eq (isi_bool h) ?_
    repeat decreasing_trivial_pre_omega
  | _ => repeat decreasing_trivial_pre_omega
theorem rw_ok {st : Sto} {x : W} (h : TyB st x) : f_is_row [x] st = .ok (.bl (isRw x)) st := by
  refine clean_wp (wp_run rfl ?_) rfl
  unfold b_is_row
  repeat decreasing_trivial_pre_omega
  refine wp_eq (isi_tup h) ?_
  repeat decreasing_trivial_pre_omega
  cases x with
  | tup l =>
    repeat decreasing_trivial_pre_omega
    by_cases h1 : 1 ≤ l.length
    · repeat decreasing_trivial_pre_omega
      exact ⟨by simp only [isRw, decide_eq_true h1, Bool.true_and]; exact congrArg W.bl (decide_eq_decide.mpr (by omega)), [], by simp⟩
    · repeat decreasing_trivial_pre_omega
      exact ⟨by simp [isRw, h1], [], by simp⟩
  | _ => repeat decreasing_trivial_pre_omega
theorem bare_ok {st : Sto} {n : Nat} {l : List W} (hs : st[n]? = some (.lst l)) : f_is_bare_rest [.ref n] st = .ok (.bl l.isEmpty) st := by
  refine clean_wp (wp_run rfl ?_) rfl
  unfold b_is_bare_rest
  repeat decreasing_trivial_pre_omega
  cases l with
  | nil => repeat decreasing_trivial_pre_omega
  | cons a l => exact ⟨congrArg W.bl (by simp; omega), [], by simp⟩
theorem pgr_ok {st : Sto} {n : Nat} {l : List W} (hs : st[n]? = some (.lst l)) (h : ∀ x ∈ l, PlD 2 x) : f_is_page_rest [.ref n] st = .ok (.bl (isPgR l)) st := by
  refine clean_wp (wp_run rfl ?_) rfl
  unfold b_is_page_rest
  rcases l with _ | ⟨a, _ | ⟨b, _ | ⟨c, _ | ⟨d, r⟩⟩⟩⟩
  · repeat decreasing_trivial_pre_omega
  · repeat decreasing_trivial_pre_omega
  · repeat decreasing_trivial_pre_omega
  · repeat decreasing_trivial_pre_omega
    refine wp_eq (cnt_ok (h a (by simp)).ty) ?_
    repeat decreasing_trivial_pre_omega
    rw [show isPgR [a, b, c] = (isCnt a && (isW 0 15 b && isPg c)) from rfl]
    cases isCnt a
    · repeat decreasing_trivial_pre_omega
    · repeat decreasing_trivial_pre_omega
      refine wp_eq (pnum_ok (h b (by simp)).ty) ?_
      repeat decreasing_trivial_pre_omega
      cases isW 0 15 b
      · repeat decreasing_trivial_pre_omega
      · repeat decreasing_trivial_pre_omega
        refine wp_eq (page_ok (h c (by simp)).ty fun l e x hx => ?_) ?_
        · subst e
          exact (PlD.mem (h (.tup l) (by simp)) x hx).ty
        · repeat decreasing_trivial_pre_omega
  · repeat decreasing_trivial_pre_omega
theorem lar_ok {st : Sto} {n : Nat} {l : List W} (hs : st[n]? = some (.lst l)) (h : ∀ x ∈ l, PlD 2 x) : f_is_last_rest [.ref n] st = .ok (.bl (isLaR l)) st := by
  refine clean_wp (wp_run rfl ?_) rfl
  unfold b_is_last_rest
  rcases l with _ | ⟨a, _ | ⟨b, _ | ⟨c, r⟩⟩⟩
  · repeat decreasing_trivial_pre_omega
  · repeat decreasing_trivial_pre_omega
  · repeat decreasing_trivial_pre_omega
    refine wp_eq (within_ok (h a (by simp)).ty) ?_
    repeat decreasing_trivial_pre_omega
    cases ha : isW 0 4095 a
    · repeat decreasing_trivial_pre_omega
      exact ⟨by cases b <;> simp [isLaR, ha], [], by simp⟩
    · repeat decreasing_trivial_pre_omega
      refine wp_eq (rw_ok (h b (by simp)).ty) ?_
      repeat decreasing_trivial_pre_omega
      cases hb : isRw b
      · repeat decreasing_trivial_pre_omega
        exact ⟨by cases b <;> first | rfl | simp [isLaR, hb], [], by simp⟩
      · cases b with
        | tup l =>
          have hp := h (.tup l) (by simp)
          repeat decreasing_trivial_pre_omega
          refine Sw.v_lcM (fun w => .bl (isCnt w)) (Nat.le_trans hp.1 (by decide)) (fun _ => trivial) (fun acc w hw => ⟨_, rfl, ?_⟩) ?_
          · repeat decreasing_trivial_pre_omega
            refine wp_eq (cnt_ok (hp.2 w hw).ty) ?_
            repeat decreasing_trivial_pre_omega
          · repeat decreasing_trivial_pre_omega
            exact ⟨by simp [isLaR, ha, hb], _, rfl⟩
        | _ => cases hb
  · repeat decreasing_trivial_pre_omega
    exact ⟨by simp [isLaR], [], by simp⟩
theorem lkr_ok {st : Sto} {n : Nat} {l : List W} (hs : st[n]? = some (.lst l)) (h : ∀ x ∈ l, PlD 2 x) : f_is_lack_rest [.ref n] st = .ok (.bl (isLkR l)) st := by
  refine clean_wp (wp_run rfl ?_) rfl
  unfold b_is_lack_rest
  rcases l with _ | ⟨b, _ | ⟨c, r⟩⟩
  · repeat decreasing_trivial_pre_omega
  · repeat decreasing_trivial_pre_omega
    refine wp_eq (rw_ok (h b (by simp)).ty) ?_
    repeat decreasing_trivial_pre_omega
    cases hb : isRw b
    · repeat decreasing_trivial_pre_omega
      exact ⟨by cases b <;> first | rfl | simp [isLkR, hb], [], by simp⟩
    · cases b with
      | tup l =>
        have hp := h (.tup l) (by simp)
        repeat decreasing_trivial_pre_omega
        refine Sw.v_lcM (fun w => .bl (isW 0 15 w)) (Nat.le_trans hp.1 (by decide)) (fun _ => trivial) (fun acc w hw => ⟨_, rfl, ?_⟩) ?_
        · repeat decreasing_trivial_pre_omega
          refine wp_eq (pnum_ok (hp.2 w hw).ty) ?_
          repeat decreasing_trivial_pre_omega
        · repeat decreasing_trivial_pre_omega
          cases hc : l.all (isW 0 15)
          · repeat decreasing_trivial_pre_omega
            exact ⟨by simp [isLkR, hb, hc], _, rfl⟩
          · repeat decreasing_trivial_pre_omega
            have hi : ∀ x ∈ l, ∃ i : Int, x = .int i := fun x hx => by
              have := List.all_eq_true.mp hc x hx
              cases x <;> first | exact ⟨_, rfl⟩ | cases this
            refine Sw.v_lcM (fun w => .bl (ltP w)) (by show (zipW l (l.drop 1)).length ≤ _; rw [zipW_length]; have := hp.1; omega) (fun _ => trivial) (fun acc w hw => ?_) ?_
            · obtain ⟨⟨x, y⟩, hp, rfl⟩ := List.mem_map.mp hw
              obtain ⟨i, rfl⟩ := hi x (List.of_mem_zip hp).1
              obtain ⟨j, rfl⟩ := hi y (List.mem_of_mem_drop (List.of_mem_zip hp).2)
              refine ⟨_, rfl, ?_⟩
              repeat decreasing_trivial_pre_omega
            · repeat decreasing_trivial_pre_omega
              exact ⟨by simp [isLkR, hb, hc, riseW, zipW, List.all_map, ltP, Function.comp_def], _, List.append_assoc _ _ _⟩
      | _ => cases hb
  · repeat decreasing_trivial_pre_omega
    exact ⟨by cases b <;> rfl, [], by simp⟩

end Lw

namespace Lw
open PySem PySem.Spec PyProof.Rows L2 Sw
/-- one step; the goal's head says which -/
local macro_rules | `(tactic| decreasing_trivial_pre_omega) => `(tactic| first
  | ((with_reducible refine Sw.gWi ?_); first
    | with_reducible refine Sw.ws_ift ?_
    | with_reducible refine Sw.ws_iff ?_
    | with_reducible refine Sw.ws_ifn ?_
    | ((with_reducible refine Sw.ws_ifd1 ?_ ?_); (focus first | assumption | omega | (simp; done)))
    | ((with_reducible refine Sw.ws_ifd0 ?_ ?_); (focus first | assumption | omega | (simp; done)))
    | ((with_reducible refine Sw.ws_ifb1 ?_ ?_); (focus rfl))
    | ((with_reducible refine Sw.ws_ifb0 ?_ ?_); (focus rfl))
    )
  | ((with_reducible refine Sw.gW ?_); first
    | with_reducible refine Sw.ws_seqS ?_
    | with_reducible refine Sw.ws_ifS ?_
    | with_reducible refine Sw.ws_forN ?_
    | with_reducible refine Sw.ws_seq ?_
    | with_reducible refine Sw.ws_set ?_
    | with_reducible refine Sw.ws_if ?_
    | with_reducible refine Sw.ws_ret ?_
    | with_reducible refine Sw.ws_next ?_
    | with_reducible refine Sw.ws_drop ?_
    | with_reducible refine Sw.ws_for ?_
    | with_reducible refine Sw.ws_asg ?_
    | with_reducible refine Sw.ws_retN ?_
    | with_reducible refine Sw.ws_raise ?_
    | with_reducible refine Sw.ws_raiseD ?_
    | with_reducible refine Sw.ws_gN ?_
    | with_reducible refine Sw.ws_brk ?_
    | with_reducible refine Sw.ws_cnt ?_
    | ((with_reducible apply Sw.ws_aug); rfl)
    | with_reducible refine Sw.ws_gSub ?_
    | with_reducible refine Sw.ws_gsCons ?_
    | with_reducible refine Sw.ws_gsNil ?_
    | ((with_reducible apply Sw.ws_gsConsE); (focus rfl))
    | ((with_reducible apply Sw.ws_gsNilE); (focus rfl))
    | with_reducible refine Sw.ws_par2 ?_
    | with_reducible refine Sw.ws_par3 ?_
    | ((with_reducible refine Sw.ws_gTup ?_ ?_); (focus rfl))
    | ((with_reducible apply Sw.ws_gSeqN); (focus first | rfl | exact getS_at (by assumption) | exact getS_at sto_at | exact getS_at (sto_app (by assumption)) | exact getS_at (sto_app sto_at)); (focus first | rfl | decide | (simp; done) | (simp; omega)))
    | ((with_reducible apply Sw.ws_gStarN); (focus first | rfl | exact getS_at (by assumption) | exact getS_at sto_at | exact getS_at (sto_app (by assumption)) | exact getS_at (sto_app sto_at)); (focus first | decide | (simp; done) | (simp; omega)))
    )
  | ((with_reducible refine Sw.gI ?_); first
    | with_reducible refine Sw.wp_ift ?_
    | with_reducible refine Sw.wp_iff ?_
    | with_reducible refine Sw.wp_ifn ?_
    | ((with_reducible refine Sw.wp_ifd1 ?_ ?_); (focus first | assumption | omega | (simp; done)))
    | ((with_reducible refine Sw.wp_ifd0 ?_ ?_); (focus first | assumption | omega | (simp; done)))
    | ((with_reducible refine Sw.wp_ifb1 ?_ ?_); (focus rfl))
    | ((with_reducible refine Sw.wp_ifb0 ?_ ?_); (focus rfl))
    )
  | ((with_reducible refine Sw.gF ?_); first
    | ((with_reducible apply Sw.v_var); rfl)
    | with_reducible refine Sw.v_c ?_
    | with_reducible refine Sw.v_cons ?_
    | with_reducible refine Sw.v_nil ?_
    | ((with_reducible refine Sw.v_fn ?_))
    | with_reducible refine Sw.v_call ?_
    | ((with_reducible apply Sw.v_ask); (focus rfl); (focus rfl))
    | with_reducible refine Sw.v_bin ?_
    | with_reducible refine Sw.v_cmp ?_
    | with_reducible refine Sw.v_cmpE ?_
    | with_reducible refine Sw.v_tru ?_
    | with_reducible refine Sw.v_notT ?_
    | with_reducible refine Sw.v_andT ?_
    | with_reducible refine Sw.v_orT ?_
    | with_reducible refine Sw.v_and ?_
    | with_reducible refine Sw.v_or ?_
    | with_reducible refine Sw.v_not ?_
    | with_reducible refine Sw.v_if ?_
    | with_reducible refine Sw.v_chn ?_
    | with_reducible refine Sw.v_chnE ?_
    | with_reducible refine Sw.v_tup ?_
    | with_reducible refine Sw.v_lst ?_
    | with_reducible refine Sw.v_sl ?_
    | with_reducible refine Sw.v_no ?_
    | with_reducible refine Sw.v_so ?_
    | with_reducible refine Sw.v_neg ?_
    | with_reducible refine Sw.v_lc ?_
    | with_reducible refine Sw.v_it ?_
    | with_reducible refine Sw.v_seqI ?_
    | with_reducible refine Sw.v_mt ?_
    | with_reducible refine Sw.v_m1 ?_
    | with_reducible refine Sw.v_dict0 ?_
    | with_reducible refine Sw.v_it1 ?_
    )
  | ((with_reducible refine Sw.gO ?_); first
    | with_reducible refine Sw.v_ltI ?_
    | with_reducible refine Sw.v_leI ?_
    | with_reducible refine Sw.v_gtI ?_
    | with_reducible refine Sw.v_geI ?_
    | with_reducible refine Sw.v_eqI ?_
    | with_reducible refine Sw.v_neI ?_
    | with_reducible refine Sw.v_eqS ?_
    | with_reducible refine Sw.v_neS ?_
    | with_reducible refine Sw.v_truB ?_
    | with_reducible refine Sw.v_truI ?_
    | with_reducible refine Sw.v_truN ?_
    | with_reducible refine Sw.v_truT ?_
    | with_reducible refine Sw.v_seqT ?_
    | with_reducible refine Sw.v_seqR ?_
    | with_reducible refine Sw.v_seqS ?_
    | ((with_reducible apply Sw.v_seqL); (focus first | assumption | exact sto_at | exact sto_app (by assumption) | exact sto_app (sto_app (by assumption)) | exact sto_app sto_at | exact sto_app (sto_app sto_at)))
    | with_reducible refine Sw.v_inK ?_
    | with_reducible refine Sw.v_notInK ?_
    | ((with_reducible apply Sw.wp_opt); (focus rfl))
    )
  | ((with_reducible refine Sw.gE ?_); first
    | with_reducible refine Sw.wp_bind ?_
    | with_reducible refine Sw.wp_ok ?_
    | with_reducible refine Sw.v_addI ?_
    | with_reducible refine Sw.v_subI ?_
    | ((with_reducible refine Sw.v_mulI (.inl ?_) ?_); (focus first | decide | omega))
    | ((with_reducible refine Sw.v_mulT ?_ ?_); exact ⟨by simp, by decide, by decide, by simp⟩)
    | ((with_reducible apply Sw.v_mulL); (focus first | assumption | exact sto_at | exact sto_app (by assumption) | exact sto_app (sto_app (by assumption)) | exact sto_app sto_at | exact sto_app (sto_app sto_at)); (focus exact ⟨by decide, by decide, by simp⟩))
    | ((with_reducible refine Sw.v_modI ?_ ?_); (focus first | decide | omega))
    | ((with_reducible refine Sw.v_addT ?_ ?_); refine line1000 ?_; (focus first | decide | (simp; done) | (simp; omega)))
    | ((with_reducible apply Sw.v_powE); (focus decide +kernel); (focus (simp only [Int.reduceToNat, Int.reducePow]; rfl)))
    | ((with_reducible apply Sw.v_ixL); (first | assumption | exact sto_at | exact sto_app (by assumption) | exact sto_app (sto_app (by assumption)) | exact sto_app sto_at | exact sto_app (sto_app sto_at)); (focus first | rfl | assumption | exact atI_nat (by assumption) | exact Sw.atc0 | exact Sw.atc1 | exact Sw.atc2))
    | ((with_reducible apply Sw.v_ixT); (focus first | rfl | assumption | exact atI_nat (by assumption) | exact Sw.atc0 | exact Sw.atc1 | exact Sw.atc2))
    | ((with_reducible apply Sw.v_ixR); (focus first | rfl | assumption | exact atI_nat (by assumption) | exact Sw.atc0 | exact Sw.atc1 | exact Sw.atc2))
    | with_reducible refine Sw.v_slc1 ?_
    | with_reducible refine Sw.v_slc2 ?_
    | ((with_reducible apply Sw.v_slLt1); (focus first | assumption | exact sto_at | exact sto_app (by assumption) | exact sto_app (sto_app (by assumption)) | exact sto_app sto_at | exact sto_app (sto_app sto_at)))
    | ((with_reducible apply Sw.v_slLt2); (focus first | assumption | exact sto_at | exact sto_app (by assumption) | exact sto_app (sto_app (by assumption)) | exact sto_app sto_at | exact sto_app (sto_app sto_at)))
    | ((with_reducible apply Sw.v_slLd1); (focus first | assumption | exact sto_at | exact sto_app (by assumption) | exact sto_app (sto_app (by assumption)) | exact sto_app sto_at | exact sto_app (sto_app sto_at)))
    | ((with_reducible apply Sw.v_addL); (focus first | assumption | exact sto_at | exact sto_app (by assumption) | exact sto_app (sto_app (by assumption)) | exact sto_app sto_at | exact sto_app (sto_app sto_at)); (focus first | assumption | exact sto_at | exact sto_app (by assumption) | exact sto_app (sto_app (by assumption)) | exact sto_app sto_at | exact sto_app (sto_app sto_at)); (focus first | decide | (simp; done) | (simp; omega)))
    | with_reducible refine Sw.v_sortSet ?_
    | ((with_reducible refine Sw.v_sl0 ?_ ?_); (focus omega))
    | ((with_reducible refine Sw.v_sl1 ?_ ?_); (focus omega))
    | with_reducible refine Sw.v_lenT ?_
    | with_reducible refine Sw.v_lenR ?_
    | ((with_reducible apply Sw.v_lenL); (focus first | assumption | exact sto_at | exact sto_app (by assumption) | exact sto_app (sto_app (by assumption)) | exact sto_app sto_at | exact sto_app (sto_app sto_at)))
    | ((with_reducible apply Sw.v_appT); (focus first | decide | (simp; done) | (simp; omega)))
    | with_reducible refine Sw.v_intI ?_
    | with_reducible refine Sw.v_intB ?_
    | with_reducible refine Sw.v_absI ?_
    | with_reducible refine Sw.v_max2 ?_
    | with_reducible refine Sw.v_min2 ?_
    | with_reducible refine Sw.v_listT ?_
    | ((with_reducible apply Sw.v_listL); (focus first | assumption | exact sto_at | exact sto_app (by assumption) | exact sto_app (sto_app (by assumption)) | exact sto_app sto_at | exact sto_app (sto_app sto_at)))
    | with_reducible refine Sw.v_tupleT ?_
    | ((with_reducible apply Sw.v_tupleL); (focus first | assumption | exact sto_at | exact sto_app (by assumption) | exact sto_app (sto_app (by assumption)) | exact sto_app sto_at | exact sto_app (sto_app sto_at)))
    | ((with_reducible refine Sw.v_rng1 ?_ ?_); (focus first | exact ⟨by omega, by omega, by omega, by omega⟩ | decide))
    | ((with_reducible refine Sw.v_rng2 ?_ ?_); (focus first | exact ⟨by omega, by omega, by omega, by omega⟩ | decide))
    | with_reducible refine Sw.v_zipT ?_
    | with_reducible refine Sw.v_enumT ?_
    | ((with_reducible apply Sw.v_enumL); (focus first | assumption | exact sto_at | exact sto_app (by assumption) | exact sto_app (sto_app (by assumption)) | exact sto_app sto_at | exact sto_app (sto_app sto_at)))
    | with_reducible refine Sw.v_andI ?_
    | with_reducible refine Sw.v_orI ?_
    | ((with_reducible refine Sw.v_shrI ?_ ?_); decide)
    | ((with_reducible apply Sw.v_allL); (focus first | assumption | exact sto_at | exact sto_app (by assumption) | exact sto_app (sto_app (by assumption)) | exact sto_app sto_at | exact sto_app (sto_app sto_at)))
    | ((with_reducible apply Sw.v_anyL); (focus first | assumption | exact sto_at | exact sto_app (by assumption) | exact sto_app (sto_app (by assumption)) | exact sto_app sto_at | exact sto_app (sto_app sto_at)))
    | with_reducible refine Sw.v_addGI ?_
    | ((with_reducible refine Sw.v_addGT ?_ ?_); refine line1000 ?_; (focus first | decide | (simp; done) | (simp; omega)))
    | ((with_reducible apply Sw.v_ixK); (focus rfl))
    )
  | with_reducible refine ⟨_, rfl, ?_⟩
  | with_reducible refine ⟨_, _, rfl, ?_⟩
  | with_reducible refine ⟨_, _, _, rfl, ?_⟩
  | ((with_reducible refine And.intro ?_ ?_); (focus first | rfl | decide | exact isLst_at sto_at | exact isLst_at (by assumption) | exact isLst_at (sto_app sto_at) | exact isLst_at (sto_app (by assumption)) | (simp; done) | (simp; omega)))
  | exact ⟨[], (List.append_nil _).symm⟩
  | with_reducible rfl
  | with_reducible refine Sw.ex_app ?_
  | exact ⟨_, rfl⟩
  )
theorem isletter_ok {st : Sto} {w : W} (h : PlD 3 w ∨ ∃ n l, w = .ref n ∧ st[n]? = some (.lst l)) : f_is_letter [w] st = .ok (.bl (isLetW w)) st := by
  have ht : TyB st w := h.elim PlD.ty fun ⟨n, l, e, hs⟩ => by subst e; exact TyB.lst hs
  refine clean_wp (wp_run rfl ?_) rfl
  unfold b_is_letter
  repeat decreasing_trivial_pre_omega
  refine wp_eq (isi_tup ht) ?_
  repeat decreasing_trivial_pre_omega
  cases w with
  | tup l =>
    have hp : PlD 3 (.tup l) := h.elim id fun ⟨n, l, e, hs⟩ => by cases e
    repeat decreasing_trivial_pre_omega
    rcases l with _ | ⟨a, _ | ⟨b, l⟩⟩
    · repeat decreasing_trivial_pre_omega
    · repeat decreasing_trivial_pre_omega
      exact ⟨by cases a <;> rfl, [], by simp⟩
    · repeat decreasing_trivial_pre_omega
      refine wp_eq (isi_str (hp.2 a (by simp)).ty) ?_
      repeat decreasing_trivial_pre_omega
      cases a with
      | str z =>
        repeat decreasing_trivial_pre_omega
        refine wp_eq (move_ok (hp.2 b (by simp)).ty) ?_
        repeat decreasing_trivial_pre_omega
        have e : isLetW (.tup (.str z :: b :: l)) = (isW 0 1000000 b && (if z = "page" then isPgR l else if z = "last" then isLaR l else if z = "lack" then isLkR l else if z = "go" ∨ z = "off" ∨ z = "have" ∨ z = "runs" then l.isEmpty else false)) := rfl
        rw [e]
        cases hb : isW 0 1000000 b
        · repeat decreasing_trivial_pre_omega
        · have hl : ∀ x ∈ l, PlD 2 x := fun x hx => hp.2 x (by simp [hx])
          have hs : (st ++ [Ob.lst (List.drop 2 (W.str z :: b :: l))])[st.length]? = some (Ob.lst l) := sto_at
          repeat decreasing_trivial_pre_omega
          by_cases h1 : z = "page"
          · subst h1
            repeat decreasing_trivial_pre_omega
            refine wp_eq (pgr_ok hs hl) ?_
            repeat decreasing_trivial_pre_omega
          by_cases h2 : z = "last"
          · subst h2
            repeat decreasing_trivial_pre_omega
            refine wp_eq (lar_ok hs hl) ?_
            repeat decreasing_trivial_pre_omega
          by_cases h3 : z = "lack"
          · subst h3
            repeat decreasing_trivial_pre_omega
            refine wp_eq (lkr_ok hs hl) ?_
            repeat decreasing_trivial_pre_omega
          by_cases h4 : z = "go"
          · subst h4
            repeat decreasing_trivial_pre_omega
            refine wp_eq (bare_ok hs) ?_
            repeat decreasing_trivial_pre_omega
          by_cases h5 : z = "off"
          · subst h5
            repeat decreasing_trivial_pre_omega
            refine wp_eq (bare_ok hs) ?_
            repeat decreasing_trivial_pre_omega
          by_cases h6 : z = "have"
          · subst h6
            repeat decreasing_trivial_pre_omega
            refine wp_eq (bare_ok hs) ?_
            repeat decreasing_trivial_pre_omega
          by_cases h7 : z = "runs"
          · subst h7
            repeat decreasing_trivial_pre_omega
            refine wp_eq (bare_ok hs) ?_
            repeat decreasing_trivial_pre_omega
          have hk : kd_RESTS.lookup z = none := look_none (by simp [kd_RESTS, h1, h2, h3, h4, h5, h6, h7])
          repeat decreasing_trivial_pre_omega
          rw [hk]
          simp only [h1, h2, h3, h4, h5, h6, h7, if_false, or_false, Bool.and_false]
          repeat decreasing_trivial_pre_omega
      | _ => repeat decreasing_trivial_pre_omega
  | ref n => repeat decreasing_trivial_pre_omega
  | _ => repeat decreasing_trivial_pre_omega
theorem lpage_ok {st : Sto} {x : W} (h : TyB st x) (hl : ∀ l, x = .tup l → ∀ w ∈ l, ∀ s, TyB s w) (hz : ∀ l, x = .tup l → l.length ≤ 1000) : f_law_is_page [x] st = .ok (.bl (isPg x)) st := by
  refine clean_wp (wp_run rfl ?_) rfl
  unfold b_law_is_page
  repeat decreasing_trivial_pre_omega
  refine wp_eq (isi_tup h) ?_
  repeat decreasing_trivial_pre_omega
  cases x with
  | tup l =>
    repeat decreasing_trivial_pre_omega
    by_cases h8 : l.length = 8
    · repeat decreasing_trivial_pre_omega
      refine Sw.v_lcM (fun w => .bl (isW 0 65535 w)) (Nat.le_trans (hz l rfl) (by decide)) (fun _ => trivial) (fun acc w hw => ⟨_, rfl, ?_⟩) ?_
      · repeat decreasing_trivial_pre_omega
        refine wp_eq (from_ok (hl l rfl w hw _)) ?_
        repeat decreasing_trivial_pre_omega
      · repeat decreasing_trivial_pre_omega
        exact ⟨by simp [isPg, h8], _, rfl⟩
    · repeat decreasing_trivial_pre_omega
      exact ⟨by simp [isPg, h8]; omega, [], by simp⟩
  | _ => repeat decreasing_trivial_pre_omega
def allT (a b : Int) : W → Bool
  | .tup l => l.all (isW a b)
  | _ => false
theorem lrow_ok {st : Sto} {x : W} {a b : Int} (h : PlD 2 x) : f_law_is_row [x, .int a, .int b] st = .ok (.bl (isRw x && allT a b x)) st := by
  refine clean_wp (wp_run rfl ?_) rfl
  unfold b_law_is_row
  repeat decreasing_trivial_pre_omega
  refine wp_eq (isi_tup h.ty) ?_
  repeat decreasing_trivial_pre_omega
  cases x with
  | tup l =>
    repeat decreasing_trivial_pre_omega
    by_cases h1 : 1 ≤ l.length
    · repeat decreasing_trivial_pre_omega
      by_cases h2 : l.length ≤ 16
      · repeat decreasing_trivial_pre_omega
        refine Sw.v_lcM (fun w => .bl (isW a b w)) (Nat.le_trans h.1 (by decide)) (fun _ => trivial) (fun acc w hw => ⟨_, rfl, ?_⟩) ?_
        · repeat decreasing_trivial_pre_omega
          refine wp_eq (from_ok (h.2 w hw).ty) ?_
          repeat decreasing_trivial_pre_omega
        · repeat decreasing_trivial_pre_omega
          exact ⟨by simp [isRw, h1, h2, allT], _, rfl⟩
      · repeat decreasing_trivial_pre_omega
        exact ⟨by simp [isRw, h1, h2], [], by simp⟩
    · repeat decreasing_trivial_pre_omega
      exact ⟨by simp [isRw, h1], [], by simp⟩
  | _ => repeat decreasing_trivial_pre_omega
theorem pw_rise {ns : List Int} : riseW (ns.map W.int) = decide (ns.Pairwise (· < ·)) := by
  induction ns with
  | nil => rfl
  | cons a l ih =>
    cases l with
    | nil => simp [riseW]
    | cons b l =>
      have e : riseW ((a :: b :: l).map W.int) = (decide (a < b) && riseW ((b :: l).map W.int)) := by
        simp [riseW, ltW]
      rw [e, ih]
      by_cases h : a < b
      · by_cases h2 : (b :: l).Pairwise (· < ·)
        · have h3 : (a :: b :: l).Pairwise (· < ·) := by
            rw [List.pairwise_cons]
            refine ⟨fun x hx => ?_, h2⟩
            rcases List.mem_cons.mp hx with rfl | hx
            · exact h
            · exact Int.lt_trans h ((List.pairwise_cons.mp h2).1 x hx)
          simp only [decide_eq_true h, decide_eq_true h2, decide_eq_true h3, Bool.and_self]
        · have h3 : ¬ (a :: b :: l).Pairwise (· < ·) := fun h3 => h2 (List.pairwise_cons.mp h3).2
          simp only [decide_eq_false h2, decide_eq_false h3, Bool.and_false]
      · have h3 : ¬ (a :: b :: l).Pairwise (· < ·) := fun h3 => h ((List.pairwise_cons.mp h3).1 b (by simp))
        simp only [decide_eq_false h, decide_eq_false h3, Bool.false_and]
theorem ints_of {l : List W} {a b : Int} (h : l.all (isW a b) = true) : ∃ ns : List Int, l = ns.map W.int := by
  induction l with
  | nil => exact ⟨[], rfl⟩
  | cons x l ih =>
    rw [List.all_cons, Bool.and_eq_true] at h
    obtain ⟨ns, rfl⟩ := ih h.2
    cases x with
    | int i => exact ⟨i :: ns, rfl⟩
    | _ => cases h.1
theorem getI_map : ∀ ns : List Int, getI (ns.map W.int) = some ns
  | [] => rfl
  | n :: ns => by simp only [List.map_cons, getI, getI_map ns, Option.map_some]
theorem toD_intL {st : Sto} {n : Nat} {ns : List Int} (h : st[n]? = some (.lst (ns.map W.int))) : toD st 64 (.ref n) = some (.list (ns.map PyData.int)) := by
  refine (toD_lst (k := 63) h).trans ?_
  rw [mapM_all (g := fun w => match w with | .int b => .int b | _ => .none)]
  · simp [Function.comp_def]
  · intro x hx
    obtain ⟨b, _, rfl⟩ := List.mem_map.mp hx
    rfl
theorem eqv_intL : ∀ {bs cs : List Int}, PyData.eqv (.list (bs.map PyData.int)) (.list (cs.map PyData.int)) = decide (bs = cs)
  | [], [] => by simp [PyData.eqv, PyData.eqvAll]
  | [], _ :: _ => by simp [PyData.eqv, PyData.eqvAll]
  | _ :: _, [] => by simp [PyData.eqv, PyData.eqvAll]
  | a :: bs, b :: cs => by
    have ih := eqv_intL (bs := bs) (cs := cs)
    simp only [PyData.eqv, List.map_cons, PyData.eqvAll] at ih ⊢
    rw [ih]
    by_cases h : a = b <;> simp [PyData.eqv, h]
theorem eqW_intL {st : Sto} {n m : Nat} {bs cs : List Int} (h : st[n]? = some (.lst (bs.map W.int))) (k : st[m]? = some (.lst (cs.map W.int))) : eqW st (.ref n) (.ref m) = some (decide (bs = cs)) := by
  show ((toD st 64 (.ref n)).bind fun d => (toD st 64 (.ref m)).map fun e => PyData.eqv d e) = _
  rw [toD_intL h, toD_intL k]
  simp only [Option.bind_some, Option.map_some, eqv_intL]
theorem rise_set {ns : List Int} : decide (ns = setI ns) = decide (ns.Pairwise (· < ·)) := by
  by_cases h : ns.Pairwise (· < ·)
  · rw [decide_eq_true h, decide_eq_true (setI_of h fun _ => Iff.rfl)]
  · rw [decide_eq_false h, decide_eq_false fun e => h (by rw [e]; exact setI_pw ns)]
theorem cnt_60 {x : W} {k : Nat} (h : PlD (k + 1) x) : isW 1 1000000000000000000000000000000000000000000000000000000000000 x = isCnt x := by
  cases x with
  | int i =>
    have h' : i.natAbs ≤ 10 ^ 50 := h
    have h2 : i ≤ 1000000000000000000000000000000000000000000000000000000000000 := by
      have : (10 : Nat) ^ 50 ≤ 1000000000000000000000000000000000000000000000000000000000000 := by decide +kernel
      omega
    show (decide (1 ≤ i) && decide (i ≤ 1000000000000000000000000000000000000000000000000000000000000)) = decide (1 ≤ i)
    rw [decide_eq_true h2, Bool.and_true]
  | _ => rfl
theorem inF_strs {z : Str} : ∀ zs : List Str, inFW (.str z) (zs.map .str) = decide (z ∈ zs)
  | [] => by simp [inFW]
  | a :: zs => by
    have ih := inF_strs (z := z) zs
    have e : inFW (.str z) ((a :: zs).map .str) = ((a == z) || inFW (.str z) (zs.map .str)) := rfl
    rw [e, ih]
    by_cases h : z = a
    · subst h; simp
    · simp [h, beq_eq_false_iff_ne.mpr (Ne.symm h)]
theorem lisletter_ok {st : Sto} {w : W} (h : PlD 3 w ∨ ∃ n l, w = .ref n ∧ st[n]? = some (.lst l)) : f_law_is_letter [w] st = .ok (.bl (isLetW w)) st := by
  have ht : TyB st w := h.elim PlD.ty fun ⟨n, l, e, hs⟩ => by subst e; exact TyB.lst hs
  refine clean_wp (wp_run rfl ?_) rfl
  unfold b_law_is_letter
  repeat decreasing_trivial_pre_omega
  refine wp_eq (isi_tup ht) ?_
  repeat decreasing_trivial_pre_omega
  cases w with
  | tup l =>
    have hp : PlD 3 (.tup l) := h.elim id fun ⟨n, l, e, hs⟩ => by cases e
    repeat decreasing_trivial_pre_omega
    rcases l with _ | ⟨a, _ | ⟨b, l⟩⟩
    · repeat decreasing_trivial_pre_omega
    · repeat decreasing_trivial_pre_omega
      exact ⟨by cases a <;> rfl, [], by simp⟩
    · repeat decreasing_trivial_pre_omega
      refine wp_eq (isi_str (hp.2 a (by simp)).ty) ?_
      repeat decreasing_trivial_pre_omega
      cases a with
      | str z =>
        repeat decreasing_trivial_pre_omega
        refine wp_eq (from_ok (hp.2 b (by simp)).ty) ?_
        repeat decreasing_trivial_pre_omega
        have e : isLetW (.tup (.str z :: b :: l)) = (isW 0 1000000 b && (if z = "page" then isPgR l else if z = "last" then isLaR l else if z = "lack" then isLkR l else if z = "go" ∨ z = "off" ∨ z = "have" ∨ z = "runs" then l.isEmpty else false)) := rfl
        rw [e]
        cases hb : isW 0 1000000 b
        · repeat decreasing_trivial_pre_omega
        · have hl : ∀ x ∈ l, PlD 2 x := fun x hx => hp.2 x (by simp [hx])
          repeat decreasing_trivial_pre_omega
          by_cases h1 : z = "page"
          · subst h1
            rw [if_pos rfl]
            rcases l with _ | ⟨p, _ | ⟨q, _ | ⟨r, _ | ⟨u, l⟩⟩⟩⟩
            · repeat decreasing_trivial_pre_omega
            · repeat decreasing_trivial_pre_omega
            · repeat decreasing_trivial_pre_omega
            · repeat decreasing_trivial_pre_omega
              refine wp_eq (from_ok (hl p (by simp)).ty) ?_
              repeat decreasing_trivial_pre_omega
              rw [cnt_60 (hl p (by simp)), show isPgR [p, q, r] = (isCnt p && (isW 0 15 q && isPg r)) from rfl]
              cases isCnt p
              · repeat decreasing_trivial_pre_omega
              · repeat decreasing_trivial_pre_omega
                refine wp_eq (from_ok (hl q (by simp)).ty) ?_
                repeat decreasing_trivial_pre_omega
                cases isW 0 15 q
                · repeat decreasing_trivial_pre_omega
                · repeat decreasing_trivial_pre_omega
                  refine wp_eq (lpage_ok (hl r (by simp)).ty (fun l e x hx s => ?_) (fun l e => ?_)) ?_
                  · subst e
                    exact (PlD.mem (hl (.tup l) (by simp)) x hx).ty
                  · subst e
                    exact (hl (.tup l) (by simp)).1
                  · repeat decreasing_trivial_pre_omega
            · repeat decreasing_trivial_pre_omega
          rw [if_neg h1]
          repeat decreasing_trivial_pre_omega
          by_cases h2 : z = "last"
          · subst h2
            rw [if_pos rfl]
            rcases l with _ | ⟨p, _ | ⟨q, _ | ⟨r, l⟩⟩⟩
            · repeat decreasing_trivial_pre_omega
            · repeat decreasing_trivial_pre_omega
            · repeat decreasing_trivial_pre_omega
              refine wp_eq (from_ok (hl p (by simp)).ty) ?_
              repeat decreasing_trivial_pre_omega
              cases h5 : isW 0 4095 p
              · repeat decreasing_trivial_pre_omega
                exact ⟨by cases q <;> simp [isLaR, h5], [], by simp⟩
              · repeat decreasing_trivial_pre_omega
                refine wp_eq (lrow_ok (hl q (by simp))) ?_
                repeat decreasing_trivial_pre_omega
                refine ⟨?_, [], by simp⟩
                cases q with
                | tup l =>
                  have h6 : l.all (isW 1 1000000000000000000000000000000000000000000000000000000000000) = l.all isCnt := by
                    have hq := hl (.tup l) (by simp)
                    clear hl hp h ht e
                    have h7 : ∀ x ∈ l, PlD 1 x := hq.2
                    clear hq
                    induction l with
                    | nil => rfl
                    | cons a l ih => rw [List.all_cons, List.all_cons, ih fun x hx => h7 x (by simp [hx]), cnt_60 (h7 a (by simp))]
                  simp [isLaR, h5, allT, h6]
                | _ => rfl
            · repeat decreasing_trivial_pre_omega
              exact ⟨congrArg W.bl (by simp [isLaR]; omega), [], by simp⟩
          rw [if_neg h2]
          repeat decreasing_trivial_pre_omega
          by_cases h3 : z = "lack"
          · subst h3
            rw [if_pos rfl]
            rcases l with _ | ⟨q, _ | ⟨r, l⟩⟩
            · repeat decreasing_trivial_pre_omega
            · repeat decreasing_trivial_pre_omega
              refine wp_eq (lrow_ok (hl q (by simp))) ?_
              repeat decreasing_trivial_pre_omega
              cases q with
              | tup l =>
                have hq := hl (.tup l) (by simp)
                cases h5 : isRw (.tup l)
                · repeat decreasing_trivial_pre_omega
                  exact ⟨by simp [isLkR, h5], [], by simp⟩
                · cases h6 : l.all (isW 0 15)
                  · have h7 : allT 0 15 (.tup l) = false := h6
                    rw [h7]
                    repeat decreasing_trivial_pre_omega
                    exact ⟨by simp [isLkR, h5, h6], [], by simp⟩
                  · obtain ⟨ns, rfl⟩ := ints_of h6
                    have hn : ns.length ≤ 16 := by
                      simp [isRw] at h5
                      exact h5.2
                    have h7 : allT 0 15 (.tup (ns.map W.int)) = true := h6
                    rw [h7]
                    repeat decreasing_trivial_pre_omega
                    refine ⟨_, ns, rfl, getI_map ns, by omega, ?_⟩
                    repeat decreasing_trivial_pre_omega
                    refine Sw.v_eqW (eqW_intL (sto_app sto_at) sto_at) ?_
                    repeat decreasing_trivial_pre_omega
                    refine ⟨?_, _, List.append_assoc _ _ _⟩
                    rw [rise_set]
                    simp only [isLkR, h5, h6, pw_rise, Bool.true_and]
              | _ => repeat decreasing_trivial_pre_omega
            · repeat decreasing_trivial_pre_omega
              exact ⟨by cases q <;> rfl, [], by simp⟩
          rw [if_neg h3]
          repeat decreasing_trivial_pre_omega
          have hi : inFW (.str z) [.str "go", .str "off", .str "have", .str "runs"] = decide (z ∈ (["go", "off", "have", "runs"] : List Str)) := inF_strs ["go", "off", "have", "runs"]
          simp only [List.mem_cons, List.not_mem_nil, or_false] at hi
          rw [hi]
          by_cases hw : z = "go" ∨ z = "off" ∨ z = "have" ∨ z = "runs"
          · rw [if_pos hw]
            repeat decreasing_trivial_pre_omega
            refine Sw.v_eqW (eqT_nil (k := 2) ⟨by have := hp.1; simp only [List.length_cons] at this; show l.length ≤ 1000; omega, hl⟩ (by omega)) ?_
            repeat decreasing_trivial_pre_omega
            refine ⟨?_, [], by simp⟩
            cases l <;> rfl
          · rw [if_neg hw]
            repeat decreasing_trivial_pre_omega
            exact ⟨by simp [hw], [], by simp⟩
      | _ => repeat decreasing_trivial_pre_omega
  | ref n => repeat decreasing_trivial_pre_omega
  | _ => repeat decreasing_trivial_pre_omega

end Lw

namespace Lw
open PySem PySem.Spec PyProof.Rows L2 Sw
/-- one step; the goal's head says which -/
local macro_rules | `(tactic| decreasing_trivial_pre_omega) => `(tactic| first
  | ((with_reducible refine Sw.gWi ?_); first
    | with_reducible refine Sw.ws_ift ?_
    | with_reducible refine Sw.ws_iff ?_
    | with_reducible refine Sw.ws_ifn ?_
    | ((with_reducible refine Sw.ws_ifd1 ?_ ?_); (focus first | assumption | omega | (simp; done)))
    | ((with_reducible refine Sw.ws_ifd0 ?_ ?_); (focus first | assumption | omega | (simp; done)))
    | ((with_reducible refine Sw.ws_ifb1 ?_ ?_); (focus rfl))
    | ((with_reducible refine Sw.ws_ifb0 ?_ ?_); (focus rfl))
    )
  | ((with_reducible refine Sw.gW ?_); first
    | with_reducible refine Sw.ws_seqS ?_
    | with_reducible refine Sw.ws_ifS ?_
    | with_reducible refine Sw.ws_forN ?_
    | with_reducible refine Sw.ws_seq ?_
    | with_reducible refine Sw.ws_set ?_
    | with_reducible refine Sw.ws_if ?_
    | with_reducible refine Sw.ws_ret ?_
    | with_reducible refine Sw.ws_next ?_
    | with_reducible refine Sw.ws_drop ?_
    | with_reducible refine Sw.ws_for ?_
    | with_reducible refine Sw.ws_asg ?_
    | with_reducible refine Sw.ws_retN ?_
    | with_reducible refine Sw.ws_raise ?_
    | with_reducible refine Sw.ws_raiseD ?_
    | with_reducible refine Sw.ws_gN ?_
    | with_reducible refine Sw.ws_brk ?_
    | with_reducible refine Sw.ws_cnt ?_
    | ((with_reducible apply Sw.ws_aug); rfl)
    | with_reducible refine Sw.ws_gSub ?_
    | with_reducible refine Sw.ws_gsCons ?_
    | with_reducible refine Sw.ws_gsNil ?_
    | ((with_reducible apply Sw.ws_gsConsE); (focus rfl))
    | ((with_reducible apply Sw.ws_gsNilE); (focus rfl))
    | with_reducible refine Sw.ws_par2 ?_
    | with_reducible refine Sw.ws_par3 ?_
    | ((with_reducible refine Sw.ws_gTup ?_ ?_); (focus rfl))
    | ((with_reducible apply Sw.ws_gSeqN); (focus first | rfl | exact getS_at (by assumption) | exact getS_at sto_at | exact getS_at (sto_app (by assumption)) | exact getS_at (sto_app sto_at)); (focus first | rfl | decide | (simp; done) | (simp; omega)))
    | ((with_reducible apply Sw.ws_gStarN); (focus first | rfl | exact getS_at (by assumption) | exact getS_at sto_at | exact getS_at (sto_app (by assumption)) | exact getS_at (sto_app sto_at)); (focus first | decide | (simp; done) | (simp; omega)))
    )
  | ((with_reducible refine Sw.gI ?_); first
    | with_reducible refine Sw.wp_ift ?_
    | with_reducible refine Sw.wp_iff ?_
    | with_reducible refine Sw.wp_ifn ?_
    | ((with_reducible refine Sw.wp_ifd1 ?_ ?_); (focus first | assumption | omega | (simp; done)))
    | ((with_reducible refine Sw.wp_ifd0 ?_ ?_); (focus first | assumption | omega | (simp; done)))
    | ((with_reducible refine Sw.wp_ifb1 ?_ ?_); (focus rfl))
    | ((with_reducible refine Sw.wp_ifb0 ?_ ?_); (focus rfl))
    )
  | ((with_reducible refine Sw.gF ?_); first
    | ((with_reducible apply Sw.v_var); rfl)
    | with_reducible refine Sw.v_c ?_
    | with_reducible refine Sw.v_cons ?_
    | with_reducible refine Sw.v_nil ?_
    | ((with_reducible refine Sw.v_fn ?_))
    | with_reducible refine Sw.v_call ?_
    | ((with_reducible apply Sw.v_ask); (focus rfl); (focus rfl))
    | with_reducible refine Sw.v_bin ?_
    | with_reducible refine Sw.v_cmp ?_
    | with_reducible refine Sw.v_cmpE ?_
    | with_reducible refine Sw.v_tru ?_
    | with_reducible refine Sw.v_notT ?_
    | with_reducible refine Sw.v_andT ?_
    | with_reducible refine Sw.v_orT ?_
    | with_reducible refine Sw.v_and ?_
    | with_reducible refine Sw.v_or ?_
    | with_reducible refine Sw.v_not ?_
    | with_reducible refine Sw.v_if ?_
    | with_reducible refine Sw.v_chn ?_
    | with_reducible refine Sw.v_chnE ?_
    | with_reducible refine Sw.v_tup ?_
    | with_reducible refine Sw.v_lst ?_
    | with_reducible refine Sw.v_sl ?_
    | with_reducible refine Sw.v_no ?_
    | with_reducible refine Sw.v_so ?_
    | with_reducible refine Sw.v_neg ?_
    | with_reducible refine Sw.v_lc ?_
    | with_reducible refine Sw.v_it ?_
    | with_reducible refine Sw.v_seqI ?_
    | with_reducible refine Sw.v_mt ?_
    | with_reducible refine Sw.v_m1 ?_
    | with_reducible refine Sw.v_dict0 ?_
    | with_reducible refine Sw.v_it1 ?_
    )
  | ((with_reducible refine Sw.gO ?_); first
    | with_reducible refine Sw.v_ltI ?_
    | with_reducible refine Sw.v_leI ?_
    | with_reducible refine Sw.v_gtI ?_
    | with_reducible refine Sw.v_geI ?_
    | with_reducible refine Sw.v_eqI ?_
    | with_reducible refine Sw.v_neI ?_
    | with_reducible refine Sw.v_eqS ?_
    | with_reducible refine Sw.v_neS ?_
    | with_reducible refine Sw.v_truB ?_
    | with_reducible refine Sw.v_truI ?_
    | with_reducible refine Sw.v_truN ?_
    | with_reducible refine Sw.v_truT ?_
    | with_reducible refine Sw.v_seqT ?_
    | with_reducible refine Sw.v_seqR ?_
    | with_reducible refine Sw.v_seqS ?_
    | ((with_reducible apply Sw.v_seqL); (focus first | assumption | exact sto_at | exact sto_app (by assumption) | exact sto_app (sto_app (by assumption)) | exact sto_app sto_at | exact sto_app (sto_app sto_at)))
    | with_reducible refine Sw.v_inK ?_
    | with_reducible refine Sw.v_notInK ?_
    | ((with_reducible apply Sw.wp_opt); (focus rfl))
    )
  | ((with_reducible refine Sw.gE ?_); first
    | with_reducible refine Sw.wp_bind ?_
    | with_reducible refine Sw.wp_ok ?_
    | with_reducible refine Sw.v_addI ?_
    | with_reducible refine Sw.v_subI ?_
    | ((with_reducible refine Sw.v_mulI (.inl ?_) ?_); (focus first | decide | omega))
    | ((with_reducible refine Sw.v_mulT ?_ ?_); exact ⟨by simp, by decide, by decide, by simp⟩)
    | ((with_reducible apply Sw.v_mulL); (focus first | assumption | exact sto_at | exact sto_app (by assumption) | exact sto_app (sto_app (by assumption)) | exact sto_app sto_at | exact sto_app (sto_app sto_at)); (focus exact ⟨by decide, by decide, by simp⟩))
    | ((with_reducible refine Sw.v_modI ?_ ?_); (focus first | decide | omega))
    | ((with_reducible refine Sw.v_addT ?_ ?_); refine line1000 ?_; (focus first | decide | (simp; done) | (simp; omega)))
    | ((with_reducible apply Sw.v_powE); (focus decide +kernel); (focus (simp only [Int.reduceToNat, Int.reducePow]; rfl)))
    | ((with_reducible apply Sw.v_ixL); (first | assumption | exact sto_at | exact sto_app (by assumption) | exact sto_app (sto_app (by assumption)) | exact sto_app sto_at | exact sto_app (sto_app sto_at)); (focus first | rfl | assumption | exact atI_nat (by assumption) | exact Sw.atc0 | exact Sw.atc1 | exact Sw.atc2))
    | ((with_reducible apply Sw.v_ixT); (focus first | rfl | assumption | exact atI_nat (by assumption) | exact Sw.atc0 | exact Sw.atc1 | exact Sw.atc2))
    | ((with_reducible apply Sw.v_ixR); (focus first | rfl | assumption | exact atI_nat (by assumption) | exact Sw.atc0 | exact Sw.atc1 | exact Sw.atc2))
    | with_reducible refine Sw.v_slc1 ?_
    | with_reducible refine Sw.v_slc2 ?_
    | ((with_reducible apply Sw.v_slLt1); (focus first | assumption | exact sto_at | exact sto_app (by assumption) | exact sto_app (sto_app (by assumption)) | exact sto_app sto_at | exact sto_app (sto_app sto_at)))
    | ((with_reducible apply Sw.v_slLt2); (focus first | assumption | exact sto_at | exact sto_app (by assumption) | exact sto_app (sto_app (by assumption)) | exact sto_app sto_at | exact sto_app (sto_app sto_at)))
    | ((with_reducible apply Sw.v_slLd1); (focus first | assumption | exact sto_at | exact sto_app (by assumption) | exact sto_app (sto_app (by assumption)) | exact sto_app sto_at | exact sto_app (sto_app sto_at)))
    | ((with_reducible apply Sw.v_addL); (focus first | assumption | exact sto_at | exact sto_app (by assumption) | exact sto_app (sto_app (by assumption)) | exact sto_app sto_at | exact sto_app (sto_app sto_at)); (focus first | assumption | exact sto_at | exact sto_app (by assumption) | exact sto_app (sto_app (by assumption)) | exact sto_app sto_at | exact sto_app (sto_app sto_at)); (focus first | decide | (simp; done) | (simp; omega)))
    | with_reducible refine Sw.v_sortSet ?_
    | ((with_reducible refine Sw.v_sl0 ?_ ?_); (focus omega))
    | ((with_reducible refine Sw.v_sl1 ?_ ?_); (focus omega))
    | with_reducible refine Sw.v_lenT ?_
    | with_reducible refine Sw.v_lenR ?_
    | ((with_reducible apply Sw.v_lenL); (focus first | assumption | exact sto_at | exact sto_app (by assumption) | exact sto_app (sto_app (by assumption)) | exact sto_app sto_at | exact sto_app (sto_app sto_at)))
    | ((with_reducible apply Sw.v_appT); (focus first | decide | (simp; done) | (simp; omega)))
    | with_reducible refine Sw.v_intI ?_
    | with_reducible refine Sw.v_intB ?_
    | with_reducible refine Sw.v_absI ?_
    | with_reducible refine Sw.v_max2 ?_
    | with_reducible refine Sw.v_min2 ?_
    | with_reducible refine Sw.v_listT ?_
    | ((with_reducible apply Sw.v_listL); (focus first | assumption | exact sto_at | exact sto_app (by assumption) | exact sto_app (sto_app (by assumption)) | exact sto_app sto_at | exact sto_app (sto_app sto_at)))
    | with_reducible refine Sw.v_tupleT ?_
    | ((with_reducible apply Sw.v_tupleL); (focus first | assumption | exact sto_at | exact sto_app (by assumption) | exact sto_app (sto_app (by assumption)) | exact sto_app sto_at | exact sto_app (sto_app sto_at)))
    | ((with_reducible refine Sw.v_rng1 ?_ ?_); (focus first | exact ⟨by omega, by omega, by omega, by omega⟩ | decide))
    | ((with_reducible refine Sw.v_rng2 ?_ ?_); (focus first | exact ⟨by omega, by omega, by omega, by omega⟩ | decide))
    | with_reducible refine Sw.v_zipT ?_
    | with_reducible refine Sw.v_enumT ?_
    | ((with_reducible apply Sw.v_enumL); (focus first | assumption | exact sto_at | exact sto_app (by assumption) | exact sto_app (sto_app (by assumption)) | exact sto_app sto_at | exact sto_app (sto_app sto_at)))
    | with_reducible refine Sw.v_andI ?_
    | with_reducible refine Sw.v_orI ?_
    | ((with_reducible refine Sw.v_shrI ?_ ?_); decide)
    | ((with_reducible apply Sw.v_allL); (focus first | assumption | exact sto_at | exact sto_app (by assumption) | exact sto_app (sto_app (by assumption)) | exact sto_app sto_at | exact sto_app (sto_app sto_at)))
    | ((with_reducible apply Sw.v_anyL); (focus first | assumption | exact sto_at | exact sto_app (by assumption) | exact sto_app (sto_app (by assumption)) | exact sto_app sto_at | exact sto_app (sto_app sto_at)))
    | with_reducible refine Sw.v_addGI ?_
    | ((with_reducible refine Sw.v_addGT ?_ ?_); refine line1000 ?_; (focus first | decide | (simp; done) | (simp; omega)))
    | ((with_reducible apply Sw.v_ixK); (focus rfl))
    )
  | with_reducible refine ⟨_, rfl, ?_⟩
  | with_reducible refine ⟨_, _, rfl, ?_⟩
  | with_reducible refine ⟨_, _, _, rfl, ?_⟩
  | ((with_reducible refine And.intro ?_ ?_); (focus first | rfl | decide | exact isLst_at sto_at | exact isLst_at (by assumption) | exact isLst_at (sto_app sto_at) | exact isLst_at (sto_app (by assumption)) | (simp; done) | (simp; omega)))
  | exact ⟨[], (List.append_nil _).symm⟩
  | with_reducible rfl
  | with_reducible refine Sw.ex_app ?_
  | exact ⟨_, rfl⟩
  )
/-! ### numbers by ten -/
def decL (n : Nat) : List Nat := if h : n < 10 then [48 + n] else decL (n / 10) ++ [48 + n % 10]
theorem decL_lo {n : Nat} (h : n < 10) : decL n = [48 + n] := by
  rw [decL, dif_pos h]
theorem decL_hi {n : Nat} (h : ¬ n < 10) : decL n = decL (n / 10) ++ [48 + n % 10] := by
  rw [decL, dif_neg h]
theorem decL_dig (n : Nat) : PySem.NumText.AllDigits (decL n) := by
  induction n using Nat.strongRecOn with
  | _ n ih =>
    by_cases h : n < 10
    · rw [decL_lo h]
      intro c hc
      rw [List.mem_singleton.mp hc]
      omega
    · rw [decL_hi h]
      intro c hc
      rcases List.mem_append.mp hc with hc | hc
      · exact ih (n / 10) (by omega) c hc
      · rw [List.mem_singleton.mp hc]
        omega
theorem decL_val (n : Nat) : PySem.NumText.digitsVal (decL n) = n := by
  induction n using Nat.strongRecOn with
  | _ n ih =>
    by_cases h : n < 10
    · rw [decL_lo h]
      simp [PySem.NumText.digitsVal]
    · rw [decL_hi h, PySem.NumText.digitsVal_snoc, ih (n / 10) (by omega)]
      omega
theorem decL_head (n : Nat) : ∃ c r, decL n = c :: r ∧ (n = 0 ∨ 49 ≤ c) := by
  induction n using Nat.strongRecOn with
  | _ n ih =>
    by_cases h : n < 10
    · exact ⟨48 + n, [], decL_lo h, by omega⟩
    · obtain ⟨c, r, e, hc⟩ := ih (n / 10) (by omega)
      refine ⟨c, r ++ [48 + n % 10], by rw [decL_hi h, e]; rfl, ?_⟩
      rcases hc with hc | hc
      · omega
      · exact .inr hc
theorem decL_len : ∀ (k n : Nat), n < 10 ^ (k + 1) → (decL n).length ≤ k + 1
  | 0, n, h => by rw [decL_lo (by omega)]; simp
  | k + 1, n, h => by
    by_cases h10 : n < 10
    · rw [decL_lo h10]; simp
    · rw [decL_hi h10, List.length_append]
      have := decL_len k (n / 10) (by rw [Nat.pow_succ] at h; omega)
      simp
      omega
def decS (n : Nat) : Str := ⟨(decL n).toArray⟩
theorem decS_tl {n : Nat} : (decS n).cps.toList = decL n := by simp [decS]
theorem chr_nat : ∀ c : Fin 64, (Char.ofNat c.1).toNat = c.1 := by decide
theorem decS_eq (n : Nat) : (Str.ofString (toString (n : Int)) : Str) = decS n := by
  have h1 : toString (n : Int) = Nat.repr n := rfl
  have h2 : Nat.toDigits 10 n = (decL n).map Char.ofNat := by
    obtain ⟨c, r, e, hc⟩ := decL_head n
    rcases hc with rfl | hc
    · rw [decL_lo (by omega)]
      rfl
    · have := PySem.NumText.toDigits_digitsVal r.length (decL n) (by rw [e]; simp) (decL_dig n) (.inr ⟨c, r, e, hc⟩)
      rw [decL_val] at this
      exact this
  rw [h1, Str.ofString_eq_toList]
  unfold decS Nat.repr
  congr 2
  rw [h2, String.toList_ofList, List.map_map]
  refine (List.map_congr_left fun c hc => ?_).trans (List.map_id _)
  have := decL_dig n c hc
  show (Char.ofNat c).toNat = c
  exact chr_nat ⟨c, by omega⟩
theorem decS_ne {n : Nat} : (decS n).cps.toList ≠ [] := by
  rw [decS_tl]
  obtain ⟨c, r, e, _⟩ := decL_head n
  rw [e]
  simp
theorem decS_len {k n : Nat} (h : n < 10 ^ (k + 1)) : (decS n).length ≤ k + 1 := by
  have := decL_len k n h
  simpa [decS, Str.length] using this
theorem decS_pos {n : Nat} : 1 ≤ (decS n).length := by
  obtain ⟨c, r, e, _⟩ := decL_head n
  show 1 ≤ (decL n).toArray.size
  rw [e]
  simp
theorem intText_dec {n : Nat} (h : n < 10 ^ 400) : PySem.intText? (decS n) = some (n : Int) := by
  rw [PySem.intText_digits (by rw [decS_tl]; exact decL_dig n) decS_ne (Nat.le_trans (decS_len (k := 399) h) (by decide)), decS_tl, decL_val]
theorem str_ok {n : Nat} {st : Sto} {Q : W → Sto → Prop} {E : XE} (h : n < 10 ^ 400) (q : Q (.str (decS n)) st) : wp (wStr [.int (n : Int)] st) Q E := Sw.v_strI (by simpa using h) (by rw [decS_eq]; exact q)

theorem fig_in {c : Nat} (h : 48 ≤ c ∧ c ≤ 57) : c ∈ ("0123456789" : Str).cps.toList := by
  have e : ("0123456789" : Str).cps.toList = [48, 49, 50, 51, 52, 53, 54, 55, 56, 57] := by decide +kernel
  rw [e]
  simp
  omega
theorem numin_ok {n : Nat} {st : Sto} (h : n < 10 ^ 40) : f_number_in [.str (decS n)] st = .ok (.int n) st := by
  have hl : (decS n).length ≤ 40 := decS_len (k := 39) h
  have hp := decS_pos (n := n)
  refine clean_wp (wp_run rfl ?_) rfl
  unfold b_number_in
  repeat decreasing_trivial_pre_omega
  refine Sw.v_lenS (Nat.le_trans hl (by decide)) ?_
  repeat decreasing_trivial_pre_omega
  refine Sw.v_lcM (fun _ => .bl true) (by show (List.map _ _).length ≤ _; rw [List.length_map, Array.length_toList]; exact Nat.le_trans hl (by decide)) (fun _ => trivial) (fun acc w hw => ?_) ?_
  · obtain ⟨c, hc, rfl⟩ := List.mem_map.mp hw
    rw [decS_tl] at hc
    have h1 := fig_in (decL_dig n c hc)
    refine ⟨_, rfl, ?_⟩
    repeat decreasing_trivial_pre_omega
    rw [decide_eq_true h1]
    repeat decreasing_trivial_pre_omega
  · repeat decreasing_trivial_pre_omega
    rw [show List.all (List.map (fun c => W.str ⟨#[c]⟩) (decS n).cps.toList, (none : GD)).fst (fun _ => true) = true by simp]
    repeat decreasing_trivial_pre_omega
    have hI : ∀ s, wIntS [.str (decS n)] s = .ok (.int n) s := fun s => by
      show (if (decS n).length ≤ 640 then (match PySem.intText? (decS n) with | some n => An.ok (W.int n) s | none => .bad) else .bad) = _
      rw [if_pos (Nat.le_trans hl (by decide)), intText_dec (Nat.lt_of_lt_of_le h (by decide +kernel))]
    by_cases h0 : decS n = "0"
    · repeat decreasing_trivial_pre_omega
      refine wp_eq (hI _) ?_
      repeat decreasing_trivial_pre_omega
    · obtain ⟨c, r, e, hc⟩ := decL_head n
      have hc : 49 ≤ c := by
        rcases hc with rfl | hc
        · exact absurd (show decS 0 = "0" by decide +kernel) h0
        · exact hc
      have hx : wIx (.str (decS n)) (.int 0) (st ++ [Ob.lst (List.map (fun _ => W.bl true) (List.map (fun c => W.str { cps := #[c] }) (decS n).cps.toList, (none : GD)).fst)]) = some (.str ⟨#[c]⟩) := by
        show (if (decS n).length ≤ sizeLine then (atI (decS n).cps.toList 0).map fun c => W.str ⟨#[c]⟩ else none) = _
        rw [if_pos (Nat.le_trans hl (by decide)), decS_tl, e, Sw.atc0]
        rfl
      repeat decreasing_trivial_pre_omega
      refine wp_opt hx ?_
      repeat decreasing_trivial_pre_omega
      have hne : ¬ ((⟨#[c]⟩ : Str) = "0") := fun z => by
        have : (⟨#[c]⟩ : Str).cps.toList = ("0" : Str).cps.toList := by rw [z]
        have e2 : ("0" : Str).cps.toList = [48] := by decide +kernel
        rw [e2] at this
        simp at this
        omega
      repeat decreasing_trivial_pre_omega
      refine wp_eq (hI _) ?_
      repeat decreasing_trivial_pre_omega
theorem decS_hx {n : Nat} : ∀ c ∈ TL.tl (decS n), 48 ≤ c ∧ c ≤ 57 := fun c hc => decL_dig n c (by
  have : TL.tl (decS n) = decL n := decS_tl
  rw [this] at hc
  exact hc)
theorem decS_nb {n : Nat} : 32 ∉ TL.tl (decS n) := fun h => by have := decS_hx 32 h; omega
theorem decS_nc {n : Nat} : 44 ∉ TL.tl (decS n) := fun h => by have := decS_hx 44 h; omega
theorem hexS_nb {n : Nat} (h : n < 16 ^ 20) : 32 ∉ TL.tl (hexS n) := fun hc => by
  have := hexS_hx h 32 hc
  rcases this with q | q <;> omega

end Lw

namespace Lw
open PySem PySem.Spec PyProof.Rows L2 Sw
/-- one step; the goal's head says which -/
local macro_rules | `(tactic| decreasing_trivial_pre_omega) => `(tactic| first
  | ((with_reducible refine Sw.gWi ?_); first
    | with_reducible refine Sw.ws_ift ?_
    | with_reducible refine Sw.ws_iff ?_
    | with_reducible refine Sw.ws_ifn ?_
    | ((with_reducible refine Sw.ws_ifd1 ?_ ?_); (focus first | assumption | omega | (simp; done)))
    | ((with_reducible refine Sw.ws_ifd0 ?_ ?_); (focus first | assumption | omega | (simp; done)))
    | ((with_reducible refine Sw.ws_ifb1 ?_ ?_); (focus rfl))
    | ((with_reducible refine Sw.ws_ifb0 ?_ ?_); (focus rfl))
    )
  | ((with_reducible refine Sw.gW ?_); first
    | with_reducible refine Sw.ws_seqS ?_
    | with_reducible refine Sw.ws_ifS ?_
    | with_reducible refine Sw.ws_forN ?_
    | with_reducible refine Sw.ws_seq ?_
    | with_reducible refine Sw.ws_set ?_
    | with_reducible refine Sw.ws_if ?_
    | with_reducible refine Sw.ws_ret ?_
    | with_reducible refine Sw.ws_next ?_
    | with_reducible refine Sw.ws_drop ?_
    | with_reducible refine Sw.ws_for ?_
    | with_reducible refine Sw.ws_asg ?_
    | with_reducible refine Sw.ws_retN ?_
    | with_reducible refine Sw.ws_raise ?_
    | with_reducible refine Sw.ws_raiseD ?_
    | with_reducible refine Sw.ws_gN ?_
    | with_reducible refine Sw.ws_brk ?_
    | with_reducible refine Sw.ws_cnt ?_
    | ((with_reducible apply Sw.ws_aug); rfl)
    | with_reducible refine Sw.ws_gSub ?_
    | with_reducible refine Sw.ws_gsCons ?_
    | with_reducible refine Sw.ws_gsNil ?_
    | ((with_reducible apply Sw.ws_gsConsE); (focus rfl))
    | ((with_reducible apply Sw.ws_gsNilE); (focus rfl))
    | with_reducible refine Sw.ws_par2 ?_
    | with_reducible refine Sw.ws_par3 ?_
    | ((with_reducible refine Sw.ws_gTup ?_ ?_); (focus rfl))
    | ((with_reducible apply Sw.ws_gSeqN); (focus first | rfl | exact getS_at (by assumption) | exact getS_at sto_at | exact getS_at (sto_app (by assumption)) | exact getS_at (sto_app sto_at)); (focus first | rfl | decide | (simp; done) | (simp; omega)))
    | ((with_reducible apply Sw.ws_gStarN); (focus first | rfl | exact getS_at (by assumption) | exact getS_at sto_at | exact getS_at (sto_app (by assumption)) | exact getS_at (sto_app sto_at)); (focus first | decide | (simp; done) | (simp; omega)))
    )
  | ((with_reducible refine Sw.gI ?_); first
    | with_reducible refine Sw.wp_ift ?_
    | with_reducible refine Sw.wp_iff ?_
    | with_reducible refine Sw.wp_ifn ?_
    | ((with_reducible refine Sw.wp_ifd1 ?_ ?_); (focus first | assumption | omega | (simp; done)))
    | ((with_reducible refine Sw.wp_ifd0 ?_ ?_); (focus first | assumption | omega | (simp; done)))
    | ((with_reducible refine Sw.wp_ifb1 ?_ ?_); (focus rfl))
    | ((with_reducible refine Sw.wp_ifb0 ?_ ?_); (focus rfl))
    )
  | ((with_reducible refine Sw.gF ?_); first
    | ((with_reducible apply Sw.v_var); rfl)
    | with_reducible refine Sw.v_c ?_
    | with_reducible refine Sw.v_cons ?_
    | with_reducible refine Sw.v_nil ?_
    | ((with_reducible refine Sw.v_fn ?_))
    | with_reducible refine Sw.v_call ?_
    | ((with_reducible apply Sw.v_ask); (focus rfl); (focus rfl))
    | with_reducible refine Sw.v_bin ?_
    | with_reducible refine Sw.v_cmp ?_
    | with_reducible refine Sw.v_cmpE ?_
    | with_reducible refine Sw.v_tru ?_
    | with_reducible refine Sw.v_notT ?_
    | with_reducible refine Sw.v_andT ?_
    | with_reducible refine Sw.v_orT ?_
    | with_reducible refine Sw.v_and ?_
    | with_reducible refine Sw.v_or ?_
    | with_reducible refine Sw.v_not ?_
    | with_reducible refine Sw.v_if ?_
    | with_reducible refine Sw.v_chn ?_
    | with_reducible refine Sw.v_chnE ?_
    | with_reducible refine Sw.v_tup ?_
    | with_reducible refine Sw.v_lst ?_
    | with_reducible refine Sw.v_sl ?_
    | with_reducible refine Sw.v_no ?_
    | with_reducible refine Sw.v_so ?_
    | with_reducible refine Sw.v_neg ?_
    | with_reducible refine Sw.v_lc ?_
    | with_reducible refine Sw.v_it ?_
    | with_reducible refine Sw.v_seqI ?_
    | with_reducible refine Sw.v_mt ?_
    | with_reducible refine Sw.v_m1 ?_
    | with_reducible refine Sw.v_dict0 ?_
    | with_reducible refine Sw.v_it1 ?_
    )
  | ((with_reducible refine Sw.gO ?_); first
    | with_reducible refine Sw.v_ltI ?_
    | with_reducible refine Sw.v_leI ?_
    | with_reducible refine Sw.v_gtI ?_
    | with_reducible refine Sw.v_geI ?_
    | with_reducible refine Sw.v_eqI ?_
    | with_reducible refine Sw.v_neI ?_
    | with_reducible refine Sw.v_eqS ?_
    | with_reducible refine Sw.v_neS ?_
    | with_reducible refine Sw.v_truB ?_
    | with_reducible refine Sw.v_truI ?_
    | with_reducible refine Sw.v_truN ?_
    | with_reducible refine Sw.v_truT ?_
    | with_reducible refine Sw.v_seqT ?_
    | with_reducible refine Sw.v_seqR ?_
    | with_reducible refine Sw.v_seqS ?_
    | ((with_reducible apply Sw.v_seqL); (focus first | assumption | exact sto_at | exact sto_app (by assumption) | exact sto_app (sto_app (by assumption)) | exact sto_app sto_at | exact sto_app (sto_app sto_at)))
    | with_reducible refine Sw.v_inK ?_
    | with_reducible refine Sw.v_notInK ?_
    | ((with_reducible apply Sw.wp_opt); (focus rfl))
    )
  | ((with_reducible refine Sw.gE ?_); first
    | with_reducible refine Sw.wp_bind ?_
    | with_reducible refine Sw.wp_ok ?_
    | with_reducible refine Sw.v_addI ?_
    | with_reducible refine Sw.v_subI ?_
    | ((with_reducible refine Sw.v_mulI (.inl ?_) ?_); (focus first | decide | omega))
    | ((with_reducible refine Sw.v_mulT ?_ ?_); exact ⟨by simp, by decide, by decide, by simp⟩)
    | ((with_reducible apply Sw.v_mulL); (focus first | assumption | exact sto_at | exact sto_app (by assumption) | exact sto_app (sto_app (by assumption)) | exact sto_app sto_at | exact sto_app (sto_app sto_at)); (focus exact ⟨by decide, by decide, by simp⟩))
    | ((with_reducible refine Sw.v_modI ?_ ?_); (focus first | decide | omega))
    | ((with_reducible refine Sw.v_addT ?_ ?_); refine line1000 ?_; (focus first | decide | (simp; done) | (simp; omega)))
    | ((with_reducible apply Sw.v_powE); (focus decide +kernel); (focus (simp only [Int.reduceToNat, Int.reducePow]; rfl)))
    | ((with_reducible apply Sw.v_ixL); (first | assumption | exact sto_at | exact sto_app (by assumption) | exact sto_app (sto_app (by assumption)) | exact sto_app sto_at | exact sto_app (sto_app sto_at)); (focus first | rfl | assumption | exact atI_nat (by assumption) | exact Sw.atc0 | exact Sw.atc1 | exact Sw.atc2))
    | ((with_reducible apply Sw.v_ixT); (focus first | rfl | assumption | exact atI_nat (by assumption) | exact Sw.atc0 | exact Sw.atc1 | exact Sw.atc2))
    | ((with_reducible apply Sw.v_ixR); (focus first | rfl | assumption | exact atI_nat (by assumption) | exact Sw.atc0 | exact Sw.atc1 | exact Sw.atc2))
    | with_reducible refine Sw.v_slc1 ?_
    | with_reducible refine Sw.v_slc2 ?_
    | ((with_reducible apply Sw.v_slLt1); (focus first | assumption | exact sto_at | exact sto_app (by assumption) | exact sto_app (sto_app (by assumption)) | exact sto_app sto_at | exact sto_app (sto_app sto_at)))
    | ((with_reducible apply Sw.v_slLt2); (focus first | assumption | exact sto_at | exact sto_app (by assumption) | exact sto_app (sto_app (by assumption)) | exact sto_app sto_at | exact sto_app (sto_app sto_at)))
    | ((with_reducible apply Sw.v_slLd1); (focus first | assumption | exact sto_at | exact sto_app (by assumption) | exact sto_app (sto_app (by assumption)) | exact sto_app sto_at | exact sto_app (sto_app sto_at)))
    | ((with_reducible apply Sw.v_addL); (focus first | assumption | exact sto_at | exact sto_app (by assumption) | exact sto_app (sto_app (by assumption)) | exact sto_app sto_at | exact sto_app (sto_app sto_at)); (focus first | assumption | exact sto_at | exact sto_app (by assumption) | exact sto_app (sto_app (by assumption)) | exact sto_app sto_at | exact sto_app (sto_app sto_at)); (focus first | decide | (simp; done) | (simp; omega)))
    | with_reducible refine Sw.v_sortSet ?_
    | ((with_reducible refine Sw.v_sl0 ?_ ?_); (focus omega))
    | ((with_reducible refine Sw.v_sl1 ?_ ?_); (focus omega))
    | with_reducible refine Sw.v_lenT ?_
    | with_reducible refine Sw.v_lenR ?_
    | ((with_reducible apply Sw.v_lenL); (focus first | assumption | exact sto_at | exact sto_app (by assumption) | exact sto_app (sto_app (by assumption)) | exact sto_app sto_at | exact sto_app (sto_app sto_at)))
    | ((with_reducible apply Sw.v_appT); (focus first | decide | (simp; done) | (simp; omega)))
    | with_reducible refine Sw.v_intI ?_
    | with_reducible refine Sw.v_intB ?_
    | with_reducible refine Sw.v_absI ?_
    | with_reducible refine Sw.v_max2 ?_
    | with_reducible refine Sw.v_min2 ?_
    | with_reducible refine Sw.v_listT ?_
    | ((with_reducible apply Sw.v_listL); (focus first | assumption | exact sto_at | exact sto_app (by assumption) | exact sto_app (sto_app (by assumption)) | exact sto_app sto_at | exact sto_app (sto_app sto_at)))
    | with_reducible refine Sw.v_tupleT ?_
    | ((with_reducible apply Sw.v_tupleL); (focus first | assumption | exact sto_at | exact sto_app (by assumption) | exact sto_app (sto_app (by assumption)) | exact sto_app sto_at | exact sto_app (sto_app sto_at)))
    | ((with_reducible refine Sw.v_rng1 ?_ ?_); (focus first | exact ⟨by omega, by omega, by omega, by omega⟩ | decide))
    | ((with_reducible refine Sw.v_rng2 ?_ ?_); (focus first | exact ⟨by omega, by omega, by omega, by omega⟩ | decide))
    | with_reducible refine Sw.v_zipT ?_
    | with_reducible refine Sw.v_enumT ?_
    | ((with_reducible apply Sw.v_enumL); (focus first | assumption | exact sto_at | exact sto_app (by assumption) | exact sto_app (sto_app (by assumption)) | exact sto_app sto_at | exact sto_app (sto_app sto_at)))
    | with_reducible refine Sw.v_andI ?_
    | with_reducible refine Sw.v_orI ?_
    | ((with_reducible refine Sw.v_shrI ?_ ?_); decide)
    | ((with_reducible apply Sw.v_allL); (focus first | assumption | exact sto_at | exact sto_app (by assumption) | exact sto_app (sto_app (by assumption)) | exact sto_app sto_at | exact sto_app (sto_app sto_at)))
    | ((with_reducible apply Sw.v_anyL); (focus first | assumption | exact sto_at | exact sto_app (by assumption) | exact sto_app (sto_app (by assumption)) | exact sto_app sto_at | exact sto_app (sto_app sto_at)))
    | with_reducible refine Sw.v_addGI ?_
    | ((with_reducible refine Sw.v_addGT ?_ ?_); refine line1000 ?_; (focus first | decide | (simp; done) | (simp; omega)))
    | ((with_reducible apply Sw.v_ixK); (focus rfl))
    )
  | with_reducible refine ⟨_, rfl, ?_⟩
  | with_reducible refine ⟨_, _, rfl, ?_⟩
  | with_reducible refine ⟨_, _, _, rfl, ?_⟩
  | ((with_reducible refine And.intro ?_ ?_); (focus first | rfl | decide | exact isLst_at sto_at | exact isLst_at (by assumption) | exact isLst_at (sto_app sto_at) | exact isLst_at (sto_app (by assumption)) | (simp; done) | (simp; omega)))
  | exact ⟨[], (List.append_nil _).symm⟩
  | with_reducible rfl
  | with_reducible refine Sw.ex_app ?_
  | exact ⟨_, rfl⟩
  )
/-! ### deeds -/
inductive Dd where
  | ld (a : Nat) | st (a c : Nat) | tn (r : Nat) | gv (n : Nat)
def Dd.w : Dd → W
  | .ld a => .tup [.str "load", .int a]
  | .st a c => .tup [.str "store", .int a, .int c]
  | .tn a => .tup [.str "turn", .int a]
  | .gv a => .tup [.str "give", .int a]
def Dd.ps : Dd → List Str
  | .ld a => ["load", decS a]
  | .st a c => ["store", decS a, hexS c]
  | .tn a => ["turn", decS a]
  | .gv a => ["give", decS a]
def Dd.s (d : Dd) : Str := Txt.join " " d.ps
def Dd.ok : Dd → Prop
  | .ld a => a ≤ 511
  | .st a c => a ≤ 511 ∧ c ≤ 65535
  | .tn a => a ≤ 4095
  | .gv a => a ≤ 4095
theorem isW_nat {a b : Nat} (h : a ≤ b) : isW 0 b (.int a) = true := by
  show (decide ((0 : Int) ≤ a) && decide ((a : Int) ≤ b)) = true
  simp [h]
theorem isW_of {b : Nat} {w : W} (h : isW 0 b w = true) : ∃ a : Nat, w = .int a ∧ a ≤ b := by
  cases w with
  | int i =>
    have h' : (decide ((0 : Int) ≤ i) && decide (i ≤ (b : Int))) = true := h
    simp only [Bool.and_eq_true, decide_eq_true_eq] at h'
    exact ⟨i.toNat, by rw [Int.toNat_of_nonneg h'.1], by omega⟩
  | _ => cases h
theorem Dd.is {d : Dd} (h : d.ok) : isDeedW d.w = true := by
  cases d with
  | ld a => exact isW_nat (b := 511) h
  | st a c => exact (Bool.and_eq_true _ _).mpr ⟨isW_nat (b := 511) h.1, isW_nat (b := 65535) h.2⟩
  | tn a => exact isW_nat (b := 4095) h
  | gv a => exact isW_nat (b := 4095) h
theorem Dd.of {w : W} (h : isDeedW w = true) : ∃ d : Dd, d.ok ∧ w = d.w := by
  cases w with
  | tup l =>
    rcases l with _ | ⟨a, l⟩
    · cases h
    · cases a with
      | str z =>
        simp only [isDeedW] at h
        by_cases h1 : z = "load"
        · subst h1
          simp only [if_true] at h
          rcases l with _ | ⟨x, _ | ⟨y, l⟩⟩
          · cases h
          · obtain ⟨a, rfl, ha⟩ := isW_of (b := 511) h
            exact ⟨.ld a, ha, rfl⟩
          · cases h
        rw [if_neg h1] at h
        by_cases h2 : z = "store"
        · subst h2
          simp only [if_true] at h
          rcases l with _ | ⟨x, _ | ⟨y, _ | ⟨u, l⟩⟩⟩
          · cases h
          · cases h
          · have h' := (Bool.and_eq_true _ _).mp h
            obtain ⟨a, rfl, ha⟩ := isW_of (b := 511) h'.1
            obtain ⟨c, rfl, hc⟩ := isW_of (b := 65535) h'.2
            exact ⟨.st a c, ⟨ha, hc⟩, rfl⟩
          · cases h
        rw [if_neg h2] at h
        by_cases h3 : z = "turn"
        · subst h3
          simp only [if_true] at h
          rcases l with _ | ⟨x, _ | ⟨y, l⟩⟩
          · cases h
          · obtain ⟨a, rfl, ha⟩ := isW_of (b := 4095) h
            exact ⟨.tn a, ha, rfl⟩
          · cases h
        rw [if_neg h3] at h
        by_cases h4 : z = "give"
        · subst h4
          simp only [if_true] at h
          rcases l with _ | ⟨x, _ | ⟨y, l⟩⟩
          · cases h
          · obtain ⟨a, rfl, ha⟩ := isW_of (b := 4095) h
            exact ⟨.gv a, ha, rfl⟩
          · cases h
        rw [if_neg h4] at h
        cases h
      | _ => cases h
  | _ => cases h
theorem Dd.pl {d : Dd} (h : d.ok) : PlD 2 d.w := by
  have b : (65535 : Nat) ≤ 10 ^ 50 := by decide +kernel
  have s1 : ∀ z : Str, PyData.canLay0 (.str z) = true → PlD 1 (.str z) := fun z h => h
  have i1 : ∀ a : Nat, a ≤ 65535 → PlD 1 (.int a) := fun a h => by
    show (a : Int).natAbs ≤ 10 ^ 50
    omega
  cases d <;> refine ⟨by simp, fun x hx => ?_⟩ <;> simp only [List.mem_cons, List.not_mem_nil, or_false] at hx
  · have h : _ ≤ 511 := h
    rcases hx with rfl | rfl
    · exact s1 _ (by decide +kernel)
    · exact i1 _ (by omega)
  · have h : _ ≤ 511 ∧ _ ≤ 65535 := h
    rcases hx with rfl | rfl | rfl
    · exact s1 _ (by decide +kernel)
    · exact i1 _ (by omega)
    · exact i1 _ (by omega)
  · have h : _ ≤ 4095 := h
    rcases hx with rfl | rfl
    · exact s1 _ (by decide +kernel)
    · exact i1 _ (by omega)
  · have h : _ ≤ 4095 := h
    rcases hx with rfl | rfl
    · exact s1 _ (by decide +kernel)
    · exact i1 _ (by omega)
theorem deedtext_no {w : W} {st : Sto} (h : PlD 2 w ∨ ∃ n l, w = .ref n ∧ st[n]? = some (.lst l)) (hn : isDeedW w = false) : f_deed_text [w] st = .ex "NoDeed" [("number", .int 0)] st := by
  refine clean_ex ?_
  refine wp_exq (wp_run (E := fun C fs s => C = ("NoDeed" : Str) ∧ fs = [(("number" : Str), W.int 0)] ∧ s = st) (Q := fun _ _ => False) rfl ?_)
  unfold b_deed_text
  repeat decreasing_trivial_pre_omega
  refine wp_eq (isdeed_ok h) ?_
  rw [hn]
  repeat decreasing_trivial_pre_omega
theorem words_join {ps : List Str} (h : ps ≠ []) (hp : ∀ p ∈ ps, 32 ∉ TL.tl p) : Txt.split (Txt.join " " ps) " " = ps := TL.split_join blank (by decide +kernel) h hp
theorem hexM {gd : GD} {st : Sto} {items : List W} {cs : List Nat} {env : En} {Q : Unit → Sto → Prop} {E : XE} (hi : items = wI8 cs) (hg : ∀ a, gdOk gd (st ++ [.lst a])) (hb : ∀ c ∈ cs, c < 16 ^ 20) (hl : cs.length ≤ 100000) (h4 : 4 < env.length)
    (q : Q () (st ++ [.lst ((cs.map hexS).map .str)])) : wp (lcS gd (bN 4) fYes (fFn 1 f_hexed (fCons (fVar 4) fNil)) st.length env items (st ++ [.lst []])) Q E := by
  subst hi
  refine Sw.v_lcM (fun w => .str (hexS (unI w))) (by simpa [wI8] using hl) hg (fun acc w hw => ?_) ?_
  · obtain ⟨c, hc, rfl⟩ := List.mem_map.mp hw
    refine ⟨_, rfl, ?_⟩
    have e4 : (env.set 4 (some (W.int (c : Nat))))[4]? = some (some (.int (c : Nat))) := List.getElem?_set_self h4
    refine Sw.v_fn (Sw.v_cons (Sw.v_var e4 (Sw.v_nil ⟨rfl, ?_⟩)))
    refine wp_eq (hexed_ok (hb c hc)) ⟨?_, rfl⟩
    simp [unI]
  · have e : ((wI8 cs).map fun w => W.str (hexS (unI w))) = (cs.map hexS).map .str := by
      simp [wI8, unI, Function.comp_def]
    rw [e]
    exact q
theorem Dd.len {d : Dd} (h : d.ok) : ∀ p ∈ d.ps, p.length ≤ 2000 := by
  have d1 : ∀ n : Nat, n ≤ 4095 → (decS n).length ≤ 2000 := fun n h => Nat.le_trans (decS_len (k := 3) (by omega)) (by decide)
  have d2 : ∀ n : Nat, n ≤ 65535 → (hexS n).length ≤ 2000 := fun n h => Nat.le_trans (hexS_len (Nat.lt_of_le_of_lt h (by decide +kernel))) (by decide)
  cases d <;> intro p hp <;> simp only [Dd.ps, List.mem_cons, List.not_mem_nil, or_false] at hp
  · have h : _ ≤ 511 := h
    rcases hp with rfl | rfl
    · decide +kernel
    · exact d1 _ (by omega)
  · have h : _ ≤ 511 ∧ _ ≤ 65535 := h
    rcases hp with rfl | rfl | rfl
    · decide +kernel
    · exact d1 _ (by omega)
    · exact d2 _ (by omega)
  · have h : _ ≤ 4095 := h
    rcases hp with rfl | rfl
    · decide +kernel
    · exact d1 _ (by omega)
  · have h : _ ≤ 4095 := h
    rcases hp with rfl | rfl
    · decide +kernel
    · exact d1 _ (by omega)
theorem Dd.few (d : Dd) : d.ps.length ≤ 1000 := by cases d <;> simp [Dd.ps]
theorem deedtext_ok {d : Dd} (h : d.ok) {st : Sto} : f_deed_text [d.w] st = .ok (.str d.s) st := by
  have b20 : 65535 < 16 ^ 20 := by decide +kernel
  have jb := join_b (a := " ") (by decide +kernel) (Dd.len h) d.few
  have i4 : ∀ x : W, ∀ a b c : Option W, 4 < (wipeW ((((Sw.start 5 [x]).set 1 a).set 2 b).set 3 c) [4]).length := fun x a b c => by simp [wipeW, Sw.start]
  refine clean_wp (wp_run rfl ?_) rfl
  unfold b_deed_text
  repeat decreasing_trivial_pre_omega
  refine wp_eq (isdeed_ok (.inl (Dd.pl h))) ?_
  rw [Dd.is h]
  repeat decreasing_trivial_pre_omega
  cases d with
  | ld a =>
    have h : a ≤ 511 := h
    simp only [Dd.w]
    repeat decreasing_trivial_pre_omega
    refine str_ok (Nat.lt_of_le_of_lt h (by decide +kernel)) ?_
    repeat decreasing_trivial_pre_omega
    refine hexM (cs := []) rfl (fun a => sto_app (sto_app sto_at)) (by simp) (by simp) (i4 _ _ _ _) ?_
    repeat decreasing_trivial_pre_omega
    refine Sw.v_joinL (ys := Dd.ps (.ld a)) sto_at jb ?_
    repeat decreasing_trivial_pre_omega
  | st a c =>
    have h : a ≤ 511 ∧ c ≤ 65535 := h
    simp only [Dd.w]
    repeat decreasing_trivial_pre_omega
    refine str_ok (Nat.lt_of_le_of_lt h.1 (by decide +kernel)) ?_
    repeat decreasing_trivial_pre_omega
    refine hexM (cs := [c]) rfl (fun a => sto_app (sto_app sto_at)) (by simp; omega) (by simp) (i4 _ _ _ _) ?_
    repeat decreasing_trivial_pre_omega
    refine Sw.v_joinL (ys := Dd.ps (.st a c)) sto_at jb ?_
    repeat decreasing_trivial_pre_omega
  | tn a =>
    have h : a ≤ 4095 := h
    simp only [Dd.w]
    repeat decreasing_trivial_pre_omega
    refine str_ok (Nat.lt_of_le_of_lt h (by decide +kernel)) ?_
    repeat decreasing_trivial_pre_omega
    refine hexM (cs := []) rfl (fun a => sto_app (sto_app sto_at)) (by simp) (by simp) (i4 _ _ _ _) ?_
    repeat decreasing_trivial_pre_omega
    refine Sw.v_joinL (ys := Dd.ps (.tn a)) sto_at jb ?_
    repeat decreasing_trivial_pre_omega
  | gv a =>
    have h : a ≤ 4095 := h
    simp only [Dd.w]
    repeat decreasing_trivial_pre_omega
    refine str_ok (Nat.lt_of_le_of_lt h (by decide +kernel)) ?_
    repeat decreasing_trivial_pre_omega
    refine hexM (cs := []) rfl (fun a => sto_app (sto_app sto_at)) (by simp) (by simp) (i4 _ _ _ _) ?_
    repeat decreasing_trivial_pre_omega
    refine Sw.v_joinL (ys := Dd.ps (.gv a)) sto_at jb ?_
    repeat decreasing_trivial_pre_omega

end Lw

namespace Lw
open PySem PySem.Spec PyProof.Rows L2 Sw
/-- one step; the goal's head says which -/
local macro_rules | `(tactic| decreasing_trivial_pre_omega) => `(tactic| first
  | ((with_reducible refine Sw.gWi ?_); first
    | with_reducible refine Sw.ws_ift ?_
    | with_reducible refine Sw.ws_iff ?_
    | with_reducible refine Sw.ws_ifn ?_
    | ((with_reducible refine Sw.ws_ifd1 ?_ ?_); (focus first | assumption | omega | (simp; done)))
    | ((with_reducible refine Sw.ws_ifd0 ?_ ?_); (focus first | assumption | omega | (simp; done)))
    | ((with_reducible refine Sw.ws_ifb1 ?_ ?_); (focus rfl))
    | ((with_reducible refine Sw.ws_ifb0 ?_ ?_); (focus rfl))
    )
  | ((with_reducible refine Sw.gW ?_); first
    | with_reducible refine Sw.ws_seqS ?_
    | with_reducible refine Sw.ws_ifS ?_
    | with_reducible refine Sw.ws_forN ?_
    | with_reducible refine Sw.ws_seq ?_
    | with_reducible refine Sw.ws_set ?_
    | with_reducible refine Sw.ws_if ?_
    | with_reducible refine Sw.ws_ret ?_
    | with_reducible refine Sw.ws_next ?_
    | with_reducible refine Sw.ws_drop ?_
    | with_reducible refine Sw.ws_for ?_
    | with_reducible refine Sw.ws_asg ?_
    | with_reducible refine Sw.ws_retN ?_
    | with_reducible refine Sw.ws_raise ?_
    | with_reducible refine Sw.ws_raiseD ?_
    | with_reducible refine Sw.ws_gN ?_
    | with_reducible refine Sw.ws_brk ?_
    | with_reducible refine Sw.ws_cnt ?_
    | ((with_reducible apply Sw.ws_aug); rfl)
    | with_reducible refine Sw.ws_gSub ?_
    | with_reducible refine Sw.ws_gsCons ?_
    | with_reducible refine Sw.ws_gsNil ?_
    | ((with_reducible apply Sw.ws_gsConsE); (focus rfl))
    | ((with_reducible apply Sw.ws_gsNilE); (focus rfl))
    | with_reducible refine Sw.ws_par2 ?_
    | with_reducible refine Sw.ws_par3 ?_
    | ((with_reducible refine Sw.ws_gTup ?_ ?_); (focus rfl))
    | ((with_reducible apply Sw.ws_gSeqN); (focus first | rfl | exact getS_at (by assumption) | exact getS_at sto_at | exact getS_at (sto_app (by assumption)) | exact getS_at (sto_app sto_at)); (focus first | rfl | decide | (simp; done) | (simp; omega)))
    | ((with_reducible apply Sw.ws_gStarN); (focus first | rfl | exact getS_at (by assumption) | exact getS_at sto_at | exact getS_at (sto_app (by assumption)) | exact getS_at (sto_app sto_at)); (focus first | decide | (simp; done) | (simp; omega)))
    )
  | ((with_reducible refine Sw.gI ?_); first
    | with_reducible refine Sw.wp_ift ?_
    | with_reducible refine Sw.wp_iff ?_
    | with_reducible refine Sw.wp_ifn ?_
    | ((with_reducible refine Sw.wp_ifd1 ?_ ?_); (focus first | assumption | omega | (simp; done)))
    | ((with_reducible refine Sw.wp_ifd0 ?_ ?_); (focus first | assumption | omega | (simp; done)))
    | ((with_reducible refine Sw.wp_ifb1 ?_ ?_); (focus rfl))
    | ((with_reducible refine Sw.wp_ifb0 ?_ ?_); (focus rfl))
    )
  | ((with_reducible refine Sw.gF ?_); first
    | ((with_reducible apply Sw.v_var); rfl)
    | with_reducible refine Sw.v_c ?_
    | with_reducible refine Sw.v_cons ?_
    | with_reducible refine Sw.v_nil ?_
    | ((with_reducible refine Sw.v_fn ?_))
    | with_reducible refine Sw.v_call ?_
    | ((with_reducible apply Sw.v_ask); (focus rfl); (focus rfl))
    | with_reducible refine Sw.v_bin ?_
    | with_reducible refine Sw.v_cmp ?_
    | with_reducible refine Sw.v_cmpE ?_
    | with_reducible refine Sw.v_tru ?_
    | with_reducible refine Sw.v_notT ?_
    | with_reducible refine Sw.v_andT ?_
    | with_reducible refine Sw.v_orT ?_
    | with_reducible refine Sw.v_and ?_
    | with_reducible refine Sw.v_or ?_
    | with_reducible refine Sw.v_not ?_
    | with_reducible refine Sw.v_if ?_
    | with_reducible refine Sw.v_chn ?_
    | with_reducible refine Sw.v_chnE ?_
    | with_reducible refine Sw.v_tup ?_
    | with_reducible refine Sw.v_lst ?_
    | with_reducible refine Sw.v_sl ?_
    | with_reducible refine Sw.v_no ?_
    | with_reducible refine Sw.v_so ?_
    | with_reducible refine Sw.v_neg ?_
    | with_reducible refine Sw.v_lc ?_
    | with_reducible refine Sw.v_it ?_
    | with_reducible refine Sw.v_seqI ?_
    | with_reducible refine Sw.v_mt ?_
    | with_reducible refine Sw.v_m1 ?_
    | with_reducible refine Sw.v_dict0 ?_
    | with_reducible refine Sw.v_it1 ?_
    )
  | ((with_reducible refine Sw.gO ?_); first
    | with_reducible refine Sw.v_ltI ?_
    | with_reducible refine Sw.v_leI ?_
    | with_reducible refine Sw.v_gtI ?_
    | with_reducible refine Sw.v_geI ?_
    | with_reducible refine Sw.v_eqI ?_
    | with_reducible refine Sw.v_neI ?_
    | with_reducible refine Sw.v_eqS ?_
    | with_reducible refine Sw.v_neS ?_
    | with_reducible refine Sw.v_truB ?_
    | with_reducible refine Sw.v_truI ?_
    | with_reducible refine Sw.v_truN ?_
    | with_reducible refine Sw.v_truT ?_
    | with_reducible refine Sw.v_seqT ?_
    | with_reducible refine Sw.v_seqR ?_
    | with_reducible refine Sw.v_seqS ?_
    | ((with_reducible apply Sw.v_seqL); (focus first | assumption | exact sto_at | exact sto_app (by assumption) | exact sto_app (sto_app (by assumption)) | exact sto_app sto_at | exact sto_app (sto_app sto_at)))
    | with_reducible refine Sw.v_inK ?_
    | with_reducible refine Sw.v_notInK ?_
    | ((with_reducible apply Sw.wp_opt); (focus rfl))
    )
  | ((with_reducible refine Sw.gE ?_); first
    | with_reducible refine Sw.wp_bind ?_
    | with_reducible refine Sw.wp_ok ?_
    | with_reducible refine Sw.v_addI ?_
    | with_reducible refine Sw.v_subI ?_
    | ((with_reducible refine Sw.v_mulI (.inl ?_) ?_); (focus first | decide | omega))
    | ((with_reducible refine Sw.v_mulT ?_ ?_); exact ⟨by simp, by decide, by decide, by simp⟩)
    | ((with_reducible apply Sw.v_mulL); (focus first | assumption | exact sto_at | exact sto_app (by assumption) | exact sto_app (sto_app (by assumption)) | exact sto_app sto_at | exact sto_app (sto_app sto_at)); (focus exact ⟨by decide, by decide, by simp⟩))
    | ((with_reducible refine Sw.v_modI ?_ ?_); (focus first | decide | omega))
    | ((with_reducible refine Sw.v_addT ?_ ?_); refine line1000 ?_; (focus first | decide | (simp; done) | (simp; omega)))
    | ((with_reducible apply Sw.v_powE); (focus decide +kernel); (focus (simp only [Int.reduceToNat, Int.reducePow]; rfl)))
    | ((with_reducible apply Sw.v_ixL); (first | assumption | exact sto_at | exact sto_app (by assumption) | exact sto_app (sto_app (by assumption)) | exact sto_app sto_at | exact sto_app (sto_app sto_at)); (focus first | rfl | assumption | exact atI_nat (by assumption) | exact Sw.atc0 | exact Sw.atc1 | exact Sw.atc2))
    | ((with_reducible apply Sw.v_ixT); (focus first | rfl | assumption | exact atI_nat (by assumption) | exact Sw.atc0 | exact Sw.atc1 | exact Sw.atc2))
    | ((with_reducible apply Sw.v_ixR); (focus first | rfl | assumption | exact atI_nat (by assumption) | exact Sw.atc0 | exact Sw.atc1 | exact Sw.atc2))
    | with_reducible refine Sw.v_slc1 ?_
    | with_reducible refine Sw.v_slc2 ?_
    | ((with_reducible apply Sw.v_slLt1); (focus first | assumption | exact sto_at | exact sto_app (by assumption) | exact sto_app (sto_app (by assumption)) | exact sto_app sto_at | exact sto_app (sto_app sto_at)))
    | ((with_reducible apply Sw.v_slLt2); (focus first | assumption | exact sto_at | exact sto_app (by assumption) | exact sto_app (sto_app (by assumption)) | exact sto_app sto_at | exact sto_app (sto_app sto_at)))
    | ((with_reducible apply Sw.v_slLd1); (focus first | assumption | exact sto_at | exact sto_app (by assumption) | exact sto_app (sto_app (by assumption)) | exact sto_app sto_at | exact sto_app (sto_app sto_at)))
    | ((with_reducible apply Sw.v_addL); (focus first | assumption | exact sto_at | exact sto_app (by assumption) | exact sto_app (sto_app (by assumption)) | exact sto_app sto_at | exact sto_app (sto_app sto_at)); (focus first | assumption | exact sto_at | exact sto_app (by assumption) | exact sto_app (sto_app (by assumption)) | exact sto_app sto_at | exact sto_app (sto_app sto_at)); (focus first | decide | (simp; done) | (simp; omega)))
    | with_reducible refine Sw.v_sortSet ?_
    | ((with_reducible refine Sw.v_sl0 ?_ ?_); (focus omega))
    | ((with_reducible refine Sw.v_sl1 ?_ ?_); (focus omega))
    | with_reducible refine Sw.v_lenT ?_
    | with_reducible refine Sw.v_lenR ?_
    | ((with_reducible apply Sw.v_lenL); (focus first | assumption | exact sto_at | exact sto_app (by assumption) | exact sto_app (sto_app (by assumption)) | exact sto_app sto_at | exact sto_app (sto_app sto_at)))
    | ((with_reducible apply Sw.v_appT); (focus first | decide | (simp; done) | (simp; omega)))
    | with_reducible refine Sw.v_intI ?_
    | with_reducible refine Sw.v_intB ?_
    | with_reducible refine Sw.v_absI ?_
    | with_reducible refine Sw.v_max2 ?_
    | with_reducible refine Sw.v_min2 ?_
    | with_reducible refine Sw.v_listT ?_
    | ((with_reducible apply Sw.v_listL); (focus first | assumption | exact sto_at | exact sto_app (by assumption) | exact sto_app (sto_app (by assumption)) | exact sto_app sto_at | exact sto_app (sto_app sto_at)))
    | with_reducible refine Sw.v_tupleT ?_
    | ((with_reducible apply Sw.v_tupleL); (focus first | assumption | exact sto_at | exact sto_app (by assumption) | exact sto_app (sto_app (by assumption)) | exact sto_app sto_at | exact sto_app (sto_app sto_at)))
    | ((with_reducible refine Sw.v_rng1 ?_ ?_); (focus first | exact ⟨by omega, by omega, by omega, by omega⟩ | decide))
    | ((with_reducible refine Sw.v_rng2 ?_ ?_); (focus first | exact ⟨by omega, by omega, by omega, by omega⟩ | decide))
    | with_reducible refine Sw.v_zipT ?_
    | with_reducible refine Sw.v_enumT ?_
    | ((with_reducible apply Sw.v_enumL); (focus first | assumption | exact sto_at | exact sto_app (by assumption) | exact sto_app (sto_app (by assumption)) | exact sto_app sto_at | exact sto_app (sto_app sto_at)))
    | with_reducible refine Sw.v_andI ?_
    | with_reducible refine Sw.v_orI ?_
    | ((with_reducible refine Sw.v_shrI ?_ ?_); decide)
    | ((with_reducible apply Sw.v_allL); (focus first | assumption | exact sto_at | exact sto_app (by assumption) | exact sto_app (sto_app (by assumption)) | exact sto_app sto_at | exact sto_app (sto_app sto_at)))
    | ((with_reducible apply Sw.v_anyL); (focus first | assumption | exact sto_at | exact sto_app (by assumption) | exact sto_app (sto_app (by assumption)) | exact sto_app sto_at | exact sto_app (sto_app sto_at)))
    | with_reducible refine Sw.v_addGI ?_
    | ((with_reducible refine Sw.v_addGT ?_ ?_); refine line1000 ?_; (focus first | decide | (simp; done) | (simp; omega)))
    | ((with_reducible apply Sw.v_ixK); (focus rfl))
    )
  | with_reducible refine ⟨_, rfl, ?_⟩
  | with_reducible refine ⟨_, _, rfl, ?_⟩
  | with_reducible refine ⟨_, _, _, rfl, ?_⟩
  | ((with_reducible refine And.intro ?_ ?_); (focus first | rfl | decide | exact isLst_at sto_at | exact isLst_at (by assumption) | exact isLst_at (sto_app sto_at) | exact isLst_at (sto_app (by assumption)) | (simp; done) | (simp; omega)))
  | exact ⟨[], (List.append_nil _).symm⟩
  | with_reducible rfl
  | with_reducible refine Sw.ex_app ?_
  | exact ⟨_, rfl⟩
  )
theorem Dd.nb {d : Dd} (h : d.ok) : ∀ p ∈ d.ps, 32 ∉ TL.tl p := by
  have d2 : ∀ n : Nat, n ≤ 65535 → 32 ∉ TL.tl (hexS n) := fun n h => hexS_nb (Nat.lt_of_le_of_lt h (by decide +kernel))
  cases d <;> intro p hp <;> simp only [Dd.ps, List.mem_cons, List.not_mem_nil, or_false] at hp
  · rcases hp with rfl | rfl
    · decide +kernel
    · exact decS_nb
  · have h : _ ≤ 511 ∧ _ ≤ 65535 := h
    rcases hp with rfl | rfl | rfl
    · decide +kernel
    · exact decS_nb
    · exact d2 _ (by omega)
  · rcases hp with rfl | rfl
    · decide +kernel
    · exact decS_nb
  · rcases hp with rfl | rfl
    · decide +kernel
    · exact decS_nb
theorem Dd.split {d : Dd} (h : d.ok) : Txt.split d.s " " = d.ps := words_join (by cases d <;> simp [Dd.ps]) (Dd.nb h)
theorem sjoin_len {ps : List Str} (hl : ps.length ≤ 1000) (h : ∀ p ∈ ps, p.length ≤ 2000) {y : Str} (hy : y.length ≤ 10) : (Txt.join y ps).length ≤ 16777216 := Nat.le_trans join_len (join_b hy h hl)
theorem Dd.slen {d : Dd} (h : d.ok) : d.s.length ≤ 100000 := by
  have h1 := @join_len " " d.ps
  have h2 := Dd.len h
  have h3 : (d.ps.map (·.length)).sum ≤ d.ps.length * 2000 := sum_le h2
  have h4 : d.ps.length ≤ 3 := by cases d <;> simp [Dd.ps]
  have h5 : (" " : Str).length = 1 := by decide +kernel
  rw [h5] at h1
  show (Txt.join " " d.ps).length ≤ 100000
  omega
theorem Dd.w_closed {d : Dd} {n : Nat} : closedW n d.w = true := by cases d <;> rfl
theorem readdeed_ok {d : Dd} (h : d.ok) {st : Sto} : f_read_deed [.str d.s] st = .ok d.w st := by
  refine clean_wp (wp_run rfl ?_) Dd.w_closed
  unfold b_read_deed
  repeat decreasing_trivial_pre_omega
  refine wp_eq (words_ok (Dd.slen h)) ?_
  rw [Dd.split h]
  have hd : ∀ s, f_is_deed [d.w] s = .ok (.bl true) s := fun s => by rw [isdeed_ok (.inl (Dd.pl h)), Dd.is h]
  have ht := fun s => deedtext_ok h (st := s)
  cases d with
  | ld a =>
    have h : a ≤ 511 := h
    simp only [Dd.ps, List.map_cons, List.map_nil]
    repeat decreasing_trivial_pre_omega
    refine ws_fcons rfl sto_at ?_
    repeat decreasing_trivial_pre_omega
    refine wp_eq (numin_ok (Nat.lt_of_le_of_lt h (by decide +kernel))) ?_
    repeat decreasing_trivial_pre_omega
    refine ws_fnil rfl sto_at ?_
    repeat decreasing_trivial_pre_omega
    refine wp_eq (hd _) ?_
    repeat decreasing_trivial_pre_omega
    refine wp_eq (ht _) ?_
    repeat decreasing_trivial_pre_omega
  | st a c =>
    have h : a ≤ 511 ∧ c ≤ 65535 := h
    simp only [Dd.ps, List.map_cons, List.map_nil]
    repeat decreasing_trivial_pre_omega
    refine ws_fcons rfl sto_at ?_
    repeat decreasing_trivial_pre_omega
    refine wp_eq (numin_ok (Nat.lt_of_le_of_lt h.1 (by decide +kernel))) ?_
    repeat decreasing_trivial_pre_omega
    refine ws_fcons rfl sto_at ?_
    repeat decreasing_trivial_pre_omega
    refine wp_eq (cellin_ok h.2) ?_
    repeat decreasing_trivial_pre_omega
    refine ws_fnil rfl sto_at ?_
    repeat decreasing_trivial_pre_omega
    refine wp_eq (hd _) ?_
    repeat decreasing_trivial_pre_omega
    refine wp_eq (ht _) ?_
    repeat decreasing_trivial_pre_omega
  | tn a =>
    have h : a ≤ 4095 := h
    simp only [Dd.ps, List.map_cons, List.map_nil]
    repeat decreasing_trivial_pre_omega
    refine ws_fcons rfl sto_at ?_
    repeat decreasing_trivial_pre_omega
    refine wp_eq (numin_ok (Nat.lt_of_le_of_lt h (by decide +kernel))) ?_
    repeat decreasing_trivial_pre_omega
    refine ws_fnil rfl sto_at ?_
    repeat decreasing_trivial_pre_omega
    refine wp_eq (hd _) ?_
    repeat decreasing_trivial_pre_omega
    refine wp_eq (ht _) ?_
    repeat decreasing_trivial_pre_omega
  | gv a =>
    have h : a ≤ 4095 := h
    simp only [Dd.ps, List.map_cons, List.map_nil]
    repeat decreasing_trivial_pre_omega
    refine ws_fcons rfl sto_at ?_
    repeat decreasing_trivial_pre_omega
    refine wp_eq (numin_ok (Nat.lt_of_le_of_lt h (by decide +kernel))) ?_
    repeat decreasing_trivial_pre_omega
    refine ws_fnil rfl sto_at ?_
    repeat decreasing_trivial_pre_omega
    refine wp_eq (hd _) ?_
    repeat decreasing_trivial_pre_omega
    refine wp_eq (ht _) ?_
    repeat decreasing_trivial_pre_omega
/-! ### the law's own text -/
theorem told_d {d : Dd} (h : d.ok) {st : Sto} : f_law_told [d.w] st = .ok (.str d.s) st := by
  have jb := join_b (a := " ") (by decide +kernel) (Dd.len h) d.few
  refine clean_wp (wp_run rfl ?_) rfl
  unfold b_law_told
  cases d with
  | ld a =>
    have h : a ≤ 511 := h
    simp only [Dd.w]
    repeat decreasing_trivial_pre_omega
    refine ws_fcons rfl trivial ?_
    repeat decreasing_trivial_pre_omega
    refine wp_eq (isi_str TyB.str) ?_
    repeat decreasing_trivial_pre_omega
    refine ws_fcons rfl trivial ?_
    repeat decreasing_trivial_pre_omega
    refine wp_eq (isi_str TyB.int) ?_
    repeat decreasing_trivial_pre_omega
    refine wp_eq (isi_tup TyB.int) ?_
    repeat decreasing_trivial_pre_omega
    refine str_ok (Nat.lt_of_le_of_lt h (by decide +kernel)) ?_
    repeat decreasing_trivial_pre_omega
    refine ws_fnil rfl trivial ?_
    repeat decreasing_trivial_pre_omega
    refine Sw.v_joinL (ys := Dd.ps (.ld a)) sto_at jb ?_
    repeat decreasing_trivial_pre_omega
  | st a c =>
    have h : a ≤ 511 ∧ c ≤ 65535 := h
    simp only [Dd.w]
    repeat decreasing_trivial_pre_omega
    refine ws_fcons rfl trivial ?_
    repeat decreasing_trivial_pre_omega
    refine wp_eq (isi_str TyB.str) ?_
    repeat decreasing_trivial_pre_omega
    refine ws_fcons rfl trivial ?_
    repeat decreasing_trivial_pre_omega
    refine wp_eq (isi_str TyB.int) ?_
    repeat decreasing_trivial_pre_omega
    refine wp_eq (isi_tup TyB.int) ?_
    repeat decreasing_trivial_pre_omega
    refine str_ok (Nat.lt_of_le_of_lt h.1 (by decide +kernel)) ?_
    repeat decreasing_trivial_pre_omega
    refine ws_fcons rfl trivial ?_
    repeat decreasing_trivial_pre_omega
    refine wp_eq (isi_str TyB.int) ?_
    repeat decreasing_trivial_pre_omega
    refine wp_eq (isi_tup TyB.int) ?_
    repeat decreasing_trivial_pre_omega
    refine wp_eq (six_ok (Nat.lt_of_le_of_lt h.2 (by decide +kernel))) ?_
    repeat decreasing_trivial_pre_omega
    refine ws_fnil rfl trivial ?_
    repeat decreasing_trivial_pre_omega
    refine Sw.v_joinL (ys := Dd.ps (.st a c)) sto_at jb ?_
    repeat decreasing_trivial_pre_omega
  | tn a =>
    have h : a ≤ 4095 := h
    simp only [Dd.w]
    repeat decreasing_trivial_pre_omega
    refine ws_fcons rfl trivial ?_
    repeat decreasing_trivial_pre_omega
    refine wp_eq (isi_str TyB.str) ?_
    repeat decreasing_trivial_pre_omega
    refine ws_fcons rfl trivial ?_
    repeat decreasing_trivial_pre_omega
    refine wp_eq (isi_str TyB.int) ?_
    repeat decreasing_trivial_pre_omega
    refine wp_eq (isi_tup TyB.int) ?_
    repeat decreasing_trivial_pre_omega
    refine str_ok (Nat.lt_of_le_of_lt h (by decide +kernel)) ?_
    repeat decreasing_trivial_pre_omega
    refine ws_fnil rfl trivial ?_
    repeat decreasing_trivial_pre_omega
    refine Sw.v_joinL (ys := Dd.ps (.tn a)) sto_at jb ?_
    repeat decreasing_trivial_pre_omega
  | gv a =>
    have h : a ≤ 4095 := h
    simp only [Dd.w]
    repeat decreasing_trivial_pre_omega
    refine ws_fcons rfl trivial ?_
    repeat decreasing_trivial_pre_omega
    refine wp_eq (isi_str TyB.str) ?_
    repeat decreasing_trivial_pre_omega
    refine ws_fcons rfl trivial ?_
    repeat decreasing_trivial_pre_omega
    refine wp_eq (isi_str TyB.int) ?_
    repeat decreasing_trivial_pre_omega
    refine wp_eq (isi_tup TyB.int) ?_
    repeat decreasing_trivial_pre_omega
    refine str_ok (Nat.lt_of_le_of_lt h (by decide +kernel)) ?_
    repeat decreasing_trivial_pre_omega
    refine ws_fnil rfl trivial ?_
    repeat decreasing_trivial_pre_omega
    refine Sw.v_joinL (ys := Dd.ps (.gv a)) sto_at jb ?_
    repeat decreasing_trivial_pre_omega

end Lw

namespace Lw
open PySem PySem.Spec PyProof.Rows L2 Sw
/-- one step; the goal's head says which -/
local macro_rules | `(tactic| decreasing_trivial_pre_omega) => `(tactic| first
  | ((with_reducible refine Sw.gWi ?_); first
    | with_reducible refine Sw.ws_ift ?_
    | with_reducible refine Sw.ws_iff ?_
    | with_reducible refine Sw.ws_ifn ?_
    | ((with_reducible refine Sw.ws_ifd1 ?_ ?_); (focus first | assumption | omega | (simp; done)))
    | ((with_reducible refine Sw.ws_ifd0 ?_ ?_); (focus first | assumption | omega | (simp; done)))
    | ((with_reducible refine Sw.ws_ifb1 ?_ ?_); (focus rfl))
    | ((with_reducible refine Sw.ws_ifb0 ?_ ?_); (focus rfl))
    )
  | ((with_reducible refine Sw.gW ?_); first
    | with_reducible refine Sw.ws_seqS ?_
    | with_reducible refine Sw.ws_ifS ?_
    | with_reducible refine Sw.ws_forN ?_
    | with_reducible refine Sw.ws_seq ?_
    | with_reducible refine Sw.ws_set ?_
    | with_reducible refine Sw.ws_if ?_
    | with_reducible refine Sw.ws_ret ?_
    | with_reducible refine Sw.ws_next ?_
    | with_reducible refine Sw.ws_drop ?_
    | with_reducible refine Sw.ws_for ?_
    | with_reducible refine Sw.ws_asg ?_
    | with_reducible refine Sw.ws_retN ?_
    | with_reducible refine Sw.ws_raise ?_
    | with_reducible refine Sw.ws_raiseD ?_
    | with_reducible refine Sw.ws_gN ?_
    | with_reducible refine Sw.ws_brk ?_
    | with_reducible refine Sw.ws_cnt ?_
    | ((with_reducible apply Sw.ws_aug); rfl)
    | with_reducible refine Sw.ws_gSub ?_
    | with_reducible refine Sw.ws_gsCons ?_
    | with_reducible refine Sw.ws_gsNil ?_
    | ((with_reducible apply Sw.ws_gsConsE); (focus rfl))
    | ((with_reducible apply Sw.ws_gsNilE); (focus rfl))
    | with_reducible refine Sw.ws_par2 ?_
    | with_reducible refine Sw.ws_par3 ?_
    | ((with_reducible refine Sw.ws_gTup ?_ ?_); (focus rfl))
    | ((with_reducible apply Sw.ws_gSeqN); (focus first | rfl | exact getS_at (by assumption) | exact getS_at sto_at | exact getS_at (sto_app (by assumption)) | exact getS_at (sto_app sto_at)); (focus first | rfl | decide | (simp; done) | (simp; omega)))
    | ((with_reducible apply Sw.ws_gStarN); (focus first | rfl | exact getS_at (by assumption) | exact getS_at sto_at | exact getS_at (sto_app (by assumption)) | exact getS_at (sto_app sto_at)); (focus first | decide | (simp; done) | (simp; omega)))
    )
  | ((with_reducible refine Sw.gI ?_); first
    | with_reducible refine Sw.wp_ift ?_
    | with_reducible refine Sw.wp_iff ?_
    | with_reducible refine Sw.wp_ifn ?_
    | ((with_reducible refine Sw.wp_ifd1 ?_ ?_); (focus first | assumption | omega | (simp; done)))
    | ((with_reducible refine Sw.wp_ifd0 ?_ ?_); (focus first | assumption | omega | (simp; done)))
    | ((with_reducible refine Sw.wp_ifb1 ?_ ?_); (focus rfl))
    | ((with_reducible refine Sw.wp_ifb0 ?_ ?_); (focus rfl))
    )
  | ((with_reducible refine Sw.gF ?_); first
    | ((with_reducible apply Sw.v_var); rfl)
    | with_reducible refine Sw.v_c ?_
    | with_reducible refine Sw.v_cons ?_
    | with_reducible refine Sw.v_nil ?_
    | ((with_reducible refine Sw.v_fn ?_))
    | with_reducible refine Sw.v_call ?_
    | ((with_reducible apply Sw.v_ask); (focus rfl); (focus rfl))
    | with_reducible refine Sw.v_bin ?_
    | with_reducible refine Sw.v_cmp ?_
    | with_reducible refine Sw.v_cmpE ?_
    | with_reducible refine Sw.v_tru ?_
    | with_reducible refine Sw.v_notT ?_
    | with_reducible refine Sw.v_andT ?_
    | with_reducible refine Sw.v_orT ?_
    | with_reducible refine Sw.v_and ?_
    | with_reducible refine Sw.v_or ?_
    | with_reducible refine Sw.v_not ?_
    | with_reducible refine Sw.v_if ?_
    | with_reducible refine Sw.v_chn ?_
    | with_reducible refine Sw.v_chnE ?_
    | with_reducible refine Sw.v_tup ?_
    | with_reducible refine Sw.v_lst ?_
    | with_reducible refine Sw.v_sl ?_
    | with_reducible refine Sw.v_no ?_
    | with_reducible refine Sw.v_so ?_
    | with_reducible refine Sw.v_neg ?_
    | with_reducible refine Sw.v_lc ?_
    | with_reducible refine Sw.v_it ?_
    | with_reducible refine Sw.v_seqI ?_
    | with_reducible refine Sw.v_mt ?_
    | with_reducible refine Sw.v_m1 ?_
    | with_reducible refine Sw.v_dict0 ?_
    | with_reducible refine Sw.v_it1 ?_
    )
  | ((with_reducible refine Sw.gO ?_); first
    | with_reducible refine Sw.v_ltI ?_
    | with_reducible refine Sw.v_leI ?_
    | with_reducible refine Sw.v_gtI ?_
    | with_reducible refine Sw.v_geI ?_
    | with_reducible refine Sw.v_eqI ?_
    | with_reducible refine Sw.v_neI ?_
    | with_reducible refine Sw.v_eqS ?_
    | with_reducible refine Sw.v_neS ?_
    | with_reducible refine Sw.v_truB ?_
    | with_reducible refine Sw.v_truI ?_
    | with_reducible refine Sw.v_truN ?_
    | with_reducible refine Sw.v_truT ?_
    | with_reducible refine Sw.v_seqT ?_
    | with_reducible refine Sw.v_seqR ?_
    | with_reducible refine Sw.v_seqS ?_
    | ((with_reducible apply Sw.v_seqL); (focus first | assumption | exact sto_at | exact sto_app (by assumption) | exact sto_app (sto_app (by assumption)) | exact sto_app sto_at | exact sto_app (sto_app sto_at)))
    | with_reducible refine Sw.v_inK ?_
    | with_reducible refine Sw.v_notInK ?_
    | ((with_reducible apply Sw.wp_opt); (focus rfl))
    )
  | ((with_reducible refine Sw.gE ?_); first
    | with_reducible refine Sw.wp_bind ?_
    | with_reducible refine Sw.wp_ok ?_
    | with_reducible refine Sw.v_addI ?_
    | with_reducible refine Sw.v_subI ?_
    | ((with_reducible refine Sw.v_mulI (.inl ?_) ?_); (focus first | decide | omega))
    | ((with_reducible refine Sw.v_mulT ?_ ?_); exact ⟨by simp, by decide, by decide, by simp⟩)
    | ((with_reducible apply Sw.v_mulL); (focus first | assumption | exact sto_at | exact sto_app (by assumption) | exact sto_app (sto_app (by assumption)) | exact sto_app sto_at | exact sto_app (sto_app sto_at)); (focus exact ⟨by decide, by decide, by simp⟩))
    | ((with_reducible refine Sw.v_modI ?_ ?_); (focus first | decide | omega))
    | ((with_reducible refine Sw.v_addT ?_ ?_); refine line1000 ?_; (focus first | decide | (simp; done) | (simp; omega)))
    | ((with_reducible apply Sw.v_powE); (focus decide +kernel); (focus (simp only [Int.reduceToNat, Int.reducePow]; rfl)))
    | ((with_reducible apply Sw.v_ixL); (first | assumption | exact sto_at | exact sto_app (by assumption) | exact sto_app (sto_app (by assumption)) | exact sto_app sto_at | exact sto_app (sto_app sto_at)); (focus first | rfl | assumption | exact atI_nat (by assumption) | exact Sw.atc0 | exact Sw.atc1 | exact Sw.atc2))
    | ((with_reducible apply Sw.v_ixT); (focus first | rfl | assumption | exact atI_nat (by assumption) | exact Sw.atc0 | exact Sw.atc1 | exact Sw.atc2))
    | ((with_reducible apply Sw.v_ixR); (focus first | rfl | assumption | exact atI_nat (by assumption) | exact Sw.atc0 | exact Sw.atc1 | exact Sw.atc2))
    | with_reducible refine Sw.v_slc1 ?_
    | with_reducible refine Sw.v_slc2 ?_
    | ((with_reducible apply Sw.v_slLt1); (focus first | assumption | exact sto_at | exact sto_app (by assumption) | exact sto_app (sto_app (by assumption)) | exact sto_app sto_at | exact sto_app (sto_app sto_at)))
    | ((with_reducible apply Sw.v_slLt2); (focus first | assumption | exact sto_at | exact sto_app (by assumption) | exact sto_app (sto_app (by assumption)) | exact sto_app sto_at | exact sto_app (sto_app sto_at)))
    | ((with_reducible apply Sw.v_slLd1); (focus first | assumption | exact sto_at | exact sto_app (by assumption) | exact sto_app (sto_app (by assumption)) | exact sto_app sto_at | exact sto_app (sto_app sto_at)))
    | ((with_reducible apply Sw.v_addL); (focus first | assumption | exact sto_at | exact sto_app (by assumption) | exact sto_app (sto_app (by assumption)) | exact sto_app sto_at | exact sto_app (sto_app sto_at)); (focus first | assumption | exact sto_at | exact sto_app (by assumption) | exact sto_app (sto_app (by assumption)) | exact sto_app sto_at | exact sto_app (sto_app sto_at)); (focus first | decide | (simp; done) | (simp; omega)))
    | with_reducible refine Sw.v_sortSet ?_
    | ((with_reducible refine Sw.v_sl0 ?_ ?_); (focus omega))
    | ((with_reducible refine Sw.v_sl1 ?_ ?_); (focus omega))
    | with_reducible refine Sw.v_lenT ?_
    | with_reducible refine Sw.v_lenR ?_
    | ((with_reducible apply Sw.v_lenL); (focus first | assumption | exact sto_at | exact sto_app (by assumption) | exact sto_app (sto_app (by assumption)) | exact sto_app sto_at | exact sto_app (sto_app sto_at)))
    | ((with_reducible apply Sw.v_appT); (focus first | decide | (simp; done) | (simp; omega)))
    | with_reducible refine Sw.v_intI ?_
    | with_reducible refine Sw.v_intB ?_
    | with_reducible refine Sw.v_absI ?_
    | with_reducible refine Sw.v_max2 ?_
    | with_reducible refine Sw.v_min2 ?_
    | with_reducible refine Sw.v_listT ?_
    | ((with_reducible apply Sw.v_listL); (focus first | assumption | exact sto_at | exact sto_app (by assumption) | exact sto_app (sto_app (by assumption)) | exact sto_app sto_at | exact sto_app (sto_app sto_at)))
    | with_reducible refine Sw.v_tupleT ?_
    | ((with_reducible apply Sw.v_tupleL); (focus first | assumption | exact sto_at | exact sto_app (by assumption) | exact sto_app (sto_app (by assumption)) | exact sto_app sto_at | exact sto_app (sto_app sto_at)))
    | ((with_reducible refine Sw.v_rng1 ?_ ?_); (focus first | exact ⟨by omega, by omega, by omega, by omega⟩ | decide))
    | ((with_reducible refine Sw.v_rng2 ?_ ?_); (focus first | exact ⟨by omega, by omega, by omega, by omega⟩ | decide))
    | with_reducible refine Sw.v_zipT ?_
    | with_reducible refine Sw.v_enumT ?_
    | ((with_reducible apply Sw.v_enumL); (focus first | assumption | exact sto_at | exact sto_app (by assumption) | exact sto_app (sto_app (by assumption)) | exact sto_app sto_at | exact sto_app (sto_app sto_at)))
    | with_reducible refine Sw.v_andI ?_
    | with_reducible refine Sw.v_orI ?_
    | ((with_reducible refine Sw.v_shrI ?_ ?_); decide)
    | ((with_reducible apply Sw.v_allL); (focus first | assumption | exact sto_at | exact sto_app (by assumption) | exact sto_app (sto_app (by assumption)) | exact sto_app sto_at | exact sto_app (sto_app sto_at)))
    | ((with_reducible apply Sw.v_anyL); (focus first | assumption | exact sto_at | exact sto_app (by assumption) | exact sto_app (sto_app (by assumption)) | exact sto_app sto_at | exact sto_app (sto_app sto_at)))
    | with_reducible refine Sw.v_addGI ?_
    | ((with_reducible refine Sw.v_addGT ?_ ?_); refine line1000 ?_; (focus first | decide | (simp; done) | (simp; omega)))
    | ((with_reducible apply Sw.v_ixK); (focus rfl))
    )
  | with_reducible refine ⟨_, rfl, ?_⟩
  | with_reducible refine ⟨_, _, rfl, ?_⟩
  | with_reducible refine ⟨_, _, _, rfl, ?_⟩
  | ((with_reducible refine And.intro ?_ ?_); (focus first | rfl | decide | exact isLst_at sto_at | exact isLst_at (by assumption) | exact isLst_at (sto_app sto_at) | exact isLst_at (sto_app (by assumption)) | (simp; done) | (simp; omega)))
  | exact ⟨[], (List.append_nil _).symm⟩
  | with_reducible rfl
  | with_reducible refine Sw.ex_app ?_
  | exact ⟨_, rfl⟩
  )
/-! ### letters -/
inductive Lt where
  | pg (m c n : Nat) (ns : List Nat) | la (m r : Nat) (cs : List Nat) | lk (m : Nat) (ns : List Nat) | br (z : Str) (m : Nat)
def brL : List Str := ["go", "off", "have", "runs"]
def rowS (ns : List Nat) : Str := Txt.join "," (ns.map decS)
def Lt.w : Lt → W
  | .pg m c n ns => .tup [.str "page", .int m, .int c, .int n, .tup (wI8 ns)]
  | .la m r cs => .tup [.str "last", .int m, .int r, .tup (wI8 cs)]
  | .lk m ns => .tup [.str "lack", .int m, .tup (wI8 ns)]
  | .br z m => .tup [.str z, .int m]
def Lt.ps : Lt → List Str
  | .pg m c n ns => ["page", decS m, decS c, decS n, pageS ns]
  | .la m r cs => ["last", decS m, decS r, rowS cs]
  | .lk m ns => ["lack", decS m, rowS ns]
  | .br z m => [z, decS m]
def Lt.s (d : Lt) : Str := Txt.join " " d.ps
def Rw (ns : List Nat) : Prop := 1 ≤ ns.length ∧ ns.length ≤ 16
def Lt.ok (B : Nat) : Lt → Prop
  | .pg m c n ns => m ≤ 1000000 ∧ (1 ≤ c ∧ c ≤ B) ∧ n ≤ 15 ∧ Pg ns
  | .la m r cs => m ≤ 1000000 ∧ r ≤ 4095 ∧ Rw cs ∧ ∀ c ∈ cs, 1 ≤ c ∧ c ≤ B
  | .lk m ns => m ≤ 1000000 ∧ Rw ns ∧ (∀ n ∈ ns, n ≤ 15) ∧ riseW (wI8 ns) = true
  | .br z m => m ≤ 1000000 ∧ z ∈ brL
theorem Rw.is {ns : List Nat} (h : Rw ns) : isRw (.tup (wI8 ns)) = true := by
  simp [isRw, wI8, h.1, h.2]
theorem all_wI {p : W → Bool} {ns : List Nat} (h : ∀ n ∈ ns, p (.int (n : Nat)) = true) : (wI8 ns).all p = true := by
  rw [List.all_eq_true]
  intro x hx
  obtain ⟨n, hn, rfl⟩ := List.mem_map.mp hx
  exact h n hn
theorem isCnt_nat {c : Nat} (h : 1 ≤ c) : isCnt (.int (c : Nat)) = true := by
  show decide ((1 : Int) ≤ c) = true
  exact decide_eq_true (by omega)
theorem i1M {m : Nat} (h : m ≤ 1000000) : isW 0 1000000 (.int (m : Nat)) = true := isW_nat (b := 1000000) h
theorem i15 {m : Nat} (h : m ≤ 15) : isW 0 15 (.int (m : Nat)) = true := isW_nat (b := 15) h
theorem i4k {m : Nat} (h : m ≤ 4095) : isW 0 4095 (.int (m : Nat)) = true := isW_nat (b := 4095) h
theorem Lt.is {B : Nat} {d : Lt} (h : d.ok B) : isLetW d.w = true := by
  cases d with
  | pg m c n ns =>
    obtain ⟨h1, h2, h3, h4⟩ := h
    show (isW 0 1000000 (.int (m : Nat)) && (isCnt (.int (c : Nat)) && (isW 0 15 (.int (n : Nat)) && isPg (.tup (wI8 ns))))) = true
    rw [i1M h1, isCnt_nat h2.1, i15 h3, h4.is]
    rfl
  | la m r cs =>
    obtain ⟨h1, h2, h3, h4⟩ := h
    show (isW 0 1000000 (.int (m : Nat)) && (isW 0 4095 (.int (r : Nat)) && (isRw (.tup (wI8 cs)) && (wI8 cs).all isCnt))) = true
    rw [i1M h1, i4k h2, h3.is, all_wI fun n hn => isCnt_nat (h4 n hn).1]
    rfl
  | lk m ns =>
    obtain ⟨h1, h2, h3, h4⟩ := h
    show (isW 0 1000000 (.int (m : Nat)) && (isRw (.tup (wI8 ns)) && ((wI8 ns).all (isW 0 15) && riseW (wI8 ns)))) = true
    rw [i1M h1, h2.is, h4, all_wI fun n hn => i15 (h3 n hn)]
    rfl
  | br z m =>
    obtain ⟨h1, h2⟩ := h
    simp only [brL, List.mem_cons, List.not_mem_nil, or_false] at h2
    rcases h2 with rfl | rfl | rfl | rfl <;> exact (Bool.and_eq_true _ _).mpr ⟨isW_nat (b := 1000000) h1, rfl⟩
theorem cnt_of {w : W} (h : isCnt w = true) (hp : PlD 2 w ∨ PlD 1 w) : ∃ a : Nat, w = .int a ∧ 1 ≤ a ∧ a ≤ 10 ^ 50 := by
  cases w with
  | int i =>
    have h' : decide (1 ≤ i) = true := h
    have h1 := of_decide_eq_true h'
    have h2 : i.natAbs ≤ 10 ^ 50 := hp.elim id id
    exact ⟨i.toNat, by rw [Int.toNat_of_nonneg (by omega)], by omega, by omega⟩
  | _ => cases h
theorem nats_of {P : Nat → Prop} {l : List W} (h : ∀ x ∈ l, ∃ n : Nat, x = .int n ∧ P n) : ∃ ns : List Nat, l = wI8 ns ∧ ∀ n ∈ ns, P n := by
  induction l with
  | nil => exact ⟨[], rfl, by simp⟩
  | cons x l ih =>
    obtain ⟨n, rfl, hn⟩ := h x List.mem_cons_self
    obtain ⟨ns, rfl, hs⟩ := ih fun y hy => h y (List.mem_cons_of_mem _ hy)
    exact ⟨n :: ns, rfl, fun k hk => (List.mem_cons.mp hk).elim (fun e => by rw [e]; exact hn) (hs k)⟩
theorem pg_of {w : W} (h : isPg w = true) : ∃ ns, w = .tup (wI8 ns) ∧ Pg ns := by
  cases w with
  | tup l =>
    simp only [isPg, Bool.and_eq_true, decide_eq_true_eq] at h
    obtain ⟨ns, rfl, hn⟩ := nats_of (P := fun n => n ≤ 65535) fun x hx => isW_of (b := 65535) (List.all_eq_true.mp h.2 x hx)
    exact ⟨ns, rfl, by simpa [wI8] using h.1, hn⟩
  | _ => cases h
theorem rw_of {l : List Nat} (h : isRw (.tup (wI8 l)) = true) : Rw l := by
  simpa [isRw, wI8, Rw] using h
theorem Lt.of {w : W} (hp : PlD 3 w) (h : isLetW w = true) : ∃ d : Lt, d.ok (10 ^ 50) ∧ w = d.w := by
  cases w with
  | tup l =>
    rcases l with _ | ⟨a, _ | ⟨b, l⟩⟩
    · cases h
    · cases a <;> cases h
    · cases a with
      | str z =>
        have h' : (isW 0 1000000 b && (if z = "page" then isPgR l else if z = "last" then isLaR l else if z = "lack" then isLkR l else if z = "go" ∨ z = "off" ∨ z = "have" ∨ z = "runs" then l.isEmpty else false)) = true := h
        have hl : ∀ x ∈ l, PlD 2 x := fun x hx => hp.2 x (by simp [hx])
        clear h hp
        rw [Bool.and_eq_true] at h'
        obtain ⟨hb, h⟩ := h'
        obtain ⟨m, rfl, hm⟩ := isW_of (b := 1000000) hb
        by_cases h1 : z = "page"
        · subst h1
          rw [if_pos rfl] at h
          rcases l with _ | ⟨p, _ | ⟨q, _ | ⟨r, _ | ⟨u, l⟩⟩⟩⟩ <;> first | cases h | skip
          simp only [isPgR, Bool.and_eq_true] at h
          obtain ⟨c, rfl, hc⟩ := cnt_of h.1 (.inl (hl p (by simp)))
          obtain ⟨n, rfl, hn⟩ := isW_of (b := 15) h.2.1
          obtain ⟨ns, rfl, hg⟩ := pg_of h.2.2
          exact ⟨.pg m c n ns, ⟨hm, hc, hn, hg⟩, rfl⟩
        rw [if_neg h1] at h
        by_cases h2 : z = "last"
        · subst h2
          rw [if_pos rfl] at h
          rcases l with _ | ⟨p, _ | ⟨q, _ | ⟨u, l⟩⟩⟩
          · cases h
          · cases h
          · cases q with
            | tup q =>
              simp only [isLaR, Bool.and_eq_true] at h
              obtain ⟨r, rfl, hr⟩ := isW_of (b := 4095) h.1
              obtain ⟨cs, rfl, hc⟩ := nats_of (P := fun n => 1 ≤ n ∧ n ≤ 10 ^ 50) fun x hx => cnt_of (List.all_eq_true.mp h.2.2 x hx) (.inr (PlD.mem (hl (.tup q) (by simp)) x hx))
              exact ⟨.la m r cs, ⟨hm, hr, rw_of h.2.1, hc⟩, rfl⟩
            | _ => cases h
          · simp [isLaR] at h
        rw [if_neg h2] at h
        by_cases h3 : z = "lack"
        · subst h3
          rw [if_pos rfl] at h
          rcases l with _ | ⟨q, _ | ⟨u, l⟩⟩
          · cases h
          · cases q with
            | tup q =>
              simp only [isLkR, Bool.and_eq_true] at h
              obtain ⟨ns, rfl, hc⟩ := nats_of (P := fun n => n ≤ 15) fun x hx => isW_of (b := 15) (List.all_eq_true.mp h.2.1 x hx)
              exact ⟨.lk m ns, ⟨hm, rw_of h.1, hc, h.2.2⟩, rfl⟩
            | _ => cases h
          · cases q <;> cases h
        rw [if_neg h3] at h
        by_cases h4 : z = "go" ∨ z = "off" ∨ z = "have" ∨ z = "runs"
        · rw [if_pos h4] at h
          cases l with
          | nil => exact ⟨.br z m, ⟨hm, by simpa [brL] using h4⟩, rfl⟩
          | cons x l => cases h
        · rw [if_neg h4] at h
          cases h
      | _ => cases h
  | _ => cases h
theorem Lt.up {B C : Nat} (hB : B ≤ C) {d : Lt} (h : d.ok B) : d.ok C := by
  cases d with
  | pg m c n ns => exact ⟨h.1, ⟨h.2.1.1, Nat.le_trans h.2.1.2 hB⟩, h.2.2⟩
  | la m r cs => exact ⟨h.1, h.2.1, h.2.2.1, fun c hc => ⟨(h.2.2.2 c hc).1, Nat.le_trans (h.2.2.2 c hc).2 hB⟩⟩
  | lk m ns => exact h
  | br z m => exact h
theorem Lt.pl {d : Lt} (h : d.ok (10 ^ 50)) : PlD 3 d.w := by
  have b : (1000000 : Nat) ≤ 10 ^ 50 := by decide +kernel
  have s1 : ∀ z : Str, PyData.canLay0 (.str z) = true → PlD 2 (.str z) := fun z h => h
  have i2 : ∀ a : Nat, a ≤ 10 ^ 50 → PlD 2 (.int a) := fun a h => by
    show (a : Int).natAbs ≤ 10 ^ 50
    omega
  have t2 : ∀ ns : List Nat, ns.length ≤ 16 → (∀ n ∈ ns, n ≤ 10 ^ 50) → PlD 2 (.tup (wI8 ns)) := fun ns hl hn => ⟨by simp [wI8]; omega, fun x hx => by
    obtain ⟨n, h, rfl⟩ := List.mem_map.mp hx
    have := hn n h
    show ((n : Nat) : Int).natAbs ≤ 10 ^ 50
    omega⟩
  cases d with
  | pg m c n ns =>
    obtain ⟨h1, h2, h3, h4⟩ := h
    refine ⟨by simp, fun x hx => ?_⟩
    simp only [List.mem_cons, List.not_mem_nil, or_false] at hx
    rcases hx with rfl | rfl | rfl | rfl | rfl
    · exact s1 _ (by decide +kernel)
    · exact i2 _ (by omega)
    · exact i2 _ (by omega)
    · exact i2 _ (by omega)
    · exact t2 _ (by have := h4.1; omega) fun n hn => by have := h4.2 n hn; omega
  | la m r cs =>
    obtain ⟨h1, h2, h3, h4⟩ := h
    refine ⟨by simp, fun x hx => ?_⟩
    simp only [List.mem_cons, List.not_mem_nil, or_false] at hx
    rcases hx with rfl | rfl | rfl | rfl
    · exact s1 _ (by decide +kernel)
    · exact i2 _ (by omega)
    · exact i2 _ (by omega)
    · exact t2 _ h3.2 fun n hn => (h4 n hn).2
  | lk m ns =>
    obtain ⟨h1, h2, h3, h4⟩ := h
    refine ⟨by simp, fun x hx => ?_⟩
    simp only [List.mem_cons, List.not_mem_nil, or_false] at hx
    rcases hx with rfl | rfl | rfl
    · exact s1 _ (by decide +kernel)
    · exact i2 _ (by omega)
    · exact t2 _ h2.2 fun n hn => by have := h3 n hn; omega
  | br z m =>
    obtain ⟨h1, h2⟩ := h
    refine ⟨by simp, fun x hx => ?_⟩
    simp only [List.mem_cons, List.not_mem_nil, or_false] at hx
    rcases hx with rfl | rfl
    · simp only [brL, List.mem_cons, List.not_mem_nil, or_false] at h2
      rcases h2 with rfl | rfl | rfl | rfl <;> exact s1 _ (by decide +kernel)
    · exact i2 _ (by omega)
theorem Lt.w_closed {d : Lt} {n : Nat} : closedW n d.w = true := by
  have h : ∀ ns, closedW n (.tup (wI8 ns)) = true := wI8_closed
  cases d <;> simp [Lt.w, closedW, closedL] <;> simpa [closedW] using h _
theorem lettertext_no {w : W} {st : Sto} (h : PlD 3 w ∨ ∃ n l, w = .ref n ∧ st[n]? = some (.lst l)) (hn : isLetW w = false) : f_letter_text [w] st = .ex "NoLetter" [] st := by
  refine clean_ex ?_
  refine wp_exq (wp_run (E := fun C fs s => C = ("NoLetter" : Str) ∧ fs = [] ∧ s = st) (Q := fun _ _ => False) rfl ?_)
  unfold b_letter_text
  repeat decreasing_trivial_pre_omega
  refine wp_eq (isletter_ok h) ?_
  rw [hn]
  repeat decreasing_trivial_pre_omega
theorem wI8_len {ns : List Nat} : (wI8 ns).length = ns.length := by simp [wI8]
theorem rowed_ok {ns : List Nat} {st : Sto} (hl : ns.length ≤ 1000) (hb : ∀ n ∈ ns, n ≤ 10 ^ 50) : f_rowed [.tup (wI8 ns)] st = .ok (.str (rowS ns)) st := by
  have b4 : (10 : Nat) ^ 50 < 10 ^ 400 := by decide +kernel
  have hL : ∀ n ∈ ns, (decS n).length ≤ 2000 := fun n hn => Nat.le_trans (decS_len (k := 50) (Nat.lt_of_le_of_lt (hb n hn) (by decide +kernel))) (by decide)
  refine clean_wp (wp_run rfl ?_) rfl
  unfold b_rowed
  repeat decreasing_trivial_pre_omega
  refine Sw.v_lcM (fun w => .str (decS (unI w))) (by rw [wI8_len]; omega) (fun _ => trivial) (fun acc w hw => ?_) ?_
  · obtain ⟨n, hn, rfl⟩ := List.mem_map.mp hw
    refine ⟨_, rfl, ?_⟩
    repeat decreasing_trivial_pre_omega
    refine str_ok (Nat.lt_of_le_of_lt (hb n hn) b4) ?_
    repeat decreasing_trivial_pre_omega
  · rw [show (wI8 ns, (none : GD)).fst.map (fun w => W.str (decS (unI w))) = (ns.map decS).map .str by simp [wI8, unI, Function.comp_def]]
    refine Sw.v_joinL (ys := ns.map decS) sto_at (join_b (by decide +kernel) (fun p hp => ?_) (by simpa using hl)) ?_
    · obtain ⟨n, hn, rfl⟩ := List.mem_map.mp hp
      exact hL n hn
    · repeat decreasing_trivial_pre_omega

end Lw

namespace Lw
open PySem PySem.Spec PyProof.Rows L2 Sw
/-- one step; the goal's head says which -/
local macro_rules | `(tactic| decreasing_trivial_pre_omega) => `(tactic| first
  | ((with_reducible refine Sw.gWi ?_); first
    | with_reducible refine Sw.ws_ift ?_
    | with_reducible refine Sw.ws_iff ?_
    | with_reducible refine Sw.ws_ifn ?_
    | ((with_reducible refine Sw.ws_ifd1 ?_ ?_); (focus first | assumption | omega | (simp; done)))
    | ((with_reducible refine Sw.ws_ifd0 ?_ ?_); (focus first | assumption | omega | (simp; done)))
    | ((with_reducible refine Sw.ws_ifb1 ?_ ?_); (focus rfl))
    | ((with_reducible refine Sw.ws_ifb0 ?_ ?_); (focus rfl))
    )
  | ((with_reducible refine Sw.gW ?_); first
    | with_reducible refine Sw.ws_seqS ?_
    | with_reducible refine Sw.ws_ifS ?_
    | with_reducible refine Sw.ws_forN ?_
    | with_reducible refine Sw.ws_seq ?_
    | with_reducible refine Sw.ws_set ?_
    | with_reducible refine Sw.ws_if ?_
    | with_reducible refine Sw.ws_ret ?_
    | with_reducible refine Sw.ws_next ?_
    | with_reducible refine Sw.ws_drop ?_
    | with_reducible refine Sw.ws_for ?_
    | with_reducible refine Sw.ws_asg ?_
    | with_reducible refine Sw.ws_retN ?_
    | with_reducible refine Sw.ws_raise ?_
    | with_reducible refine Sw.ws_raiseD ?_
    | with_reducible refine Sw.ws_gN ?_
    | with_reducible refine Sw.ws_brk ?_
    | with_reducible refine Sw.ws_cnt ?_
    | ((with_reducible apply Sw.ws_aug); rfl)
    | with_reducible refine Sw.ws_gSub ?_
    | with_reducible refine Sw.ws_gsCons ?_
    | with_reducible refine Sw.ws_gsNil ?_
    | ((with_reducible apply Sw.ws_gsConsE); (focus rfl))
    | ((with_reducible apply Sw.ws_gsNilE); (focus rfl))
    | with_reducible refine Sw.ws_par2 ?_
    | with_reducible refine Sw.ws_par3 ?_
    | ((with_reducible refine Sw.ws_gTup ?_ ?_); (focus rfl))
    | ((with_reducible apply Sw.ws_gSeqN); (focus first | rfl | exact getS_at (by assumption) | exact getS_at sto_at | exact getS_at (sto_app (by assumption)) | exact getS_at (sto_app sto_at)); (focus first | rfl | decide | (simp; done) | (simp; omega)))
    | ((with_reducible apply Sw.ws_gStarN); (focus first | rfl | exact getS_at (by assumption) | exact getS_at sto_at | exact getS_at (sto_app (by assumption)) | exact getS_at (sto_app sto_at)); (focus first | decide | (simp; done) | (simp; omega)))
    )
  | ((with_reducible refine Sw.gI ?_); first
    | with_reducible refine Sw.wp_ift ?_
    | with_reducible refine Sw.wp_iff ?_
    | with_reducible refine Sw.wp_ifn ?_
    | ((with_reducible refine Sw.wp_ifd1 ?_ ?_); (focus first | assumption | omega | (simp; done)))
    | ((with_reducible refine Sw.wp_ifd0 ?_ ?_); (focus first | assumption | omega | (simp; done)))
    | ((with_reducible refine Sw.wp_ifb1 ?_ ?_); (focus rfl))
    | ((with_reducible refine Sw.wp_ifb0 ?_ ?_); (focus rfl))
    )
  | ((with_reducible refine Sw.gF ?_); first
    | ((with_reducible apply Sw.v_var); rfl)
    | with_reducible refine Sw.v_c ?_
    | with_reducible refine Sw.v_cons ?_
    | with_reducible refine Sw.v_nil ?_
    | ((with_reducible refine Sw.v_fn ?_))
    | with_reducible refine Sw.v_call ?_
    | ((with_reducible apply Sw.v_ask); (focus rfl); (focus rfl))
    | with_reducible refine Sw.v_bin ?_
    | with_reducible refine Sw.v_cmp ?_
    | with_reducible refine Sw.v_cmpE ?_
    | with_reducible refine Sw.v_tru ?_
    | with_reducible refine Sw.v_notT ?_
    | with_reducible refine Sw.v_andT ?_
    | with_reducible refine Sw.v_orT ?_
    | with_reducible refine Sw.v_and ?_
    | with_reducible refine Sw.v_or ?_
    | with_reducible refine Sw.v_not ?_
    | with_reducible refine Sw.v_if ?_
    | with_reducible refine Sw.v_chn ?_
    | with_reducible refine Sw.v_chnE ?_
    | with_reducible refine Sw.v_tup ?_
    | with_reducible refine Sw.v_lst ?_
    | with_reducible refine Sw.v_sl ?_
    | with_reducible refine Sw.v_no ?_
    | with_reducible refine Sw.v_so ?_
    | with_reducible refine Sw.v_neg ?_
    | with_reducible refine Sw.v_lc ?_
    | with_reducible refine Sw.v_it ?_
    | with_reducible refine Sw.v_seqI ?_
    | with_reducible refine Sw.v_mt ?_
    | with_reducible refine Sw.v_m1 ?_
    | with_reducible refine Sw.v_dict0 ?_
    | with_reducible refine Sw.v_it1 ?_
    )
  | ((with_reducible refine Sw.gO ?_); first
    | with_reducible refine Sw.v_ltI ?_
    | with_reducible refine Sw.v_leI ?_
    | with_reducible refine Sw.v_gtI ?_
    | with_reducible refine Sw.v_geI ?_
    | with_reducible refine Sw.v_eqI ?_
    | with_reducible refine Sw.v_neI ?_
    | with_reducible refine Sw.v_eqS ?_
    | with_reducible refine Sw.v_neS ?_
    | with_reducible refine Sw.v_truB ?_
    | with_reducible refine Sw.v_truI ?_
    | with_reducible refine Sw.v_truN ?_
    | with_reducible refine Sw.v_truT ?_
    | with_reducible refine Sw.v_seqT ?_
    | with_reducible refine Sw.v_seqR ?_
    | with_reducible refine Sw.v_seqS ?_
    | ((with_reducible apply Sw.v_seqL); (focus first | assumption | exact sto_at | exact sto_app (by assumption) | exact sto_app (sto_app (by assumption)) | exact sto_app sto_at | exact sto_app (sto_app sto_at)))
    | with_reducible refine Sw.v_inK ?_
    | with_reducible refine Sw.v_notInK ?_
    | ((with_reducible apply Sw.wp_opt); (focus rfl))
    )
  | ((with_reducible refine Sw.gE ?_); first
    | with_reducible refine Sw.wp_bind ?_
    | with_reducible refine Sw.wp_ok ?_
    | with_reducible refine Sw.v_addI ?_
    | with_reducible refine Sw.v_subI ?_
    | ((with_reducible refine Sw.v_mulI (.inl ?_) ?_); (focus first | decide | omega))
    | ((with_reducible refine Sw.v_mulT ?_ ?_); exact ⟨by simp, by decide, by decide, by simp⟩)
    | ((with_reducible apply Sw.v_mulL); (focus first | assumption | exact sto_at | exact sto_app (by assumption) | exact sto_app (sto_app (by assumption)) | exact sto_app sto_at | exact sto_app (sto_app sto_at)); (focus exact ⟨by decide, by decide, by simp⟩))
    | ((with_reducible refine Sw.v_modI ?_ ?_); (focus first | decide | omega))
    | ((with_reducible refine Sw.v_addT ?_ ?_); refine line1000 ?_; (focus first | decide | (simp; done) | (simp; omega)))
    | ((with_reducible apply Sw.v_powE); (focus decide +kernel); (focus (simp only [Int.reduceToNat, Int.reducePow]; rfl)))
    | ((with_reducible apply Sw.v_ixL); (first | assumption | exact sto_at | exact sto_app (by assumption) | exact sto_app (sto_app (by assumption)) | exact sto_app sto_at | exact sto_app (sto_app sto_at)); (focus first | rfl | assumption | exact atI_nat (by assumption) | exact Sw.atc0 | exact Sw.atc1 | exact Sw.atc2))
    | ((with_reducible apply Sw.v_ixT); (focus first | rfl | assumption | exact atI_nat (by assumption) | exact Sw.atc0 | exact Sw.atc1 | exact Sw.atc2))
    | ((with_reducible apply Sw.v_ixR); (focus first | rfl | assumption | exact atI_nat (by assumption) | exact Sw.atc0 | exact Sw.atc1 | exact Sw.atc2))
    | with_reducible refine Sw.v_slc1 ?_
    | with_reducible refine Sw.v_slc2 ?_
    | ((with_reducible apply Sw.v_slLt1); (focus first | assumption | exact sto_at | exact sto_app (by assumption) | exact sto_app (sto_app (by assumption)) | exact sto_app sto_at | exact sto_app (sto_app sto_at)))
    | ((with_reducible apply Sw.v_slLt2); (focus first | assumption | exact sto_at | exact sto_app (by assumption) | exact sto_app (sto_app (by assumption)) | exact sto_app sto_at | exact sto_app (sto_app sto_at)))
    | ((with_reducible apply Sw.v_slLd1); (focus first | assumption | exact sto_at | exact sto_app (by assumption) | exact sto_app (sto_app (by assumption)) | exact sto_app sto_at | exact sto_app (sto_app sto_at)))
    | ((with_reducible apply Sw.v_addL); (focus first | assumption | exact sto_at | exact sto_app (by assumption) | exact sto_app (sto_app (by assumption)) | exact sto_app sto_at | exact sto_app (sto_app sto_at)); (focus first | assumption | exact sto_at | exact sto_app (by assumption) | exact sto_app (sto_app (by assumption)) | exact sto_app sto_at | exact sto_app (sto_app sto_at)); (focus first | decide | (simp; done) | (simp; omega)))
    | with_reducible refine Sw.v_sortSet ?_
    | ((with_reducible refine Sw.v_sl0 ?_ ?_); (focus omega))
    | ((with_reducible refine Sw.v_sl1 ?_ ?_); (focus omega))
    | with_reducible refine Sw.v_lenT ?_
    | with_reducible refine Sw.v_lenR ?_
    | ((with_reducible apply Sw.v_lenL); (focus first | assumption | exact sto_at | exact sto_app (by assumption) | exact sto_app (sto_app (by assumption)) | exact sto_app sto_at | exact sto_app (sto_app sto_at)))
    | ((with_reducible apply Sw.v_appT); (focus first | decide | (simp; done) | (simp; omega)))
    | with_reducible refine Sw.v_intI ?_
    | with_reducible refine Sw.v_intB ?_
    | with_reducible refine Sw.v_absI ?_
    | with_reducible refine Sw.v_max2 ?_
    | with_reducible refine Sw.v_min2 ?_
    | with_reducible refine Sw.v_listT ?_
    | ((with_reducible apply Sw.v_listL); (focus first | assumption | exact sto_at | exact sto_app (by assumption) | exact sto_app (sto_app (by assumption)) | exact sto_app sto_at | exact sto_app (sto_app sto_at)))
    | with_reducible refine Sw.v_tupleT ?_
    | ((with_reducible apply Sw.v_tupleL); (focus first | assumption | exact sto_at | exact sto_app (by assumption) | exact sto_app (sto_app (by assumption)) | exact sto_app sto_at | exact sto_app (sto_app sto_at)))
    | ((with_reducible refine Sw.v_rng1 ?_ ?_); (focus first | exact ⟨by omega, by omega, by omega, by omega⟩ | decide))
    | ((with_reducible refine Sw.v_rng2 ?_ ?_); (focus first | exact ⟨by omega, by omega, by omega, by omega⟩ | decide))
    | with_reducible refine Sw.v_zipT ?_
    | with_reducible refine Sw.v_enumT ?_
    | ((with_reducible apply Sw.v_enumL); (focus first | assumption | exact sto_at | exact sto_app (by assumption) | exact sto_app (sto_app (by assumption)) | exact sto_app sto_at | exact sto_app (sto_app sto_at)))
    | with_reducible refine Sw.v_andI ?_
    | with_reducible refine Sw.v_orI ?_
    | ((with_reducible refine Sw.v_shrI ?_ ?_); decide)
    | ((with_reducible apply Sw.v_allL); (focus first | assumption | exact sto_at | exact sto_app (by assumption) | exact sto_app (sto_app (by assumption)) | exact sto_app sto_at | exact sto_app (sto_app sto_at)))
    | ((with_reducible apply Sw.v_anyL); (focus first | assumption | exact sto_at | exact sto_app (by assumption) | exact sto_app (sto_app (by assumption)) | exact sto_app sto_at | exact sto_app (sto_app sto_at)))
    | with_reducible refine Sw.v_addGI ?_
    | ((with_reducible refine Sw.v_addGT ?_ ?_); refine line1000 ?_; (focus first | decide | (simp; done) | (simp; omega)))
    | ((with_reducible apply Sw.v_ixK); (focus rfl))
    )
  | with_reducible refine ⟨_, rfl, ?_⟩
  | with_reducible refine ⟨_, _, rfl, ?_⟩
  | with_reducible refine ⟨_, _, _, rfl, ?_⟩
  | ((with_reducible refine And.intro ?_ ?_); (focus first | rfl | decide | exact isLst_at sto_at | exact isLst_at (by assumption) | exact isLst_at (sto_app sto_at) | exact isLst_at (sto_app (by assumption)) | (simp; done) | (simp; omega)))
  | exact ⟨[], (List.append_nil _).symm⟩
  | with_reducible rfl
  | with_reducible refine Sw.ex_app ?_
  | exact ⟨_, rfl⟩
  )
theorem rowS_len {ns : List Nat} (hl : ns.length ≤ 16) (hb : ∀ n ∈ ns, n ≤ 10 ^ 50) : (rowS ns).length ≤ 2000 := by
  have h1 := @join_len "," (ns.map decS)
  have h2 : ∀ p ∈ ns.map decS, p.length ≤ 51 := fun p hp => by
    obtain ⟨n, hn, rfl⟩ := List.mem_map.mp hp
    exact decS_len (k := 50) (Nat.lt_of_le_of_lt (hb n hn) (by decide +kernel))
  have h3 : ((ns.map decS).map (·.length)).sum ≤ (ns.map decS).length * 51 := sum_le h2
  have h5 : ("," : Str).length = 1 := by decide +kernel
  rw [h5] at h1
  rw [List.length_map] at h1 h3
  show (Txt.join "," (ns.map decS)).length ≤ 2000
  omega
theorem Lt.len {d : Lt} (h : d.ok (10 ^ 50)) : ∀ p ∈ d.ps, p.length ≤ 2000 := by
  have d1 : ∀ n : Nat, n ≤ 10 ^ 50 → (decS n).length ≤ 2000 := fun n h => Nat.le_trans (decS_len (k := 50) (Nat.lt_of_le_of_lt h (by decide +kernel))) (by decide)
  have b : (1000000 : Nat) ≤ 10 ^ 50 := by decide +kernel
  cases d with
  | pg m c n ns =>
    obtain ⟨h1, h2, h3, h4⟩ := h
    intro p hp
    simp only [Lt.ps, List.mem_cons, List.not_mem_nil, or_false] at hp
    rcases hp with rfl | rfl | rfl | rfl | rfl
    · decide +kernel
    · exact d1 _ (by omega)
    · exact d1 _ (by omega)
    · exact d1 _ (by omega)
    · exact Nat.le_trans (page_len h4) (by decide)
  | la m r cs =>
    obtain ⟨h1, h2, h3, h4⟩ := h
    intro p hp
    simp only [Lt.ps, List.mem_cons, List.not_mem_nil, or_false] at hp
    rcases hp with rfl | rfl | rfl | rfl
    · decide +kernel
    · exact d1 _ (by omega)
    · exact d1 _ (by omega)
    · exact rowS_len h3.2 fun n hn => (h4 n hn).2
  | lk m ns =>
    obtain ⟨h1, h2, h3, h4⟩ := h
    intro p hp
    simp only [Lt.ps, List.mem_cons, List.not_mem_nil, or_false] at hp
    rcases hp with rfl | rfl | rfl
    · decide +kernel
    · exact d1 _ (by omega)
    · exact rowS_len h2.2 fun n hn => by have := h3 n hn; omega
  | br z m =>
    obtain ⟨h1, h2⟩ := h
    intro p hp
    simp only [Lt.ps, List.mem_cons, List.not_mem_nil, or_false] at hp
    rcases hp with rfl | rfl
    · simp only [brL, List.mem_cons, List.not_mem_nil, or_false] at h2
      rcases h2 with rfl | rfl | rfl | rfl <;> decide +kernel
    · exact d1 _ (by omega)
theorem Lt.few (d : Lt) : d.ps.length ≤ 5 := by cases d <;> simp [Lt.ps]
theorem lettertext_ok {d : Lt} (h : d.ok (10 ^ 50)) {st : Sto} : f_letter_text [d.w] st = .ok (.str d.s) st := by
  have b4 : (10 : Nat) ^ 50 < 10 ^ 400 := by decide +kernel
  have b5 : (1000000 : Nat) < 10 ^ 400 := by decide +kernel
  have jb := join_b (a := " ") (by decide +kernel) (Lt.len h) (Nat.le_trans d.few (by decide))
  refine clean_wp (wp_run rfl ?_) rfl
  unfold b_letter_text
  repeat decreasing_trivial_pre_omega
  refine wp_eq (isletter_ok (.inl (Lt.pl h))) ?_
  rw [Lt.is h]
  repeat decreasing_trivial_pre_omega
  cases d with
  | pg m c n ns =>
    obtain ⟨h1, h2, h3, h4⟩ := h
    simp only [Lt.w]
    repeat decreasing_trivial_pre_omega
    refine str_ok (by omega) ?_
    repeat decreasing_trivial_pre_omega
    refine str_ok (by omega) ?_
    repeat decreasing_trivial_pre_omega
    refine str_ok (by omega) ?_
    repeat decreasing_trivial_pre_omega
    refine wp_eq (text_ok h4) ?_
    repeat decreasing_trivial_pre_omega
    refine Sw.v_joinL (ys := Lt.ps (.pg m c n ns)) sto_at jb ?_
    repeat decreasing_trivial_pre_omega
  | la m r cs =>
    obtain ⟨h1, h2, h3, h4⟩ := h
    simp only [Lt.w]
    repeat decreasing_trivial_pre_omega
    refine str_ok (by omega) ?_
    repeat decreasing_trivial_pre_omega
    refine str_ok (by omega) ?_
    repeat decreasing_trivial_pre_omega
    refine wp_eq (rowed_ok (by have := h3.2; omega) fun n hn => (h4 n hn).2) ?_
    repeat decreasing_trivial_pre_omega
    refine Sw.v_joinL (ys := Lt.ps (.la m r cs)) sto_at jb ?_
    repeat decreasing_trivial_pre_omega
  | lk m ns =>
    obtain ⟨h1, h2, h3, h4⟩ := h
    simp only [Lt.w]
    repeat decreasing_trivial_pre_omega
    refine str_ok (by omega) ?_
    repeat decreasing_trivial_pre_omega
    refine wp_eq (rowed_ok (by have := h2.2; omega) fun n hn => by have := h3 n hn; omega) ?_
    repeat decreasing_trivial_pre_omega
    refine Sw.v_joinL (ys := Lt.ps (.lk m ns)) sto_at jb ?_
    repeat decreasing_trivial_pre_omega
  | br z m =>
    obtain ⟨h1, h2⟩ := h
    have hz : z ≠ "page" ∧ z ≠ "last" ∧ z ≠ "lack" := by
      simp only [brL, List.mem_cons, List.not_mem_nil, or_false] at h2
      rcases h2 with rfl | rfl | rfl | rfl <;> decide +kernel
    obtain ⟨z1, z2, z3⟩ := hz
    simp only [Lt.w]
    repeat decreasing_trivial_pre_omega
    refine str_ok (by omega) ?_
    repeat decreasing_trivial_pre_omega
    refine Sw.v_joinL (ys := Lt.ps (.br z m)) sto_at jb ?_
    repeat decreasing_trivial_pre_omega

end Lw

namespace Lw
open PySem PySem.Spec PyProof.Rows L2 Sw
/-- one step; the goal's head says which -/
local macro_rules | `(tactic| decreasing_trivial_pre_omega) => `(tactic| first
  | ((with_reducible refine Sw.gWi ?_); first
    | with_reducible refine Sw.ws_ift ?_
    | with_reducible refine Sw.ws_iff ?_
    | with_reducible refine Sw.ws_ifn ?_
    | ((with_reducible refine Sw.ws_ifd1 ?_ ?_); (focus first | assumption | omega | (simp; done)))
    | ((with_reducible refine Sw.ws_ifd0 ?_ ?_); (focus first | assumption | omega | (simp; done)))
    | ((with_reducible refine Sw.ws_ifb1 ?_ ?_); (focus rfl))
    | ((with_reducible refine Sw.ws_ifb0 ?_ ?_); (focus rfl))
    )
  | ((with_reducible refine Sw.gW ?_); first
    | with_reducible refine Sw.ws_seqS ?_
    | with_reducible refine Sw.ws_ifS ?_
    | with_reducible refine Sw.ws_forN ?_
    | with_reducible refine Sw.ws_seq ?_
    | with_reducible refine Sw.ws_set ?_
    | with_reducible refine Sw.ws_if ?_
    | with_reducible refine Sw.ws_ret ?_
    | with_reducible refine Sw.ws_next ?_
    | with_reducible refine Sw.ws_drop ?_
    | with_reducible refine Sw.ws_for ?_
    | with_reducible refine Sw.ws_asg ?_
    | with_reducible refine Sw.ws_retN ?_
    | with_reducible refine Sw.ws_raise ?_
    | with_reducible refine Sw.ws_raiseD ?_
    | with_reducible refine Sw.ws_gN ?_
    | with_reducible refine Sw.ws_brk ?_
    | with_reducible refine Sw.ws_cnt ?_
    | ((with_reducible apply Sw.ws_aug); rfl)
    | with_reducible refine Sw.ws_gSub ?_
    | with_reducible refine Sw.ws_gsCons ?_
    | with_reducible refine Sw.ws_gsNil ?_
    | ((with_reducible apply Sw.ws_gsConsE); (focus rfl))
    | ((with_reducible apply Sw.ws_gsNilE); (focus rfl))
    | with_reducible refine Sw.ws_par2 ?_
    | with_reducible refine Sw.ws_par3 ?_
    | ((with_reducible refine Sw.ws_gTup ?_ ?_); (focus rfl))
    | ((with_reducible apply Sw.ws_gSeqN); (focus first | rfl | exact getS_at (by assumption) | exact getS_at sto_at | exact getS_at (sto_app (by assumption)) | exact getS_at (sto_app sto_at)); (focus first | rfl | decide | (simp; done) | (simp; omega)))
    | ((with_reducible apply Sw.ws_gStarN); (focus first | rfl | exact getS_at (by assumption) | exact getS_at sto_at | exact getS_at (sto_app (by assumption)) | exact getS_at (sto_app sto_at)); (focus first | decide | (simp; done) | (simp; omega)))
    )
  | ((with_reducible refine Sw.gI ?_); first
    | with_reducible refine Sw.wp_ift ?_
    | with_reducible refine Sw.wp_iff ?_
    | with_reducible refine Sw.wp_ifn ?_
    | ((with_reducible refine Sw.wp_ifd1 ?_ ?_); (focus first | assumption | omega | (simp; done)))
    | ((with_reducible refine Sw.wp_ifd0 ?_ ?_); (focus first | assumption | omega | (simp; done)))
    | ((with_reducible refine Sw.wp_ifb1 ?_ ?_); (focus rfl))
    | ((with_reducible refine Sw.wp_ifb0 ?_ ?_); (focus rfl))
    )
  | ((with_reducible refine Sw.gF ?_); first
    | ((with_reducible apply Sw.v_var); rfl)
    | with_reducible refine Sw.v_c ?_
    | with_reducible refine Sw.v_cons ?_
    | with_reducible refine Sw.v_nil ?_
    | ((with_reducible refine Sw.v_fn ?_))
    | with_reducible refine Sw.v_call ?_
    | ((with_reducible apply Sw.v_ask); (focus rfl); (focus rfl))
    | with_reducible refine Sw.v_bin ?_
    | with_reducible refine Sw.v_cmp ?_
    | with_reducible refine Sw.v_cmpE ?_
    | with_reducible refine Sw.v_tru ?_
    | with_reducible refine Sw.v_notT ?_
    | with_reducible refine Sw.v_andT ?_
    | with_reducible refine Sw.v_orT ?_
    | with_reducible refine Sw.v_and ?_
    | with_reducible refine Sw.v_or ?_
    | with_reducible refine Sw.v_not ?_
    | with_reducible refine Sw.v_if ?_
    | with_reducible refine Sw.v_chn ?_
    | with_reducible refine Sw.v_chnE ?_
    | with_reducible refine Sw.v_tup ?_
    | with_reducible refine Sw.v_lst ?_
    | with_reducible refine Sw.v_sl ?_
    | with_reducible refine Sw.v_no ?_
    | with_reducible refine Sw.v_so ?_
    | with_reducible refine Sw.v_neg ?_
    | with_reducible refine Sw.v_lc ?_
    | with_reducible refine Sw.v_it ?_
    | with_reducible refine Sw.v_seqI ?_
    | with_reducible refine Sw.v_mt ?_
    | with_reducible refine Sw.v_m1 ?_
    | with_reducible refine Sw.v_dict0 ?_
    | with_reducible refine Sw.v_it1 ?_
    )
  | ((with_reducible refine Sw.gO ?_); first
    | with_reducible refine Sw.v_ltI ?_
    | with_reducible refine Sw.v_leI ?_
    | with_reducible refine Sw.v_gtI ?_
    | with_reducible refine Sw.v_geI ?_
    | with_reducible refine Sw.v_eqI ?_
    | with_reducible refine Sw.v_neI ?_
    | with_reducible refine Sw.v_eqS ?_
    | with_reducible refine Sw.v_neS ?_
    | with_reducible refine Sw.v_truB ?_
    | with_reducible refine Sw.v_truI ?_
    | with_reducible refine Sw.v_truN ?_
    | with_reducible refine Sw.v_truT ?_
    | with_reducible refine Sw.v_seqT ?_
    | with_reducible refine Sw.v_seqR ?_
    | with_reducible refine Sw.v_seqS ?_
    | ((with_reducible apply Sw.v_seqL); (focus first | assumption | exact sto_at | exact sto_app (by assumption) | exact sto_app (sto_app (by assumption)) | exact sto_app sto_at | exact sto_app (sto_app sto_at)))
    | with_reducible refine Sw.v_inK ?_
    | with_reducible refine Sw.v_notInK ?_
    | ((with_reducible apply Sw.wp_opt); (focus rfl))
    )
  | ((with_reducible refine Sw.gE ?_); first
    | with_reducible refine Sw.wp_bind ?_
    | with_reducible refine Sw.wp_ok ?_
    | with_reducible refine Sw.v_addI ?_
    | with_reducible refine Sw.v_subI ?_
    | ((with_reducible refine Sw.v_mulI (.inl ?_) ?_); (focus first | decide | omega))
    | ((with_reducible refine Sw.v_mulT ?_ ?_); exact ⟨by simp, by decide, by decide, by simp⟩)
    | ((with_reducible apply Sw.v_mulL); (focus first | assumption | exact sto_at | exact sto_app (by assumption) | exact sto_app (sto_app (by assumption)) | exact sto_app sto_at | exact sto_app (sto_app sto_at)); (focus exact ⟨by decide, by decide, by simp⟩))
    | ((with_reducible refine Sw.v_modI ?_ ?_); (focus first | decide | omega))
    | ((with_reducible refine Sw.v_addT ?_ ?_); refine line1000 ?_; (focus first | decide | (simp; done) | (simp; omega)))
    | ((with_reducible apply Sw.v_powE); (focus decide +kernel); (focus (simp only [Int.reduceToNat, Int.reducePow]; rfl)))
    | ((with_reducible apply Sw.v_ixL); (first | assumption | exact sto_at | exact sto_app (by assumption) | exact sto_app (sto_app (by assumption)) | exact sto_app sto_at | exact sto_app (sto_app sto_at)); (focus first | rfl | assumption | exact atI_nat (by assumption) | exact Sw.atc0 | exact Sw.atc1 | exact Sw.atc2))
    | ((with_reducible apply Sw.v_ixT); (focus first | rfl | assumption | exact atI_nat (by assumption) | exact Sw.atc0 | exact Sw.atc1 | exact Sw.atc2))
    | ((with_reducible apply Sw.v_ixR); (focus first | rfl | assumption | exact atI_nat (by assumption) | exact Sw.atc0 | exact Sw.atc1 | exact Sw.atc2))
    | with_reducible refine Sw.v_slc1 ?_
    | with_reducible refine Sw.v_slc2 ?_
    | ((with_reducible apply Sw.v_slLt1); (focus first | assumption | exact sto_at | exact sto_app (by assumption) | exact sto_app (sto_app (by assumption)) | exact sto_app sto_at | exact sto_app (sto_app sto_at)))
    | ((with_reducible apply Sw.v_slLt2); (focus first | assumption | exact sto_at | exact sto_app (by assumption) | exact sto_app (sto_app (by assumption)) | exact sto_app sto_at | exact sto_app (sto_app sto_at)))
    | ((with_reducible apply Sw.v_slLd1); (focus first | assumption | exact sto_at | exact sto_app (by assumption) | exact sto_app (sto_app (by assumption)) | exact sto_app sto_at | exact sto_app (sto_app sto_at)))
    | ((with_reducible apply Sw.v_addL); (focus first | assumption | exact sto_at | exact sto_app (by assumption) | exact sto_app (sto_app (by assumption)) | exact sto_app sto_at | exact sto_app (sto_app sto_at)); (focus first | assumption | exact sto_at | exact sto_app (by assumption) | exact sto_app (sto_app (by assumption)) | exact sto_app sto_at | exact sto_app (sto_app sto_at)); (focus first | decide | (simp; done) | (simp; omega)))
    | with_reducible refine Sw.v_sortSet ?_
    | ((with_reducible refine Sw.v_sl0 ?_ ?_); (focus omega))
    | ((with_reducible refine Sw.v_sl1 ?_ ?_); (focus omega))
    | with_reducible refine Sw.v_lenT ?_
    | with_reducible refine Sw.v_lenR ?_
    | ((with_reducible apply Sw.v_lenL); (focus first | assumption | exact sto_at | exact sto_app (by assumption) | exact sto_app (sto_app (by assumption)) | exact sto_app sto_at | exact sto_app (sto_app sto_at)))
    | ((with_reducible apply Sw.v_appT); (focus first | decide | (simp; done) | (simp; omega)))
    | with_reducible refine Sw.v_intI ?_
    | with_reducible refine Sw.v_intB ?_
    | with_reducible refine Sw.v_absI ?_
    | with_reducible refine Sw.v_max2 ?_
    | with_reducible refine Sw.v_min2 ?_
    | with_reducible refine Sw.v_listT ?_
    | ((with_reducible apply Sw.v_listL); (focus first | assumption | exact sto_at | exact sto_app (by assumption) | exact sto_app (sto_app (by assumption)) | exact sto_app sto_at | exact sto_app (sto_app sto_at)))
    | with_reducible refine Sw.v_tupleT ?_
    | ((with_reducible apply Sw.v_tupleL); (focus first | assumption | exact sto_at | exact sto_app (by assumption) | exact sto_app (sto_app (by assumption)) | exact sto_app sto_at | exact sto_app (sto_app sto_at)))
    | ((with_reducible refine Sw.v_rng1 ?_ ?_); (focus first | exact ⟨by omega, by omega, by omega, by omega⟩ | decide))
    | ((with_reducible refine Sw.v_rng2 ?_ ?_); (focus first | exact ⟨by omega, by omega, by omega, by omega⟩ | decide))
    | with_reducible refine Sw.v_zipT ?_
    | with_reducible refine Sw.v_enumT ?_
    | ((with_reducible apply Sw.v_enumL); (focus first | assumption | exact sto_at | exact sto_app (by assumption) | exact sto_app (sto_app (by assumption)) | exact sto_app sto_at | exact sto_app (sto_app sto_at)))
    | with_reducible refine Sw.v_andI ?_
    | with_reducible refine Sw.v_orI ?_
    | ((with_reducible refine Sw.v_shrI ?_ ?_); decide)
    | ((with_reducible apply Sw.v_allL); (focus first | assumption | exact sto_at | exact sto_app (by assumption) | exact sto_app (sto_app (by assumption)) | exact sto_app sto_at | exact sto_app (sto_app sto_at)))
    | ((with_reducible apply Sw.v_anyL); (focus first | assumption | exact sto_at | exact sto_app (by assumption) | exact sto_app (sto_app (by assumption)) | exact sto_app sto_at | exact sto_app (sto_app sto_at)))
    | with_reducible refine Sw.v_addGI ?_
    | ((with_reducible refine Sw.v_addGT ?_ ?_); refine line1000 ?_; (focus first | decide | (simp; done) | (simp; omega)))
    | ((with_reducible apply Sw.v_ixK); (focus rfl))
    )
  | with_reducible refine ⟨_, rfl, ?_⟩
  | with_reducible refine ⟨_, _, rfl, ?_⟩
  | with_reducible refine ⟨_, _, _, rfl, ?_⟩
  | ((with_reducible refine And.intro ?_ ?_); (focus first | rfl | decide | exact isLst_at sto_at | exact isLst_at (by assumption) | exact isLst_at (sto_app sto_at) | exact isLst_at (sto_app (by assumption)) | (simp; done) | (simp; omega)))
  | exact ⟨[], (List.append_nil _).symm⟩
  | with_reducible rfl
  | with_reducible refine Sw.ex_app ?_
  | exact ⟨_, rfl⟩
  )
theorem rowS_nb {ns : List Nat} : 32 ∉ TL.tl (rowS ns) := fun hc => by
  rcases join_mem hc with q | ⟨p, hp, q⟩
  · rw [comma] at q
    simp at q
  · obtain ⟨n, _, rfl⟩ := List.mem_map.mp hp
    exact decS_nb q
theorem Lt.nb {B : Nat} {d : Lt} (h : d.ok B) : ∀ p ∈ d.ps, 32 ∉ TL.tl p := by
  cases d with
  | pg m c n ns =>
    obtain ⟨h1, h2, h3, h4⟩ := h
    intro p hp
    simp only [Lt.ps, List.mem_cons, List.not_mem_nil, or_false] at hp
    rcases hp with rfl | rfl | rfl | rfl | rfl
    · decide +kernel
    · exact decS_nb
    · exact decS_nb
    · exact decS_nb
    · exact page_noblank h4
  | la m r cs =>
    intro p hp
    simp only [Lt.ps, List.mem_cons, List.not_mem_nil, or_false] at hp
    rcases hp with rfl | rfl | rfl | rfl
    · decide +kernel
    · exact decS_nb
    · exact decS_nb
    · exact rowS_nb
  | lk m ns =>
    intro p hp
    simp only [Lt.ps, List.mem_cons, List.not_mem_nil, or_false] at hp
    rcases hp with rfl | rfl | rfl
    · decide +kernel
    · exact decS_nb
    · exact rowS_nb
  | br z m =>
    obtain ⟨h1, h2⟩ := h
    intro p hp
    simp only [Lt.ps, List.mem_cons, List.not_mem_nil, or_false] at hp
    rcases hp with rfl | rfl
    · simp only [brL, List.mem_cons, List.not_mem_nil, or_false] at h2
      rcases h2 with rfl | rfl | rfl | rfl <;> decide +kernel
    · exact decS_nb
theorem Lt.split {B : Nat} {d : Lt} (h : d.ok B) : Txt.split d.s " " = d.ps := words_join (by cases d <;> simp [Lt.ps]) (Lt.nb h)
theorem Lt.slen {d : Lt} (h : d.ok (10 ^ 50)) : d.s.length ≤ 100000 := by
  have h1 := @join_len " " d.ps
  have h3 : (d.ps.map (·.length)).sum ≤ d.ps.length * 2000 := sum_le (Lt.len h)
  have h4 := d.few
  have h5 : (" " : Str).length = 1 := by decide +kernel
  rw [h5] at h1
  show (Txt.join " " d.ps).length ≤ 100000
  omega
theorem split_row {ns : List Nat} (h : ns ≠ []) : Txt.split (rowS ns) "," = ns.map decS := TL.split_join comma (by decide +kernel) (by simpa using h) fun p hp => by
  obtain ⟨n, _, rfl⟩ := List.mem_map.mp hp
  exact decS_nc
theorem numsin_ok {ns : List Nat} {st : Sto} (h : ns ≠ []) (hl : ns.length ≤ 16) (hb : ∀ n ∈ ns, n < 10 ^ 40) : f_numbers_in [.str (rowS ns)] st = .ok (.tup (wI8 ns)) st := by
  have hz := rowS_len hl fun n hn => Nat.le_trans (Nat.le_of_lt (hb n hn)) (by decide +kernel)
  refine clean_wp (wp_run rfl ?_) (wI8_closed ns)
  unfold b_numbers_in
  repeat decreasing_trivial_pre_omega
  refine Sw.v_splitS ⟨by decide +kernel, Nat.le_trans (Nat.add_le_add_right hz 2) (by decide)⟩ ?_
  rw [split_row h]
  repeat decreasing_trivial_pre_omega
  refine Sw.v_lcM (fun w => .int (match w with | .str z => (PySem.intText? z).getD 0 | _ => 0)) (by show (List.map _ _).length ≤ _; simp; omega) (fun a => sto_app sto_at) (fun acc w hw => ?_) ?_
  · obtain ⟨z, hz, rfl⟩ := List.mem_map.mp hw
    obtain ⟨n, hn, rfl⟩ := List.mem_map.mp hz
    refine ⟨_, rfl, ?_⟩
    repeat decreasing_trivial_pre_omega
    refine wp_eq (numin_ok (hb n hn)) ⟨?_, rfl⟩
    simp only [intText_dec (Nat.lt_of_lt_of_le (hb n hn) (by decide +kernel)), Option.getD_some]
  · repeat decreasing_trivial_pre_omega
    refine ⟨?_, _, List.append_assoc _ _ _⟩
    congr 1
    show List.map _ (List.map W.str (List.map decS ns)) = wI8 ns
    rw [List.map_map, List.map_map]
    refine List.map_congr_left fun n hn => ?_
    show W.int ((PySem.intText? (decS n)).getD 0) = _
    rw [intText_dec (Nat.lt_of_lt_of_le (hb n hn) (by decide +kernel))]
    rfl
theorem strOk_of {z : Str} (h : ∀ c ∈ TL.tl z, c < 1114112) : PyData.canLay0 (.str z) = true := by
  show z.cps.all (· < 0x110000) = true
  rw [← Array.all_toList, List.all_eq_true]
  exact fun c hc => decide_eq_true (h c hc)
theorem decS_sok {n : Nat} : PyData.canLay0 (.str (decS n)) = true := strOk_of fun c hc => by have := decS_hx c hc; omega
theorem rowS_sok {ns : List Nat} : PyData.canLay0 (.str (rowS ns)) = true := strOk_of fun c hc => by
  rcases join_mem hc with q | ⟨p, hp, q⟩
  · rw [comma] at q
    simp at q
    omega
  · obtain ⟨n, _, rfl⟩ := List.mem_map.mp hp
    have := decS_hx c q
    omega
theorem pageS_sok {ns : List Nat} (h : Pg ns) : PyData.canLay0 (.str (pageS ns)) = true := by
  unfold pageS
  split
  · decide +kernel
  · refine strOk_of fun c hc => ?_
    rcases join_mem hc with q | ⟨p, hp, q⟩
    · rw [comma] at q
      simp at q
      omega
    · obtain ⟨n, hn, rfl⟩ := List.mem_map.mp hp
      have := hexS_hx (h.big n hn) c q
      rcases this with q | q <;> omega
theorem eqL_nil {st : Sto} {n m : Nat} {l : List W} (h1 : st[n]? = some (.lst l)) (h2 : st[m]? = some (.lst [])) (h : ∀ x ∈ l, ∃ d, toD st 63 x = some d) : eqW st (.ref n) (.ref m) = some (decide (l = [])) := by
  show ((toD st 64 (.ref n)).bind fun d => (toD st 64 (.ref m)).map fun e => PyData.eqv d e) = _
  have hm : ∀ x ∈ l, toD st 63 x = some ((toD st 63 x).getD .none) := fun x hx => by
    obtain ⟨d, hd⟩ := h x hx
    rw [hd]
    rfl
  rw [toD_lst (k := 63) h1, toD_lst (k := 63) h2, mapM_all hm]
  cases l with
  | nil => rfl
  | cons a l => rfl
theorem toD_s {st : Sto} {z : Str} (h : PyData.canLay0 (.str z) = true) : ∃ d, toD st 63 (.str z) = some d := ⟨.str z, by
  show (if PyData.canLay0 (.str z) = true then some (PyData.str z) else none) = _
  rw [if_pos h]⟩
theorem letterin_ok {d : Lt} (h : d.ok (10 ^ 39)) {st : Sto} {n : Nat} {z : Str} {r : List Str} (e : d.ps = z :: r) (hs : st[n]? = some (.lst (r.map W.str))) : f_letter_in [.str z, .ref n] st = .ok d.w st := by
  have b1 : (10 : Nat) ^ 39 < 10 ^ 40 := by decide +kernel
  have b2 : (1000000 : Nat) < 10 ^ 40 := by decide +kernel
  refine clean_wp (wp_run rfl ?_) Lt.w_closed
  unfold b_letter_in
  have step : ∀ (st : Sto) (m : Nat) (q : List W) (gd : GD) (env : En) (Q : Unit → Sto → Prop) (E : XE), m ≤ 1000000 → (∀ a, gdOk gd (st ++ [.lst a])) → 4 < env.length → Q () (st ++ [.lst [.int (m : Nat)]]) → wp (lcS gd (bN 4) fYes (fFn 1 f_number_in (fCons (fVar 4) fNil)) st.length env [.str (decS m)] (st ++ [.lst []])) Q E := by
    intro st m q gd env Q E hm hg h4 hq
    refine Sw.v_lcM (fun _ => .int (m : Nat)) (by simp) hg (fun acc w hw => ?_) hq
    rw [List.mem_singleton.mp hw]
    refine ⟨_, rfl, ?_⟩
    refine Sw.v_fn (Sw.v_cons (Sw.v_var (List.getElem?_set_self h4) (Sw.v_nil ⟨rfl, ?_⟩)))
    exact wp_eq (numin_ok (by omega)) ⟨rfl, rfl⟩
  cases d with
  | pg m c k ns =>
    obtain ⟨h1, h2, h3, h4⟩ := h
    simp only [Lt.ps] at e
    obtain ⟨rfl, rfl⟩ := List.cons.inj e
    repeat decreasing_trivial_pre_omega
    refine step _ m [] _ _ _ _ h1 (fun a => sto_app sto_at) (by simp [wipeW, Sw.start]) ?_
    repeat decreasing_trivial_pre_omega
    refine wp_eq (numin_ok (by omega)) ?_
    repeat decreasing_trivial_pre_omega
    refine wp_eq (numin_ok (by omega)) ?_
    repeat decreasing_trivial_pre_omega
    refine wp_eq (pagein_ok h4) ?_
    repeat decreasing_trivial_pre_omega
  | la m r cs =>
    obtain ⟨h1, h2, h3, h4⟩ := h
    simp only [Lt.ps] at e
    obtain ⟨rfl, rfl⟩ := List.cons.inj e
    repeat decreasing_trivial_pre_omega
    refine step _ m [] _ _ _ _ h1 (fun a => sto_app sto_at) (by simp [wipeW, Sw.start]) ?_
    repeat decreasing_trivial_pre_omega
    refine wp_eq (numin_ok (by omega)) ?_
    repeat decreasing_trivial_pre_omega
    refine wp_eq (numsin_ok (fun z => by have := h3.1; rw [z] at this; simp at this) h3.2 fun n hn => by have := h4 n hn; omega) ?_
    repeat decreasing_trivial_pre_omega
  | lk m ns =>
    obtain ⟨h1, h2, h3, h4⟩ := h
    simp only [Lt.ps] at e
    obtain ⟨rfl, rfl⟩ := List.cons.inj e
    repeat decreasing_trivial_pre_omega
    refine step _ m [] _ _ _ _ h1 (fun a => sto_app sto_at) (by simp [wipeW, Sw.start]) ?_
    repeat decreasing_trivial_pre_omega
    refine wp_eq (numsin_ok (fun z => by have := h2.1; rw [z] at this; simp at this) h2.2 fun n hn => by have := h3 n hn; omega) ?_
    repeat decreasing_trivial_pre_omega
  | br z m =>
    obtain ⟨h1, h2⟩ := h
    have hz : z ≠ "page" ∧ z ≠ "last" ∧ z ≠ "lack" := by
      simp only [brL, List.mem_cons, List.not_mem_nil, or_false] at h2
      rcases h2 with rfl | rfl | rfl | rfl <;> decide +kernel
    obtain ⟨z1, z2, z3⟩ := hz
    simp only [Lt.ps] at e
    obtain ⟨rfl, rfl⟩ := List.cons.inj e
    repeat decreasing_trivial_pre_omega
    refine step _ m [] _ _ _ _ h1 (fun a => sto_app sto_at) (by simp [wipeW, Sw.start]) ?_
    repeat decreasing_trivial_pre_omega
    refine Sw.v_eqW (eqL_nil (l := []) (sto_app sto_at) sto_at (by simp)) ?_
    repeat decreasing_trivial_pre_omega
theorem readletter_ok {d : Lt} (h : d.ok (10 ^ 39)) {st : Sto} : f_read_letter [.str d.s] st = .ok d.w st := by
  have h5 : d.ok (10 ^ 50) := Lt.up (by decide +kernel) h
  refine clean_wp (wp_run rfl ?_) Lt.w_closed
  unfold b_read_letter
  repeat decreasing_trivial_pre_omega
  refine wp_eq (words_ok (Lt.slen h5)) ?_
  rw [Lt.split h]
  have hd : ∀ s, f_is_letter [d.w] s = .ok (.bl true) s := fun s => by rw [isletter_ok (.inl (Lt.pl h5)), Lt.is h5]
  have ht := fun s => lettertext_ok h5 (st := s)
  obtain ⟨z, y, r, e⟩ : ∃ z y r, d.ps = z :: y :: r := by cases d <;> exact ⟨_, _, _, rfl⟩
  rw [e]
  simp only [List.map_cons]
  repeat decreasing_trivial_pre_omega
  have hk : ∀ x ∈ (y :: r).map W.str, ∀ st, ∃ d, toD st 63 x = some d := fun x hx st => by
    obtain ⟨p, hp, rfl⟩ := List.mem_map.mp hx
    have hp2 : p ∈ d.ps.drop 1 := by rw [e]; exact hp
    refine toD_s ?_
    clear hx hp e
    cases d <;> simp only [Lt.ps, List.drop_succ_cons, List.drop_zero, List.mem_cons, List.not_mem_nil, or_false] at hp2
    · rcases hp2 with rfl | rfl | rfl | rfl
      · exact decS_sok
      · exact decS_sok
      · exact decS_sok
      · exact pageS_sok h.2.2.2
    · rcases hp2 with rfl | rfl | rfl
      · exact decS_sok
      · exact decS_sok
      · exact rowS_sok
    · rcases hp2 with rfl | rfl
      · exact decS_sok
      · exact rowS_sok
    · rw [hp2]
      exact decS_sok
  refine Sw.v_neW (eqL_nil (l := (y :: r).map W.str) (sto_app sto_at) sto_at fun x hx => hk x hx _) ?_
  repeat decreasing_trivial_pre_omega
  refine wp_eq (letterin_ok h e (sto_app sto_at)) ?_
  repeat decreasing_trivial_pre_omega
  refine wp_eq (hd _) ?_
  repeat decreasing_trivial_pre_omega
  refine wp_eq (ht _) ?_
  repeat decreasing_trivial_pre_omega

end Lw

namespace Lw
open PySem PySem.Spec PyProof.Rows L2 Sw
/-- one step; the goal's head says which -/
local macro_rules | `(tactic| decreasing_trivial_pre_omega) => `(tactic| first
  | ((with_reducible refine Sw.gWi ?_); first
    | with_reducible refine Sw.ws_ift ?_
    | with_reducible refine Sw.ws_iff ?_
    | with_reducible refine Sw.ws_ifn ?_
    | ((with_reducible refine Sw.ws_ifd1 ?_ ?_); (focus first | assumption | omega | (simp; done)))
    | ((with_reducible refine Sw.ws_ifd0 ?_ ?_); (focus first | assumption | omega | (simp; done)))
    | ((with_reducible refine Sw.ws_ifb1 ?_ ?_); (focus rfl))
    | ((with_reducible refine Sw.ws_ifb0 ?_ ?_); (focus rfl))
    )
  | ((with_reducible refine Sw.gW ?_); first
    | with_reducible refine Sw.ws_seqS ?_
    | with_reducible refine Sw.ws_ifS ?_
    | with_reducible refine Sw.ws_forN ?_
    | with_reducible refine Sw.ws_seq ?_
    | with_reducible refine Sw.ws_set ?_
    | with_reducible refine Sw.ws_if ?_
    | with_reducible refine Sw.ws_ret ?_
    | with_reducible refine Sw.ws_next ?_
    | with_reducible refine Sw.ws_drop ?_
    | with_reducible refine Sw.ws_for ?_
    | with_reducible refine Sw.ws_asg ?_
    | with_reducible refine Sw.ws_retN ?_
    | with_reducible refine Sw.ws_raise ?_
    | with_reducible refine Sw.ws_raiseD ?_
    | with_reducible refine Sw.ws_gN ?_
    | with_reducible refine Sw.ws_brk ?_
    | with_reducible refine Sw.ws_cnt ?_
    | ((with_reducible apply Sw.ws_aug); rfl)
    | with_reducible refine Sw.ws_gSub ?_
    | with_reducible refine Sw.ws_gsCons ?_
    | with_reducible refine Sw.ws_gsNil ?_
    | ((with_reducible apply Sw.ws_gsConsE); (focus rfl))
    | ((with_reducible apply Sw.ws_gsNilE); (focus rfl))
    | with_reducible refine Sw.ws_par2 ?_
    | with_reducible refine Sw.ws_par3 ?_
    | ((with_reducible refine Sw.ws_gTup ?_ ?_); (focus rfl))
    | ((with_reducible apply Sw.ws_gSeqN); (focus first | rfl | exact getS_at (by assumption) | exact getS_at sto_at | exact getS_at (sto_app (by assumption)) | exact getS_at (sto_app sto_at)); (focus first | rfl | decide | (simp; done) | (simp; omega)))
    | ((with_reducible apply Sw.ws_gStarN); (focus first | rfl | exact getS_at (by assumption) | exact getS_at sto_at | exact getS_at (sto_app (by assumption)) | exact getS_at (sto_app sto_at)); (focus first | decide | (simp; done) | (simp; omega)))
    )
  | ((with_reducible refine Sw.gI ?_); first
    | with_reducible refine Sw.wp_ift ?_
    | with_reducible refine Sw.wp_iff ?_
    | with_reducible refine Sw.wp_ifn ?_
    | ((with_reducible refine Sw.wp_ifd1 ?_ ?_); (focus first | assumption | omega | (simp; done)))
    | ((with_reducible refine Sw.wp_ifd0 ?_ ?_); (focus first | assumption | omega | (simp; done)))
    | ((with_reducible refine Sw.wp_ifb1 ?_ ?_); (focus rfl))
    | ((with_reducible refine Sw.wp_ifb0 ?_ ?_); (focus rfl))
    )
  | ((with_reducible refine Sw.gF ?_); first
    | ((with_reducible apply Sw.v_var); rfl)
    | with_reducible refine Sw.v_c ?_
    | with_reducible refine Sw.v_cons ?_
    | with_reducible refine Sw.v_nil ?_
    | ((with_reducible refine Sw.v_fn ?_))
    | with_reducible refine Sw.v_call ?_
    | ((with_reducible apply Sw.v_ask); (focus rfl); (focus rfl))
    | with_reducible refine Sw.v_bin ?_
    | with_reducible refine Sw.v_cmp ?_
    | with_reducible refine Sw.v_cmpE ?_
    | with_reducible refine Sw.v_tru ?_
    | with_reducible refine Sw.v_notT ?_
    | with_reducible refine Sw.v_andT ?_
    | with_reducible refine Sw.v_orT ?_
    | with_reducible refine Sw.v_and ?_
    | with_reducible refine Sw.v_or ?_
    | with_reducible refine Sw.v_not ?_
    | with_reducible refine Sw.v_if ?_
    | with_reducible refine Sw.v_chn ?_
    | with_reducible refine Sw.v_chnE ?_
    | with_reducible refine Sw.v_tup ?_
    | with_reducible refine Sw.v_lst ?_
    | with_reducible refine Sw.v_sl ?_
    | with_reducible refine Sw.v_no ?_
    | with_reducible refine Sw.v_so ?_
    | with_reducible refine Sw.v_neg ?_
    | with_reducible refine Sw.v_lc ?_
    | with_reducible refine Sw.v_it ?_
    | with_reducible refine Sw.v_seqI ?_
    | with_reducible refine Sw.v_mt ?_
    | with_reducible refine Sw.v_m1 ?_
    | with_reducible refine Sw.v_dict0 ?_
    | with_reducible refine Sw.v_it1 ?_
    )
  | ((with_reducible refine Sw.gO ?_); first
    | with_reducible refine Sw.v_ltI ?_
    | with_reducible refine Sw.v_leI ?_
    | with_reducible refine Sw.v_gtI ?_
    | with_reducible refine Sw.v_geI ?_
    | with_reducible refine Sw.v_eqI ?_
    | with_reducible refine Sw.v_neI ?_
    | with_reducible refine Sw.v_eqS ?_
    | with_reducible refine Sw.v_neS ?_
    | with_reducible refine Sw.v_truB ?_
    | with_reducible refine Sw.v_truI ?_
    | with_reducible refine Sw.v_truN ?_
    | with_reducible refine Sw.v_truT ?_
    | with_reducible refine Sw.v_seqT ?_
    | with_reducible refine Sw.v_seqR ?_
    | with_reducible refine Sw.v_seqS ?_
    | ((with_reducible apply Sw.v_seqL); (focus first | assumption | exact sto_at | exact sto_app (by assumption) | exact sto_app (sto_app (by assumption)) | exact sto_app sto_at | exact sto_app (sto_app sto_at)))
    | with_reducible refine Sw.v_inK ?_
    | with_reducible refine Sw.v_notInK ?_
    | ((with_reducible apply Sw.wp_opt); (focus rfl))
    )
  | ((with_reducible refine Sw.gE ?_); first
    | with_reducible refine Sw.wp_bind ?_
    | with_reducible refine Sw.wp_ok ?_
    | with_reducible refine Sw.v_addI ?_
    | with_reducible refine Sw.v_subI ?_
    | ((with_reducible refine Sw.v_mulI (.inl ?_) ?_); (focus first | decide | omega))
    | ((with_reducible refine Sw.v_mulT ?_ ?_); exact ⟨by simp, by decide, by decide, by simp⟩)
    | ((with_reducible apply Sw.v_mulL); (focus first | assumption | exact sto_at | exact sto_app (by assumption) | exact sto_app (sto_app (by assumption)) | exact sto_app sto_at | exact sto_app (sto_app sto_at)); (focus exact ⟨by decide, by decide, by simp⟩))
    | ((with_reducible refine Sw.v_modI ?_ ?_); (focus first | decide | omega))
    | ((with_reducible refine Sw.v_addT ?_ ?_); refine line1000 ?_; (focus first | decide | (simp; done) | (simp; omega)))
    | ((with_reducible apply Sw.v_powE); (focus decide +kernel); (focus (simp only [Int.reduceToNat, Int.reducePow]; rfl)))
    | ((with_reducible apply Sw.v_ixL); (first | assumption | exact sto_at | exact sto_app (by assumption) | exact sto_app (sto_app (by assumption)) | exact sto_app sto_at | exact sto_app (sto_app sto_at)); (focus first | rfl | assumption | exact atI_nat (by assumption) | exact Sw.atc0 | exact Sw.atc1 | exact Sw.atc2))
    | ((with_reducible apply Sw.v_ixT); (focus first | rfl | assumption | exact atI_nat (by assumption) | exact Sw.atc0 | exact Sw.atc1 | exact Sw.atc2))
    | ((with_reducible apply Sw.v_ixR); (focus first | rfl | assumption | exact atI_nat (by assumption) | exact Sw.atc0 | exact Sw.atc1 | exact Sw.atc2))
    | with_reducible refine Sw.v_slc1 ?_
    | with_reducible refine Sw.v_slc2 ?_
    | ((with_reducible apply Sw.v_slLt1); (focus first | assumption | exact sto_at | exact sto_app (by assumption) | exact sto_app (sto_app (by assumption)) | exact sto_app sto_at | exact sto_app (sto_app sto_at)))
    | ((with_reducible apply Sw.v_slLt2); (focus first | assumption | exact sto_at | exact sto_app (by assumption) | exact sto_app (sto_app (by assumption)) | exact sto_app sto_at | exact sto_app (sto_app sto_at)))
    | ((with_reducible apply Sw.v_slLd1); (focus first | assumption | exact sto_at | exact sto_app (by assumption) | exact sto_app (sto_app (by assumption)) | exact sto_app sto_at | exact sto_app (sto_app sto_at)))
    | ((with_reducible apply Sw.v_addL); (focus first | assumption | exact sto_at | exact sto_app (by assumption) | exact sto_app (sto_app (by assumption)) | exact sto_app sto_at | exact sto_app (sto_app sto_at)); (focus first | assumption | exact sto_at | exact sto_app (by assumption) | exact sto_app (sto_app (by assumption)) | exact sto_app sto_at | exact sto_app (sto_app sto_at)); (focus first | decide | (simp; done) | (simp; omega)))
    | with_reducible refine Sw.v_sortSet ?_
    | ((with_reducible refine Sw.v_sl0 ?_ ?_); (focus omega))
    | ((with_reducible refine Sw.v_sl1 ?_ ?_); (focus omega))
    | with_reducible refine Sw.v_lenT ?_
    | with_reducible refine Sw.v_lenR ?_
    | ((with_reducible apply Sw.v_lenL); (focus first | assumption | exact sto_at | exact sto_app (by assumption) | exact sto_app (sto_app (by assumption)) | exact sto_app sto_at | exact sto_app (sto_app sto_at)))
    | ((with_reducible apply Sw.v_appT); (focus first | decide | (simp; done) | (simp; omega)))
    | with_reducible refine Sw.v_intI ?_
    | with_reducible refine Sw.v_intB ?_
    | with_reducible refine Sw.v_absI ?_
    | with_reducible refine Sw.v_max2 ?_
    | with_reducible refine Sw.v_min2 ?_
    | with_reducible refine Sw.v_listT ?_
    | ((with_reducible apply Sw.v_listL); (focus first | assumption | exact sto_at | exact sto_app (by assumption) | exact sto_app (sto_app (by assumption)) | exact sto_app sto_at | exact sto_app (sto_app sto_at)))
    | with_reducible refine Sw.v_tupleT ?_
    | ((with_reducible apply Sw.v_tupleL); (focus first | assumption | exact sto_at | exact sto_app (by assumption) | exact sto_app (sto_app (by assumption)) | exact sto_app sto_at | exact sto_app (sto_app sto_at)))
    | ((with_reducible refine Sw.v_rng1 ?_ ?_); (focus first | exact ⟨by omega, by omega, by omega, by omega⟩ | decide))
    | ((with_reducible refine Sw.v_rng2 ?_ ?_); (focus first | exact ⟨by omega, by omega, by omega, by omega⟩ | decide))
    | with_reducible refine Sw.v_zipT ?_
    | with_reducible refine Sw.v_enumT ?_
    | ((with_reducible apply Sw.v_enumL); (focus first | assumption | exact sto_at | exact sto_app (by assumption) | exact sto_app (sto_app (by assumption)) | exact sto_app sto_at | exact sto_app (sto_app sto_at)))
    | with_reducible refine Sw.v_andI ?_
    | with_reducible refine Sw.v_orI ?_
    | ((with_reducible refine Sw.v_shrI ?_ ?_); decide)
    | ((with_reducible apply Sw.v_allL); (focus first | assumption | exact sto_at | exact sto_app (by assumption) | exact sto_app (sto_app (by assumption)) | exact sto_app sto_at | exact sto_app (sto_app sto_at)))
    | ((with_reducible apply Sw.v_anyL); (focus first | assumption | exact sto_at | exact sto_app (by assumption) | exact sto_app (sto_app (by assumption)) | exact sto_app sto_at | exact sto_app (sto_app sto_at)))
    | with_reducible refine Sw.v_addGI ?_
    | ((with_reducible refine Sw.v_addGT ?_ ?_); refine line1000 ?_; (focus first | decide | (simp; done) | (simp; omega)))
    | ((with_reducible apply Sw.v_ixK); (focus rfl))
    )
  | with_reducible refine ⟨_, rfl, ?_⟩
  | with_reducible refine ⟨_, _, rfl, ?_⟩
  | with_reducible refine ⟨_, _, _, rfl, ?_⟩
  | ((with_reducible refine And.intro ?_ ?_); (focus first | rfl | decide | exact isLst_at sto_at | exact isLst_at (by assumption) | exact isLst_at (sto_app sto_at) | exact isLst_at (sto_app (by assumption)) | (simp; done) | (simp; omega)))
  | exact ⟨[], (List.append_nil _).symm⟩
  | with_reducible rfl
  | with_reducible refine Sw.ex_app ?_
  | exact ⟨_, rfl⟩
  )
theorem rowJ {ns : List Nat} (hl : ns.length ≤ 16) (hb : ∀ n ∈ ns, n ≤ 10 ^ 50) : ((ns.map decS).map (·.length)).sum + (ns.map decS).length * ("," : Str).length ≤ 16777216 := by
  refine join_b (by decide +kernel) (fun p hp => ?_) (by simp; omega)
  obtain ⟨n, hn, rfl⟩ := List.mem_map.mp hp
  exact Nat.le_trans (decS_len (k := 50) (Nat.lt_of_le_of_lt (hb n hn) (by decide +kernel))) (by decide)
theorem v_appT2 {st : Sto} {Q : W → Sto → Prop} {E : XE} {l : List W} {w : W} {x : Ob} (hl : l.length < 100000) (q : Q .non (st ++ Ob.lst (l ++ [w]) :: [x])) : wp (wApp (.ref st.length) [w] (st ++ [Ob.lst l] ++ [x])) Q E := by
  rw [List.append_assoc]
  exact Sw.v_appT hl q
theorem told_l {d : Lt} (h : d.ok (10 ^ 50)) {st : Sto} : f_law_told [d.w] st = .ok (.str d.s) st := by
  have b4 : (10 : Nat) ^ 50 < 10 ^ 400 := by decide +kernel
  have b5 : (1000000 : Nat) < 10 ^ 400 := by decide +kernel
  have jb := join_b (a := " ") (by decide +kernel) (Lt.len h) (Nat.le_trans d.few (by decide))
  have rowM : ∀ (st : Sto) (ns : List Nat) (gd : GD) (env : En) (Q : Unit → Sto → Prop) (E : XE), ns.length ≤ 16 → (∀ n ∈ ns, n ≤ 10 ^ 50) → (∀ a, gdOk gd (st ++ [.lst a])) → 4 < env.length → Q () (st ++ [.lst ((ns.map decS).map .str)]) → wp (lcS gd (bN 4) fYes (fCall wStr (fCons (fVar 4) fNil)) st.length env (wI8 ns) (st ++ [.lst []])) Q E := by
    intro st ns gd env Q E hl hb hg h4 hq
    refine Sw.v_lcM (fun w => .str (decS (unI w))) (by rw [wI8_len]; omega) hg (fun acc w hw => ?_) ?_
    · obtain ⟨n, hn, rfl⟩ := List.mem_map.mp hw
      refine ⟨_, rfl, ?_⟩
      refine Sw.v_call (Sw.v_cons (Sw.v_var (List.getElem?_set_self h4) (Sw.v_nil ?_)))
      refine str_ok (Nat.lt_of_le_of_lt (hb n hn) b4) ⟨?_, rfl⟩
      simp [unI]
    · rw [show (wI8 ns).map (fun w => W.str (decS (unI w))) = (ns.map decS).map .str by simp [wI8, unI, Function.comp_def]]
      exact hq
  refine clean_wp (wp_runN ?_) rfl
  unfold b_law_told
  cases d with
  | pg m c n ns =>
    obtain ⟨h1, h2, h3, h4⟩ := h
    simp only [Lt.w]
    repeat decreasing_trivial_pre_omega
    refine ws_fcons rfl trivial ?_
    repeat decreasing_trivial_pre_omega
    refine wp_eq (isi_str TyB.str) ?_
    repeat decreasing_trivial_pre_omega
    refine ws_fcons rfl trivial ?_
    repeat decreasing_trivial_pre_omega
    refine wp_eq (isi_str TyB.int) ?_
    repeat decreasing_trivial_pre_omega
    refine wp_eq (isi_tup TyB.int) ?_
    repeat decreasing_trivial_pre_omega
    refine str_ok (by omega) ?_
    repeat decreasing_trivial_pre_omega
    refine ws_fcons rfl trivial ?_
    repeat decreasing_trivial_pre_omega
    refine wp_eq (isi_str TyB.int) ?_
    repeat decreasing_trivial_pre_omega
    refine wp_eq (isi_tup TyB.int) ?_
    repeat decreasing_trivial_pre_omega
    refine str_ok (by omega) ?_
    repeat decreasing_trivial_pre_omega
    refine ws_fcons rfl trivial ?_
    repeat decreasing_trivial_pre_omega
    refine wp_eq (isi_str TyB.int) ?_
    repeat decreasing_trivial_pre_omega
    refine wp_eq (isi_tup TyB.int) ?_
    repeat decreasing_trivial_pre_omega
    refine str_ok (by omega) ?_
    repeat decreasing_trivial_pre_omega
    refine ws_fcons rfl trivial ?_
    repeat decreasing_trivial_pre_omega
    refine wp_eq (isi_str TyB.tup) ?_
    repeat decreasing_trivial_pre_omega
    refine wp_eq (isi_tup TyB.tup) ?_
    repeat decreasing_trivial_pre_omega
    refine wp_eq (written_ok h4) ?_
    repeat decreasing_trivial_pre_omega
    refine ws_fnil rfl trivial ?_
    repeat decreasing_trivial_pre_omega
    refine Sw.v_joinL (ys := Lt.ps (.pg m c n ns)) sto_at jb ?_
    repeat decreasing_trivial_pre_omega
  | la m r cs =>
    obtain ⟨h1, h2, h3, h4⟩ := h
    simp only [Lt.w]
    repeat decreasing_trivial_pre_omega
    refine ws_fcons rfl trivial ?_
    repeat decreasing_trivial_pre_omega
    refine wp_eq (isi_str TyB.str) ?_
    repeat decreasing_trivial_pre_omega
    refine ws_fcons rfl trivial ?_
    repeat decreasing_trivial_pre_omega
    refine wp_eq (isi_str TyB.int) ?_
    repeat decreasing_trivial_pre_omega
    refine wp_eq (isi_tup TyB.int) ?_
    repeat decreasing_trivial_pre_omega
    refine str_ok (by omega) ?_
    repeat decreasing_trivial_pre_omega
    refine ws_fcons rfl trivial ?_
    repeat decreasing_trivial_pre_omega
    refine wp_eq (isi_str TyB.int) ?_
    repeat decreasing_trivial_pre_omega
    refine wp_eq (isi_tup TyB.int) ?_
    repeat decreasing_trivial_pre_omega
    refine str_ok (by omega) ?_
    repeat decreasing_trivial_pre_omega
    refine ws_fcons rfl trivial ?_
    repeat decreasing_trivial_pre_omega
    refine wp_eq (isi_str TyB.tup) ?_
    repeat decreasing_trivial_pre_omega
    refine wp_eq (isi_tup TyB.tup) ?_
    repeat decreasing_trivial_pre_omega
    refine rowM _ cs _ _ _ _ h3.2 (fun n hn => (h4 n hn).2) (fun a => trivial) (by simp [wipeW, Sw.start]) ?_
    repeat decreasing_trivial_pre_omega
    refine Sw.v_joinL (ys := cs.map decS) sto_at (rowJ h3.2 fun n hn => (h4 n hn).2) ?_
    repeat decreasing_trivial_pre_omega
    refine v_appT2 (by simp) ?_
    repeat decreasing_trivial_pre_omega
    refine ws_fnil rfl trivial ?_
    repeat decreasing_trivial_pre_omega
    refine Sw.v_joinL (ys := Lt.ps (.la m r cs)) sto_at jb ?_
    repeat decreasing_trivial_pre_omega
  | lk m ns =>
    obtain ⟨h1, h2, h3, h4⟩ := h
    have h3' : ∀ n ∈ ns, n ≤ 10 ^ 50 := fun n hn => by have := h3 n hn; omega
    simp only [Lt.w]
    repeat decreasing_trivial_pre_omega
    refine ws_fcons rfl trivial ?_
    repeat decreasing_trivial_pre_omega
    refine wp_eq (isi_str TyB.str) ?_
    repeat decreasing_trivial_pre_omega
    refine ws_fcons rfl trivial ?_
    repeat decreasing_trivial_pre_omega
    refine wp_eq (isi_str TyB.int) ?_
    repeat decreasing_trivial_pre_omega
    refine wp_eq (isi_tup TyB.int) ?_
    repeat decreasing_trivial_pre_omega
    refine str_ok (by omega) ?_
    repeat decreasing_trivial_pre_omega
    refine ws_fcons rfl trivial ?_
    repeat decreasing_trivial_pre_omega
    refine wp_eq (isi_str TyB.tup) ?_
    repeat decreasing_trivial_pre_omega
    refine wp_eq (isi_tup TyB.tup) ?_
    repeat decreasing_trivial_pre_omega
    refine rowM _ ns _ _ _ _ h2.2 h3' (fun a => trivial) (by simp [wipeW, Sw.start]) ?_
    repeat decreasing_trivial_pre_omega
    refine Sw.v_joinL (ys := ns.map decS) sto_at (rowJ h2.2 h3') ?_
    repeat decreasing_trivial_pre_omega
    refine v_appT2 (by simp) ?_
    repeat decreasing_trivial_pre_omega
    refine ws_fnil rfl trivial ?_
    repeat decreasing_trivial_pre_omega
    refine Sw.v_joinL (ys := Lt.ps (.lk m ns)) sto_at jb ?_
    repeat decreasing_trivial_pre_omega
  | br z m =>
    obtain ⟨h1, h2⟩ := h
    have hz : z ≠ "store" := by
      simp only [brL, List.mem_cons, List.not_mem_nil, or_false] at h2
      rcases h2 with rfl | rfl | rfl | rfl <;> decide +kernel
    simp only [Lt.w]
    repeat decreasing_trivial_pre_omega
    refine ws_fcons rfl trivial ?_
    repeat decreasing_trivial_pre_omega
    refine wp_eq (isi_str TyB.str) ?_
    repeat decreasing_trivial_pre_omega
    refine ws_fcons rfl trivial ?_
    repeat decreasing_trivial_pre_omega
    refine wp_eq (isi_str TyB.int) ?_
    repeat decreasing_trivial_pre_omega
    refine wp_eq (isi_tup TyB.int) ?_
    repeat decreasing_trivial_pre_omega
    refine str_ok (by omega) ?_
    repeat decreasing_trivial_pre_omega
    refine ws_fnil rfl trivial ?_
    repeat decreasing_trivial_pre_omega
    refine Sw.v_joinL (ys := Lt.ps (.br z m)) sto_at jb ?_
    repeat decreasing_trivial_pre_omega

end Lw

namespace Lw
open PySem PySem.Spec PyProof.Rows L2 Sw
/-- one step; the goal's head says which -/
local macro_rules | `(tactic| decreasing_trivial_pre_omega) => `(tactic| first
  | ((with_reducible refine Sw.gWi ?_); first
    | with_reducible refine Sw.ws_ift ?_
    | with_reducible refine Sw.ws_iff ?_
    | with_reducible refine Sw.ws_ifn ?_
    | ((with_reducible refine Sw.ws_ifd1 ?_ ?_); (focus first | assumption | omega | (simp; done)))
    | ((with_reducible refine Sw.ws_ifd0 ?_ ?_); (focus first | assumption | omega | (simp; done)))
    | ((with_reducible refine Sw.ws_ifb1 ?_ ?_); (focus rfl))
    | ((with_reducible refine Sw.ws_ifb0 ?_ ?_); (focus rfl))
    )
  | ((with_reducible refine Sw.gW ?_); first
    | with_reducible refine Sw.ws_seqS ?_
    | with_reducible refine Sw.ws_ifS ?_
    | with_reducible refine Sw.ws_forN ?_
    | with_reducible refine Sw.ws_seq ?_
    | with_reducible refine Sw.ws_set ?_
    | with_reducible refine Sw.ws_if ?_
    | with_reducible refine Sw.ws_ret ?_
    | with_reducible refine Sw.ws_next ?_
    | with_reducible refine Sw.ws_drop ?_
    | with_reducible refine Sw.ws_for ?_
    | with_reducible refine Sw.ws_asg ?_
    | with_reducible refine Sw.ws_retN ?_
    | with_reducible refine Sw.ws_raise ?_
    | with_reducible refine Sw.ws_raiseD ?_
    | with_reducible refine Sw.ws_gN ?_
    | with_reducible refine Sw.ws_brk ?_
    | with_reducible refine Sw.ws_cnt ?_
    | ((with_reducible apply Sw.ws_aug); rfl)
    | with_reducible refine Sw.ws_gSub ?_
    | with_reducible refine Sw.ws_gsCons ?_
    | with_reducible refine Sw.ws_gsNil ?_
    | ((with_reducible apply Sw.ws_gsConsE); (focus rfl))
    | ((with_reducible apply Sw.ws_gsNilE); (focus rfl))
    | with_reducible refine Sw.ws_par2 ?_
    | with_reducible refine Sw.ws_par3 ?_
    | ((with_reducible refine Sw.ws_gTup ?_ ?_); (focus rfl))
    | ((with_reducible apply Sw.ws_gSeqN); (focus first | rfl | exact getS_at (by assumption) | exact getS_at sto_at | exact getS_at (sto_app (by assumption)) | exact getS_at (sto_app sto_at)); (focus first | rfl | decide | (simp; done) | (simp; omega)))
    | ((with_reducible apply Sw.ws_gStarN); (focus first | rfl | exact getS_at (by assumption) | exact getS_at sto_at | exact getS_at (sto_app (by assumption)) | exact getS_at (sto_app sto_at)); (focus first | decide | (simp; done) | (simp; omega)))
    )
  | ((with_reducible refine Sw.gI ?_); first
    | with_reducible refine Sw.wp_ift ?_
    | with_reducible refine Sw.wp_iff ?_
    | with_reducible refine Sw.wp_ifn ?_
    | ((with_reducible refine Sw.wp_ifd1 ?_ ?_); (focus first | assumption | omega | (simp; done)))
    | ((with_reducible refine Sw.wp_ifd0 ?_ ?_); (focus first | assumption | omega | (simp; done)))
    | ((with_reducible refine Sw.wp_ifb1 ?_ ?_); (focus rfl))
    | ((with_reducible refine Sw.wp_ifb0 ?_ ?_); (focus rfl))
    )
  | ((with_reducible refine Sw.gF ?_); first
    | ((with_reducible apply Sw.v_var); rfl)
    | with_reducible refine Sw.v_c ?_
    | with_reducible refine Sw.v_cons ?_
    | with_reducible refine Sw.v_nil ?_
    | ((with_reducible refine Sw.v_fn ?_))
    | with_reducible refine Sw.v_call ?_
    | ((with_reducible apply Sw.v_ask); (focus rfl); (focus rfl))
    | with_reducible refine Sw.v_bin ?_
    | with_reducible refine Sw.v_cmp ?_
    | with_reducible refine Sw.v_cmpE ?_
    | with_reducible refine Sw.v_tru ?_
    | with_reducible refine Sw.v_notT ?_
    | with_reducible refine Sw.v_andT ?_
    | with_reducible refine Sw.v_orT ?_
    | with_reducible refine Sw.v_and ?_
    | with_reducible refine Sw.v_or ?_
    | with_reducible refine Sw.v_not ?_
    | with_reducible refine Sw.v_if ?_
    | with_reducible refine Sw.v_chn ?_
    | with_reducible refine Sw.v_chnE ?_
    | with_reducible refine Sw.v_tup ?_
    | with_reducible refine Sw.v_lst ?_
    | with_reducible refine Sw.v_sl ?_
    | with_reducible refine Sw.v_no ?_
    | with_reducible refine Sw.v_so ?_
    | with_reducible refine Sw.v_neg ?_
    | with_reducible refine Sw.v_lc ?_
    | with_reducible refine Sw.v_it ?_
    | with_reducible refine Sw.v_seqI ?_
    | with_reducible refine Sw.v_mt ?_
    | with_reducible refine Sw.v_m1 ?_
    | with_reducible refine Sw.v_dict0 ?_
    | with_reducible refine Sw.v_it1 ?_
    )
  | ((with_reducible refine Sw.gO ?_); first
    | with_reducible refine Sw.v_ltI ?_
    | with_reducible refine Sw.v_leI ?_
    | with_reducible refine Sw.v_gtI ?_
    | with_reducible refine Sw.v_geI ?_
    | with_reducible refine Sw.v_eqI ?_
    | with_reducible refine Sw.v_neI ?_
    | with_reducible refine Sw.v_eqS ?_
    | with_reducible refine Sw.v_neS ?_
    | with_reducible refine Sw.v_truB ?_
    | with_reducible refine Sw.v_truI ?_
    | with_reducible refine Sw.v_truN ?_
    | with_reducible refine Sw.v_truT ?_
    | with_reducible refine Sw.v_seqT ?_
    | with_reducible refine Sw.v_seqR ?_
    | with_reducible refine Sw.v_seqS ?_
    | ((with_reducible apply Sw.v_seqL); (focus first | assumption | exact sto_at | exact sto_app (by assumption) | exact sto_app (sto_app (by assumption)) | exact sto_app sto_at | exact sto_app (sto_app sto_at)))
    | with_reducible refine Sw.v_inK ?_
    | with_reducible refine Sw.v_notInK ?_
    | ((with_reducible apply Sw.wp_opt); (focus rfl))
    )
  | ((with_reducible refine Sw.gE ?_); first
    | with_reducible refine Sw.wp_bind ?_
    | with_reducible refine Sw.wp_ok ?_
    | with_reducible refine Sw.v_addI ?_
    | with_reducible refine Sw.v_subI ?_
    | ((with_reducible refine Sw.v_mulI (.inl ?_) ?_); (focus first | decide | omega))
    | ((with_reducible refine Sw.v_mulT ?_ ?_); exact ⟨by simp, by decide, by decide, by simp⟩)
    | ((with_reducible apply Sw.v_mulL); (focus first | assumption | exact sto_at | exact sto_app (by assumption) | exact sto_app (sto_app (by assumption)) | exact sto_app sto_at | exact sto_app (sto_app sto_at)); (focus exact ⟨by decide, by decide, by simp⟩))
    | ((with_reducible refine Sw.v_modI ?_ ?_); (focus first | decide | omega))
    | ((with_reducible refine Sw.v_addT ?_ ?_); refine line1000 ?_; (focus first | decide | (simp; done) | (simp; omega)))
    | ((with_reducible apply Sw.v_powE); (focus decide +kernel); (focus (simp only [Int.reduceToNat, Int.reducePow]; rfl)))
    | ((with_reducible apply Sw.v_ixL); (first | assumption | exact sto_at | exact sto_app (by assumption) | exact sto_app (sto_app (by assumption)) | exact sto_app sto_at | exact sto_app (sto_app sto_at)); (focus first | rfl | assumption | exact atI_nat (by assumption) | exact Sw.atc0 | exact Sw.atc1 | exact Sw.atc2))
    | ((with_reducible apply Sw.v_ixT); (focus first | rfl | assumption | exact atI_nat (by assumption) | exact Sw.atc0 | exact Sw.atc1 | exact Sw.atc2))
    | ((with_reducible apply Sw.v_ixR); (focus first | rfl | assumption | exact atI_nat (by assumption) | exact Sw.atc0 | exact Sw.atc1 | exact Sw.atc2))
    | with_reducible refine Sw.v_slc1 ?_
    | with_reducible refine Sw.v_slc2 ?_
    | ((with_reducible apply Sw.v_slLt1); (focus first | assumption | exact sto_at | exact sto_app (by assumption) | exact sto_app (sto_app (by assumption)) | exact sto_app sto_at | exact sto_app (sto_app sto_at)))
    | ((with_reducible apply Sw.v_slLt2); (focus first | assumption | exact sto_at | exact sto_app (by assumption) | exact sto_app (sto_app (by assumption)) | exact sto_app sto_at | exact sto_app (sto_app sto_at)))
    | ((with_reducible apply Sw.v_slLd1); (focus first | assumption | exact sto_at | exact sto_app (by assumption) | exact sto_app (sto_app (by assumption)) | exact sto_app sto_at | exact sto_app (sto_app sto_at)))
    | ((with_reducible apply Sw.v_addL); (focus first | assumption | exact sto_at | exact sto_app (by assumption) | exact sto_app (sto_app (by assumption)) | exact sto_app sto_at | exact sto_app (sto_app sto_at)); (focus first | assumption | exact sto_at | exact sto_app (by assumption) | exact sto_app (sto_app (by assumption)) | exact sto_app sto_at | exact sto_app (sto_app sto_at)); (focus first | decide | (simp; done) | (simp; omega)))
    | with_reducible refine Sw.v_sortSet ?_
    | ((with_reducible refine Sw.v_sl0 ?_ ?_); (focus omega))
    | ((with_reducible refine Sw.v_sl1 ?_ ?_); (focus omega))
    | with_reducible refine Sw.v_lenT ?_
    | with_reducible refine Sw.v_lenR ?_
    | ((with_reducible apply Sw.v_lenL); (focus first | assumption | exact sto_at | exact sto_app (by assumption) | exact sto_app (sto_app (by assumption)) | exact sto_app sto_at | exact sto_app (sto_app sto_at)))
    | ((with_reducible apply Sw.v_appT); (focus first | decide | (simp; done) | (simp; omega)))
    | with_reducible refine Sw.v_intI ?_
    | with_reducible refine Sw.v_intB ?_
    | with_reducible refine Sw.v_absI ?_
    | with_reducible refine Sw.v_max2 ?_
    | with_reducible refine Sw.v_min2 ?_
    | with_reducible refine Sw.v_listT ?_
    | ((with_reducible apply Sw.v_listL); (focus first | assumption | exact sto_at | exact sto_app (by assumption) | exact sto_app (sto_app (by assumption)) | exact sto_app sto_at | exact sto_app (sto_app sto_at)))
    | with_reducible refine Sw.v_tupleT ?_
    | ((with_reducible apply Sw.v_tupleL); (focus first | assumption | exact sto_at | exact sto_app (by assumption) | exact sto_app (sto_app (by assumption)) | exact sto_app sto_at | exact sto_app (sto_app sto_at)))
    | ((with_reducible refine Sw.v_rng1 ?_ ?_); (focus first | exact ⟨by omega, by omega, by omega, by omega⟩ | decide))
    | ((with_reducible refine Sw.v_rng2 ?_ ?_); (focus first | exact ⟨by omega, by omega, by omega, by omega⟩ | decide))
    | with_reducible refine Sw.v_zipT ?_
    | with_reducible refine Sw.v_enumT ?_
    | ((with_reducible apply Sw.v_enumL); (focus first | assumption | exact sto_at | exact sto_app (by assumption) | exact sto_app (sto_app (by assumption)) | exact sto_app sto_at | exact sto_app (sto_app sto_at)))
    | with_reducible refine Sw.v_andI ?_
    | with_reducible refine Sw.v_orI ?_
    | ((with_reducible refine Sw.v_shrI ?_ ?_); decide)
    | ((with_reducible apply Sw.v_allL); (focus first | assumption | exact sto_at | exact sto_app (by assumption) | exact sto_app (sto_app (by assumption)) | exact sto_app sto_at | exact sto_app (sto_app sto_at)))
    | ((with_reducible apply Sw.v_anyL); (focus first | assumption | exact sto_at | exact sto_app (by assumption) | exact sto_app (sto_app (by assumption)) | exact sto_app sto_at | exact sto_app (sto_app sto_at)))
    | with_reducible refine Sw.v_addGI ?_
    | ((with_reducible refine Sw.v_addGT ?_ ?_); refine line1000 ?_; (focus first | decide | (simp; done) | (simp; omega)))
    | ((with_reducible apply Sw.v_ixK); (focus rfl))
    )
  | with_reducible refine ⟨_, rfl, ?_⟩
  | with_reducible refine ⟨_, _, rfl, ?_⟩
  | with_reducible refine ⟨_, _, _, rfl, ?_⟩
  | ((with_reducible refine And.intro ?_ ?_); (focus first | rfl | decide | exact isLst_at sto_at | exact isLst_at (by assumption) | exact isLst_at (sto_app sto_at) | exact isLst_at (sto_app (by assumption)) | (simp; done) | (simp; omega)))
  | exact ⟨[], (List.append_nil _).symm⟩
  | with_reducible rfl
  | with_reducible refine Sw.ex_app ?_
  | exact ⟨_, rfl⟩
  )
def Nt (b : Nat) (w : W) : Prop := ∃ k : Nat, w = .int k ∧ k ≤ b
def Drw (n : Nat) (st : Sto) (c : Int) (R : W → Prop) (w : W) (s : Sto) : Prop := R w ∧ Keep n st s ∧ Pot s n c
theorem wp_cleanD {F : FF} {args : List W} {n : Nat} {st : Sto} {c : Int} {R : W → Prop} {E : XE} (hn : n < st.length) (h : wp (F args st) (Drw n st c R) E) : wp (clean F args st) (Drw n st c R) E :=
  wp_clean h fun _ _ h _ _ => ⟨h.1, h.2.1.take, Sw.Pot.take' h.2.2 hn⟩
theorem entry_wp {st : Sto} {n many : Nat} {c : Int} (P : Pot st n c) (hc : c ≤ 10 ^ 12) (hm : 0 < many) (hm2 : many ≤ 100) : wp (f_law_entry [.ref n, .int many] st) (Drw n st (c + 6) (Nt 65535)) noX := by
  obtain ⟨w, o, h, h1, h2, h3⟩ := entry_ok P hc hm hm2
  exact wp_eq h ⟨h1, Keep.set, h3⟩
theorem v_ixZ {n : Nat} {l : List W} {i : Int} {st : Sto} {Q : W → Sto → Prop} {E : XE} (hs : st[n]? = some (.lst l)) (h0 : 0 ≤ i) (hi : i < l.length) (q : ∀ w ∈ l, Q w st) : wp (wIxA (.ref n) (.int i) st) Q E := by
  obtain ⟨k, rfl⟩ : ∃ k : Nat, i = k := ⟨i.toNat, by omega⟩
  exact Sw.v_ixM hs (by omega) q
theorem page_wp {st : Sto} {n many : Nat} {c : Int} (P : Pot st n c) (hc : c ≤ 10 ^ 9) (hm : 0 < many) (hm2 : many ≤ 100) : wp (f_law_page [.ref n, .int many] st) (Drw n st (c + 60) fun w => ∃ ns, w = .tup (wI8 ns) ∧ Pg ns) noX := by
  obtain ⟨ns, o, h, h1, h2, h3⟩ := pages1_ok P hc hm hm2
  exact wp_eq h ⟨⟨ns, rfl, h1⟩, Keep.set, h3⟩
theorem root_wp {st : Sto} {n many : Nat} {c : Int} (P : Pot st n c) (hc : c ≤ 10 ^ 9) (hm : 0 < many) (hm2 : many ≤ 100) : wp (f_law_root [.ref n, .int many] st) (Drw n st (c + 20) (Nt 4095)) noX := by
  have b8 := b800
  refine wp_cleanD P.lt (wp_run rfl ?_)
  unfold b_law_root
  repeat decreasing_trivial_pre_omega
  refine wp_use (take_wp P (by omega) (by omega) (by omega)) ?_
  rintro _ s1 ⟨v1, rfl, h1, K1, P1⟩
  have T1 : Keep n st s1 := K1
  have L1 : n < s1.length := P1.lt
  repeat decreasing_trivial_pre_omega
  refine wp_use (take_wp P1.app (by omega) (by omega) (by omega)) ?_
  rintro _ s2 ⟨v2, rfl, h2, K2, P2⟩
  have T2 : Keep n st s2 := T1.trans (Keep.app.trans K2)
  have L2 : n < s2.length := P2.lt
  refine Sw.v_ixM (K2.at sto_at (by omega)) (by simp; omega) fun far hf => ?_
  have hf : Nt 4095 far := by
    simp only [List.mem_cons, List.not_mem_nil, or_false] at hf
    rcases hf with rfl | rfl | rfl
    · exact ⟨many, rfl, by omega⟩
    · exact ⟨4095, rfl, by omega⟩
    · exact ⟨v1, rfl, by omega⟩
  obtain ⟨f, rfl, hf⟩ := hf
  repeat decreasing_trivial_pre_omega
  refine wp_use (take_wp P2 (by omega) (by omega) (by omega)) ?_
  rintro _ s3 ⟨v3, rfl, h3, K3, P3⟩
  have T3 : Keep n st s3 := T2.trans (K3)
  have L3 : n < s3.length := P3.lt
  repeat decreasing_trivial_pre_omega
  refine wp_use (take_wp P3 (by omega) (by omega) (by omega)) ?_
  rintro _ s4 ⟨v4, rfl, h4, K4, P4⟩
  have T4 : Keep n st s4 := T3.trans (K4)
  have L4 : n < s4.length := P4.lt
  repeat decreasing_trivial_pre_omega
  refine wp_use (take_wp P4.app (by omega) (by omega) (by omega)) ?_
  rintro _ s5 ⟨v5, rfl, h5, K5, P5⟩
  have T5 : Keep n st s5 := T4.trans (Keep.app.trans K5)
  have L5 : n < s5.length := P5.lt
  repeat decreasing_trivial_pre_omega
  refine Sw.v_fdivI ⟨by decide, by decide +kernel⟩ ?_
  repeat decreasing_trivial_pre_omega
  refine v_ixZ (K5.at sto_at (by omega)) (by split <;> omega) (by simp; split <;> omega) fun w hw => ?_
  refine ⟨?_, T5, P5.mono (by omega)⟩
  simp only [List.mem_cons, List.not_mem_nil, or_false] at hw
  rcases hw with rfl | rfl | rfl | rfl
  · exact ⟨v3, rfl, by omega⟩
  · exact ⟨v4, rfl, by omega⟩
  · exact ⟨0, rfl, by omega⟩
  · exact ⟨f, rfl, by omega⟩
theorem address_wp {st : Sto} {n : Nat} {c : Int} (P : Pot st n c) (hc : c ≤ 10 ^ 9) : wp (f_law_address [.ref n] st) (Drw n st (c + 20) (Nt 511)) noX := by
  have b8 := b800
  refine wp_cleanD P.lt (wp_run rfl ?_)
  unfold b_law_address
  repeat decreasing_trivial_pre_omega
  refine wp_use (take_wp P (by omega) (by omega) (by omega)) ?_
  rintro _ s1 ⟨v1, rfl, h1, K1, P1⟩
  have T1 : Keep n st s1 := K1
  have L1 : n < s1.length := P1.lt
  repeat decreasing_trivial_pre_omega
  refine wp_use (take_wp P1 (by omega) (by omega) (by omega)) ?_
  rintro _ s2 ⟨v2, rfl, h2, K2, P2⟩
  have T2 : Keep n st s2 := T1.trans (K2)
  have L2 : n < s2.length := P2.lt
  repeat decreasing_trivial_pre_omega
  refine wp_use (take_wp P2 (by omega) (by omega) (by omega)) ?_
  rintro _ s3 ⟨v3, rfl, h3, K3, P3⟩
  have T3 : Keep n st s3 := T2.trans (K3)
  have L3 : n < s3.length := P3.lt
  repeat decreasing_trivial_pre_omega
  refine wp_use (take_wp P3.app (by omega) (by omega) (by omega)) ?_
  rintro _ s4 ⟨v4, rfl, h4, K4, P4⟩
  have T4 : Keep n st s4 := T3.trans (Keep.app.trans K4)
  have L4 : n < s4.length := P4.lt
  repeat decreasing_trivial_pre_omega
  refine Sw.v_fdivI ⟨by decide, by decide +kernel⟩ ?_
  repeat decreasing_trivial_pre_omega
  refine wp_use (take_wp P4 (by omega) (by omega) (by omega)) ?_
  rintro _ s5 ⟨v5, rfl, h5, K5, P5⟩
  have T5 : Keep n st s5 := T4.trans (K5)
  have L5 : n < s5.length := P5.lt
  repeat decreasing_trivial_pre_omega
  have hk : s5[s3.length]? = some (.lst [.int v3, .int ((v1 : Int) * 8 + v2), .int 511, .int 0]) := K5.at (K4.at sto_at (by omega)) (by omega)
  have hz : (0 : Int) ≤ (if decide ((v5 : Int) = 0) = true then 1 else 0) ∧ (if decide ((v5 : Int) = 0) = true then 1 else 0 : Int) ≤ 1 := by split <;> omega
  refine v_ixZ hk (by omega) (by simp only [List.length_cons, List.length_nil]; omega) fun w hw => ?_
  refine ⟨?_, T5, P5.mono (by omega)⟩
  simp only [List.mem_cons, List.not_mem_nil, or_false] at hw
  rcases hw with rfl | rfl | rfl | rfl
  · exact ⟨v3, rfl, by omega⟩
  · exact ⟨v1 * 8 + v2, by simp, by omega⟩
  · exact ⟨511, rfl, by omega⟩
  · exact ⟨0, rfl, by omega⟩
theorem count_wp {st : Sto} {n : Nat} {c : Int} (P : Pot st n c) (hc : c ≤ 10 ^ 9) : wp (f_law_count [.ref n] st) (Drw n st (c + 20) fun w => ∃ k : Nat, w = .int k ∧ 1 ≤ k ∧ k ≤ 10 ^ 39) noX := by
  have b8 := b800
  have b31 : (1000000000000000000000000000000 : Int) < 10 ^ 800 := by decide +kernel
  have c30 : (10 : Int) ^ 30 = 1000000000000000000000000000000 := by decide +kernel
  have b30 : (0 : Int) < 10 ^ 30 := by decide +kernel
  refine wp_cleanD P.lt (wp_run rfl ?_)
  unfold b_law_count
  repeat decreasing_trivial_pre_omega
  refine wp_use (take_wp P (by omega) (by omega) (by omega)) ?_
  rintro _ s1 ⟨v1, rfl, h1, K1, P1⟩
  have T1 : Keep n st s1 := K1
  have L1 : n < s1.length := P1.lt
  repeat decreasing_trivial_pre_omega
  refine wp_use (take_wp P1 (by omega) (by omega) (by omega)) ?_
  rintro _ s2 ⟨v2, rfl, h2, K2, P2⟩
  have T2 : Keep n st s2 := T1.trans (K2)
  have L2 : n < s2.length := P2.lt
  repeat decreasing_trivial_pre_omega
  refine wp_use (take_wp P2 (by omega) (by omega) b31) ?_
  rintro _ s3 ⟨v3, rfl, h3, K3, P3⟩
  have T3 : Keep n st s3 := T2.trans (K3)
  have L3 : n < s3.length := P3.lt
  repeat decreasing_trivial_pre_omega
  refine wp_use (take_wp P3.app (by omega) (by omega) (by omega)) ?_
  rintro _ s4 ⟨v4, rfl, h4, K4, P4⟩
  have T4 : Keep n st s4 := T3.trans (Keep.app.trans K4)
  have L4 : n < s4.length := P4.lt
  refine Sw.v_ixM (K4.at sto_at (by omega)) (by simp; omega) fun w hw => ?_
  have hw : ∃ k : Nat, w = .int k ∧ (k : Int) < 10 ^ 30 := by
    simp only [List.mem_cons, List.not_mem_nil, or_false] at hw
    have b6 : (1000000 : Int) ≤ 10 ^ 30 := by decide +kernel
    rcases hw with rfl | rfl | rfl
    · exact ⟨v1, rfl, by omega⟩
    · exact ⟨v2, rfl, by omega⟩
    · exact ⟨v3, rfl, by rw [c30]; exact h3⟩
  obtain ⟨k, rfl, hk⟩ := hw
  repeat decreasing_trivial_pre_omega
  have b9 : (10 : Int) ^ 30 + 1 ≤ ((10 ^ 39 : Nat) : Int) := by decide +kernel
  exact ⟨⟨1 + k, by simp, by omega, by omega⟩, T4, P4.mono (by omega)⟩
theorem deed_wp {st : Sto} {n many : Nat} {c : Int} (P : Pot st n c) (hc : c ≤ 10 ^ 8) (hm : 0 < many) (hm2 : many ≤ 100) : wp (f_law_deed [.ref n, .int many] st) (Drw n st (c + 50) fun w => ∃ d : Dd, d.ok ∧ w = d.w) noX := by
  have b8 := b800
  refine wp_cleanD P.lt (wp_run rfl ?_)
  unfold b_law_deed
  repeat decreasing_trivial_pre_omega
  refine wp_use (take_wp P (by omega) (by omega) (by omega)) ?_
  rintro _ s1 ⟨v1, rfl, h1, K1, P1⟩
  have T1 : Keep n st s1 := K1
  have L1 : n < s1.length := P1.lt
  by_cases z1 : (v1 : Int) < 7
  · repeat decreasing_trivial_pre_omega
    refine wp_use (address_wp P1 (by omega)) ?_
    rintro _ s2 ⟨⟨a, rfl, ha⟩, K2, P2⟩
    have T2 : Keep n st s2 := T1.trans (K2)
    have L2 : n < s2.length := P2.lt
    repeat decreasing_trivial_pre_omega
    exact ⟨⟨.ld a, ha, rfl⟩, T2, P2.mono (by omega)⟩
  by_cases z2 : (v1 : Int) < 14
  · repeat decreasing_trivial_pre_omega
    refine wp_use (entry_wp P1 (by omega) hm hm2) ?_
    rintro _ s2 ⟨⟨x2, rfl, g2⟩, K2, P2⟩
    have T2 : Keep n st s2 := T1.trans (K2)
    have L2 : n < s2.length := P2.lt
    repeat decreasing_trivial_pre_omega
    refine wp_use (entry_wp P2 (by omega) hm hm2) ?_
    rintro _ s3 ⟨⟨x3, rfl, g3⟩, K3, P3⟩
    have T3 : Keep n st s3 := T2.trans (K3)
    have L3 : n < s3.length := P3.lt
    repeat decreasing_trivial_pre_omega
    refine wp_use (take_wp P3.app (by omega) (by omega) (by omega)) ?_
    rintro _ s4 ⟨v4, rfl, h4, K4, P4⟩
    have T4 : Keep n st s4 := T3.trans (Keep.app.trans K4)
    have L4 : n < s4.length := P4.lt
    repeat decreasing_trivial_pre_omega
    refine wp_use (take_wp P4 (by omega) (by omega) (by omega)) ?_
    rintro _ s5 ⟨v5, rfl, h5, K5, P5⟩
    have T5 : Keep n st s5 := T4.trans (K5)
    have L5 : n < s5.length := P5.lt
    repeat decreasing_trivial_pre_omega
    have e5 : s5[s3.length]? = some (.lst [.int x2, .int x3]) := K5.at (K4.at sto_at (by omega)) (by omega)
    refine Sw.v_addL (sto_app e5) sto_at (by simp) ?_
    repeat decreasing_trivial_pre_omega
    refine wp_use (address_wp P5.app.app (by omega)) ?_
    rintro _ s6 ⟨⟨a, rfl, ha⟩, K6, P6⟩
    have T6 : Keep n st s6 := T5.trans (Keep.app.trans (Keep.app.trans K6))
    have L6 : n < s6.length := P6.lt
    repeat decreasing_trivial_pre_omega
    refine wp_use (take_wp P6 (by omega) (by omega) (by omega)) ?_
    rintro _ s7 ⟨v7, rfl, h7, K7, P7⟩
    have T7 : Keep n st s7 := T6.trans (K7)
    have L7 : n < s7.length := P7.lt
    have e6 : s6[(s5 ++ [Ob.lst [W.int v4, W.int v5]]).length]? = some (.lst ([W.int x2, W.int x3] ++ [W.int v4, W.int v5])) := K6.at sto_at (by simp; omega)
    refine Sw.v_ixM (K7.at e6 (by simp; omega)) (by simp; omega) fun w hw => ?_
    have hw : Nt 65535 w := by
      simp only [List.cons_append, List.nil_append, List.mem_cons, List.not_mem_nil, or_false] at hw
      rcases hw with rfl | rfl | rfl | rfl
      · exact ⟨x2, rfl, by omega⟩
      · exact ⟨x3, rfl, by omega⟩
      · exact ⟨v4, rfl, by omega⟩
      · exact ⟨v5, rfl, by omega⟩
    obtain ⟨k, rfl, hk⟩ := hw
    repeat decreasing_trivial_pre_omega
    exact ⟨⟨.st a k, ⟨ha, hk⟩, rfl⟩, T7, P7.mono (by omega)⟩
  by_cases z3 : (v1 : Int) = 14
  · repeat decreasing_trivial_pre_omega
    refine wp_use (root_wp P1 (by omega) hm hm2) ?_
    rintro _ s2 ⟨⟨a, rfl, ha⟩, K2, P2⟩
    have T2 : Keep n st s2 := T1.trans (K2)
    have L2 : n < s2.length := P2.lt
    repeat decreasing_trivial_pre_omega
    exact ⟨⟨.tn a, ha, rfl⟩, T2, P2.mono (by omega)⟩
  · repeat decreasing_trivial_pre_omega
    refine wp_use (take_wp P1 (by omega) (by omega) (by omega)) ?_
    rintro _ s2 ⟨v2, rfl, h2, K2, P2⟩
    have T2 : Keep n st s2 := T1.trans (K2)
    have L2 : n < s2.length := P2.lt
    repeat decreasing_trivial_pre_omega
    refine wp_use (take_wp P2 (by omega) (by omega) (by omega)) ?_
    rintro _ s3 ⟨v3, rfl, h3, K3, P3⟩
    have T3 : Keep n st s3 := T2.trans (K3)
    have L3 : n < s3.length := P3.lt
    repeat decreasing_trivial_pre_omega
    refine wp_use (take_wp P3.app (by omega) (by omega) (by omega)) ?_
    rintro _ s4 ⟨v4, rfl, h4, K4, P4⟩
    have T4 : Keep n st s4 := T3.trans (Keep.app.trans K4)
    have L4 : n < s4.length := P4.lt
    repeat decreasing_trivial_pre_omega
    refine Sw.v_fdivI ⟨by decide, by decide +kernel⟩ ?_
    repeat decreasing_trivial_pre_omega
    refine v_ixZ (K4.at sto_at (by omega)) (by omega) (by simp only [List.length_cons, List.length_nil]; omega) fun w hw => ?_
    have hw : Nt 4095 w := by
      simp only [List.mem_cons, List.not_mem_nil, or_false] at hw
      rcases hw with rfl | rfl | rfl
      · exact ⟨v2, rfl, by omega⟩
      · exact ⟨v3, rfl, by omega⟩
      · exact ⟨4095, rfl, by omega⟩
    obtain ⟨k, rfl, hk⟩ := hw
    repeat decreasing_trivial_pre_omega
    exact ⟨⟨.gv k, hk, rfl⟩, T4, P4.mono (by omega)⟩

end Lw

namespace Lw
open PySem PySem.Spec PyProof.Rows L2 Sw
/-- one step; the goal's head says which -/
local macro_rules | `(tactic| decreasing_trivial_pre_omega) => `(tactic| first
  | ((with_reducible refine Sw.gWi ?_); first
    | with_reducible refine Sw.ws_ift ?_
    | with_reducible refine Sw.ws_iff ?_
    | with_reducible refine Sw.ws_ifn ?_
    | ((with_reducible refine Sw.ws_ifd1 ?_ ?_); (focus first | assumption | omega | (simp; done)))
    | ((with_reducible refine Sw.ws_ifd0 ?_ ?_); (focus first | assumption | omega | (simp; done)))
    | ((with_reducible refine Sw.ws_ifb1 ?_ ?_); (focus rfl))
    | ((with_reducible refine Sw.ws_ifb0 ?_ ?_); (focus rfl))
    )
  | ((with_reducible refine Sw.gW ?_); first
    | with_reducible refine Sw.ws_seqS ?_
    | with_reducible refine Sw.ws_ifS ?_
    | with_reducible refine Sw.ws_forN ?_
    | with_reducible refine Sw.ws_seq ?_
    | with_reducible refine Sw.ws_set ?_
    | with_reducible refine Sw.ws_if ?_
    | with_reducible refine Sw.ws_ret ?_
    | with_reducible refine Sw.ws_next ?_
    | with_reducible refine Sw.ws_drop ?_
    | with_reducible refine Sw.ws_for ?_
    | with_reducible refine Sw.ws_asg ?_
    | with_reducible refine Sw.ws_retN ?_
    | with_reducible refine Sw.ws_raise ?_
    | with_reducible refine Sw.ws_raiseD ?_
    | with_reducible refine Sw.ws_gN ?_
    | with_reducible refine Sw.ws_brk ?_
    | with_reducible refine Sw.ws_cnt ?_
    | ((with_reducible apply Sw.ws_aug); rfl)
    | with_reducible refine Sw.ws_gSub ?_
    | with_reducible refine Sw.ws_gsCons ?_
    | with_reducible refine Sw.ws_gsNil ?_
    | ((with_reducible apply Sw.ws_gsConsE); (focus rfl))
    | ((with_reducible apply Sw.ws_gsNilE); (focus rfl))
    | with_reducible refine Sw.ws_par2 ?_
    | with_reducible refine Sw.ws_par3 ?_
    | ((with_reducible refine Sw.ws_gTup ?_ ?_); (focus rfl))
    | ((with_reducible apply Sw.ws_gSeqN); (focus first | rfl | exact getS_at (by assumption) | exact getS_at sto_at | exact getS_at (sto_app (by assumption)) | exact getS_at (sto_app sto_at)); (focus first | rfl | decide | (simp; done) | (simp; omega)))
    | ((with_reducible apply Sw.ws_gStarN); (focus first | rfl | exact getS_at (by assumption) | exact getS_at sto_at | exact getS_at (sto_app (by assumption)) | exact getS_at (sto_app sto_at)); (focus first | decide | (simp; done) | (simp; omega)))
    )
  | ((with_reducible refine Sw.gI ?_); first
    | with_reducible refine Sw.wp_ift ?_
    | with_reducible refine Sw.wp_iff ?_
    | with_reducible refine Sw.wp_ifn ?_
    | ((with_reducible refine Sw.wp_ifd1 ?_ ?_); (focus first | assumption | omega | (simp; done)))
    | ((with_reducible refine Sw.wp_ifd0 ?_ ?_); (focus first | assumption | omega | (simp; done)))
    | ((with_reducible refine Sw.wp_ifb1 ?_ ?_); (focus rfl))
    | ((with_reducible refine Sw.wp_ifb0 ?_ ?_); (focus rfl))
    )
  | ((with_reducible refine Sw.gF ?_); first
    | ((with_reducible apply Sw.v_var); rfl)
    | with_reducible refine Sw.v_c ?_
    | with_reducible refine Sw.v_cons ?_
    | with_reducible refine Sw.v_nil ?_
    | ((with_reducible refine Sw.v_fn ?_))
    | with_reducible refine Sw.v_call ?_
    | ((with_reducible apply Sw.v_ask); (focus rfl); (focus rfl))
    | with_reducible refine Sw.v_bin ?_
    | with_reducible refine Sw.v_cmp ?_
    | with_reducible refine Sw.v_cmpE ?_
    | with_reducible refine Sw.v_tru ?_
    | with_reducible refine Sw.v_notT ?_
    | with_reducible refine Sw.v_andT ?_
    | with_reducible refine Sw.v_orT ?_
    | with_reducible refine Sw.v_and ?_
    | with_reducible refine Sw.v_or ?_
    | with_reducible refine Sw.v_not ?_
    | with_reducible refine Sw.v_if ?_
    | with_reducible refine Sw.v_chn ?_
    | with_reducible refine Sw.v_chnE ?_
    | with_reducible refine Sw.v_tup ?_
    | with_reducible refine Sw.v_lst ?_
    | with_reducible refine Sw.v_sl ?_
    | with_reducible refine Sw.v_no ?_
    | with_reducible refine Sw.v_so ?_
    | with_reducible refine Sw.v_neg ?_
    | with_reducible refine Sw.v_lc ?_
    | with_reducible refine Sw.v_it ?_
    | with_reducible refine Sw.v_seqI ?_
    | with_reducible refine Sw.v_mt ?_
    | with_reducible refine Sw.v_m1 ?_
    | with_reducible refine Sw.v_dict0 ?_
    | with_reducible refine Sw.v_it1 ?_
    )
  | ((with_reducible refine Sw.gO ?_); first
    | with_reducible refine Sw.v_ltI ?_
    | with_reducible refine Sw.v_leI ?_
    | with_reducible refine Sw.v_gtI ?_
    | with_reducible refine Sw.v_geI ?_
    | with_reducible refine Sw.v_eqI ?_
    | with_reducible refine Sw.v_neI ?_
    | with_reducible refine Sw.v_eqS ?_
    | with_reducible refine Sw.v_neS ?_
    | with_reducible refine Sw.v_truB ?_
    | with_reducible refine Sw.v_truI ?_
    | with_reducible refine Sw.v_truN ?_
    | with_reducible refine Sw.v_truT ?_
    | with_reducible refine Sw.v_seqT ?_
    | with_reducible refine Sw.v_seqR ?_
    | with_reducible refine Sw.v_seqS ?_
    | ((with_reducible apply Sw.v_seqL); (focus first | assumption | exact sto_at | exact sto_app (by assumption) | exact sto_app (sto_app (by assumption)) | exact sto_app sto_at | exact sto_app (sto_app sto_at)))
    | with_reducible refine Sw.v_inK ?_
    | with_reducible refine Sw.v_notInK ?_
    | ((with_reducible apply Sw.wp_opt); (focus rfl))
    )
  | ((with_reducible refine Sw.gE ?_); first
    | with_reducible refine Sw.wp_bind ?_
    | with_reducible refine Sw.wp_ok ?_
    | with_reducible refine Sw.v_addI ?_
    | with_reducible refine Sw.v_subI ?_
    | ((with_reducible refine Sw.v_mulI (.inl ?_) ?_); (focus first | decide | omega))
    | ((with_reducible refine Sw.v_mulT ?_ ?_); exact ⟨by simp, by decide, by decide, by simp⟩)
    | ((with_reducible apply Sw.v_mulL); (focus first | assumption | exact sto_at | exact sto_app (by assumption) | exact sto_app (sto_app (by assumption)) | exact sto_app sto_at | exact sto_app (sto_app sto_at)); (focus exact ⟨by decide, by decide, by simp⟩))
    | ((with_reducible refine Sw.v_modI ?_ ?_); (focus first | decide | omega))
    | ((with_reducible refine Sw.v_addT ?_ ?_); refine line1000 ?_; (focus first | decide | (simp; done) | (simp; omega)))
    | ((with_reducible apply Sw.v_powE); (focus decide +kernel); (focus (simp only [Int.reduceToNat, Int.reducePow]; rfl)))
    | ((with_reducible apply Sw.v_ixL); (first | assumption | exact sto_at | exact sto_app (by assumption) | exact sto_app (sto_app (by assumption)) | exact sto_app sto_at | exact sto_app (sto_app sto_at)); (focus first | rfl | assumption | exact atI_nat (by assumption) | exact Sw.atc0 | exact Sw.atc1 | exact Sw.atc2))
    | ((with_reducible apply Sw.v_ixT); (focus first | rfl | assumption | exact atI_nat (by assumption) | exact Sw.atc0 | exact Sw.atc1 | exact Sw.atc2))
    | ((with_reducible apply Sw.v_ixR); (focus first | rfl | assumption | exact atI_nat (by assumption) | exact Sw.atc0 | exact Sw.atc1 | exact Sw.atc2))
    | with_reducible refine Sw.v_slc1 ?_
    | with_reducible refine Sw.v_slc2 ?_
    | ((with_reducible apply Sw.v_slLt1); (focus first | assumption | exact sto_at | exact sto_app (by assumption) | exact sto_app (sto_app (by assumption)) | exact sto_app sto_at | exact sto_app (sto_app sto_at)))
    | ((with_reducible apply Sw.v_slLt2); (focus first | assumption | exact sto_at | exact sto_app (by assumption) | exact sto_app (sto_app (by assumption)) | exact sto_app sto_at | exact sto_app (sto_app sto_at)))
    | ((with_reducible apply Sw.v_slLd1); (focus first | assumption | exact sto_at | exact sto_app (by assumption) | exact sto_app (sto_app (by assumption)) | exact sto_app sto_at | exact sto_app (sto_app sto_at)))
    | ((with_reducible apply Sw.v_addL); (focus first | assumption | exact sto_at | exact sto_app (by assumption) | exact sto_app (sto_app (by assumption)) | exact sto_app sto_at | exact sto_app (sto_app sto_at)); (focus first | assumption | exact sto_at | exact sto_app (by assumption) | exact sto_app (sto_app (by assumption)) | exact sto_app sto_at | exact sto_app (sto_app sto_at)); (focus first | decide | (simp; done) | (simp; omega)))
    | with_reducible refine Sw.v_sortSet ?_
    | ((with_reducible refine Sw.v_sl0 ?_ ?_); (focus omega))
    | ((with_reducible refine Sw.v_sl1 ?_ ?_); (focus omega))
    | with_reducible refine Sw.v_lenT ?_
    | with_reducible refine Sw.v_lenR ?_
    | ((with_reducible apply Sw.v_lenL); (focus first | assumption | exact sto_at | exact sto_app (by assumption) | exact sto_app (sto_app (by assumption)) | exact sto_app sto_at | exact sto_app (sto_app sto_at)))
    | ((with_reducible apply Sw.v_appT); (focus first | decide | (simp; done) | (simp; omega)))
    | with_reducible refine Sw.v_intI ?_
    | with_reducible refine Sw.v_intB ?_
    | with_reducible refine Sw.v_absI ?_
    | with_reducible refine Sw.v_max2 ?_
    | with_reducible refine Sw.v_min2 ?_
    | with_reducible refine Sw.v_listT ?_
    | ((with_reducible apply Sw.v_listL); (focus first | assumption | exact sto_at | exact sto_app (by assumption) | exact sto_app (sto_app (by assumption)) | exact sto_app sto_at | exact sto_app (sto_app sto_at)))
    | with_reducible refine Sw.v_tupleT ?_
    | ((with_reducible apply Sw.v_tupleL); (focus first | assumption | exact sto_at | exact sto_app (by assumption) | exact sto_app (sto_app (by assumption)) | exact sto_app sto_at | exact sto_app (sto_app sto_at)))
    | ((with_reducible refine Sw.v_rng1 ?_ ?_); (focus first | exact ⟨by omega, by omega, by omega, by omega⟩ | decide))
    | ((with_reducible refine Sw.v_rng2 ?_ ?_); (focus first | exact ⟨by omega, by omega, by omega, by omega⟩ | decide))
    | with_reducible refine Sw.v_zipT ?_
    | with_reducible refine Sw.v_enumT ?_
    | ((with_reducible apply Sw.v_enumL); (focus first | assumption | exact sto_at | exact sto_app (by assumption) | exact sto_app (sto_app (by assumption)) | exact sto_app sto_at | exact sto_app (sto_app sto_at)))
    | with_reducible refine Sw.v_andI ?_
    | with_reducible refine Sw.v_orI ?_
    | ((with_reducible refine Sw.v_shrI ?_ ?_); decide)
    | ((with_reducible apply Sw.v_allL); (focus first | assumption | exact sto_at | exact sto_app (by assumption) | exact sto_app (sto_app (by assumption)) | exact sto_app sto_at | exact sto_app (sto_app sto_at)))
    | ((with_reducible apply Sw.v_anyL); (focus first | assumption | exact sto_at | exact sto_app (by assumption) | exact sto_app (sto_app (by assumption)) | exact sto_app sto_at | exact sto_app (sto_app sto_at)))
    | with_reducible refine Sw.v_addGI ?_
    | ((with_reducible refine Sw.v_addGT ?_ ?_); refine line1000 ?_; (focus first | decide | (simp; done) | (simp; omega)))
    | ((with_reducible apply Sw.v_ixK); (focus rfl))
    )
  | with_reducible refine ⟨_, rfl, ?_⟩
  | with_reducible refine ⟨_, _, rfl, ?_⟩
  | with_reducible refine ⟨_, _, _, rfl, ?_⟩
  | ((with_reducible refine And.intro ?_ ?_); (focus first | rfl | decide | exact isLst_at sto_at | exact isLst_at (by assumption) | exact isLst_at (sto_app sto_at) | exact isLst_at (sto_app (by assumption)) | (simp; done) | (simp; omega)))
  | exact ⟨[], (List.append_nil _).symm⟩
  | with_reducible rfl
  | with_reducible refine Sw.ex_app ?_
  | exact ⟨_, rfl⟩
  )
theorem v_yes {env : En} {st : Sto} {Q : Bool → Sto → Prop} {E : XE} (q : Q true st) : wp (fYes env st) Q E := q
theorem v_truL {n : Nat} {l : List W} {st : Sto} {Q : Bool → Sto → Prop} {E : XE} (hs : st[n]? = some (.lst l)) (q : Q (!l.isEmpty) st) : wp (optB (truW st (.ref n)) st) Q E := wp_opt (by simp only [truW, hs]) q
theorem okR_nat {k : Nat} (h : k ≤ 1000000) : okR 0 (k : Int) := by
  unfold okR
  omega
/-- the counts a letter draws -/
theorem counts_wp {s : Sto} {n k i : Nat} {c : Int} {env : En} {Q : Unit → Sto → Prop} {E : XE} (P : Pot s n c) (hc : c ≤ 10 ^ 8) (hk : k ≤ 16) (h0 : env[0]? = some (some (.ref n))) (hi : i ≠ 0) (hi2 : i < env.length)
    (q : ∀ cs s', cs.length = k → (∀ x ∈ cs, 1 ≤ x ∧ x ≤ 10 ^ 39) → Keep n s s' → Pot s' n (c + 320) → s'[s.length]? = some (.lst (wI8 cs)) → Q () s') :
    wp (lcS none (bN i) fYes (fFn 1 f_law_count (fCons (fVar 0) fNil)) s.length env (rngW 0 (k : Int)) (s ++ [.lst []])) Q E := by
  refine Sw.v_lcS (fun r acc s' => ∃ cs c', acc = wI8 cs ∧ (∀ x ∈ cs, 1 ≤ x ∧ x ≤ 10 ^ 39) ∧ cs.length + r.length = k ∧ Keep n s s' ∧ Pot s' n c' ∧ c' + 20 * (r.length : Int) ≤ c + 320 ∧ s'[s.length]? = some (.lst acc)) ⟨[], c, rfl, by simp, by rw [rngW_length]; simp, Keep.app, P.app, by rw [rngW_length]; omega, sto_at⟩ ?_ ?_
  · rintro w r acc s' ⟨cs, c', rfl, hc2, hl, K, P, hb, hs⟩
    simp only [List.length_cons] at hl hb
    push_cast at hb
    refine ⟨trivial, _, rfl, ?_⟩
    refine v_yes ?_
    rw [if_pos rfl]
    refine Sw.v_fn (Sw.v_cons (Sw.v_var (w := .ref n) (by rw [List.getElem?_set_ne hi]; exact h0) (Sw.v_nil ⟨rfl, ?_⟩)))
    refine wp_use (count_wp P (by omega)) ?_
    rintro _ s2 ⟨⟨x, rfl, hx⟩, K2, P2⟩
    have hn : n < s.length := by have := P.lt; have := ‹Pot s n c›.lt; omega
    have e2 := K2.at hs (by omega)
    have L : s.length < s2.length := sto_lt e2
    refine ⟨e2, by simp [wI8]; omega, cs ++ [x], c' + 20, by simp [wI8], fun y hy => ?_, by simp; omega, (K.trans K2).above (Nat.le_refl _), P2.at' (by omega), by omega, set_at L⟩
    rcases List.mem_append.mp hy with hy | hy
    · exact hc2 y hy
    · rw [List.mem_singleton.mp hy]; exact hx
  · rintro acc s' ⟨cs, c', rfl, hc2, hl, K, P, hb, hs⟩
    simp only [List.length_nil] at hl hb
    exact ⟨trivial, q cs s' (by simpa using hl) hc2 K (P.mono (by omega)) hs⟩
def rI (k : Nat) : List W := wI8 (List.range' k (16 - k))
theorem rI_cons {k : Nat} {w : W} {r : List W} (h : w :: r = rI k) : k < 16 ∧ w = .int k ∧ r = rI (k + 1) := by
  by_cases hk : k < 16
  · have e : 16 - k = (16 - (k + 1)) + 1 := by omega
    unfold rI at h
    rw [e, List.range'_succ] at h
    obtain ⟨a, b⟩ := List.cons.inj h
    exact ⟨hk, a, b⟩
  · unfold rI at h
    rw [show 16 - k = 0 by omega] at h
    cases h
theorem rise_nat {ns : List Nat} (h : ns.Pairwise (· < ·)) : riseW (wI8 ns) = true := by
  have e : wI8 ns = (ns.map fun n : Nat => (n : Int)).map W.int := by simp [wI8]
  rw [e, pw_rise, decide_eq_true_eq, List.pairwise_map]
  exact h.imp fun h => by omega
theorem pw_len : ∀ {k : Nat} {ns : List Nat}, ns.Pairwise (· < ·) → (∀ x ∈ ns, x < k) → ns.length ≤ k := by
  intro k ns hp hx
  have h := List.Nodup.length_le_of_subset (l₁ := ns) (l₂ := List.range k) (hp.imp fun h => Nat.ne_of_lt h) fun x h => List.mem_range.mpr (hx x h)
  simpa using h
theorem lack_wp {s : Sto} {n i : Nat} {c : Int} {env : En} {Q : Unit → Sto → Prop} {E : XE} (P : Pot s n c) (hc : c ≤ 10 ^ 8) (h0 : env[0]? = some (some (.ref n))) (hi : i ≠ 0) (hi2 : i < env.length)
    (q : ∀ ns s', ns.Pairwise (· < ·) → (∀ x ∈ ns, x ≤ 15) → Keep n s s' → Pot s' n (c + 16) → s'[s.length]? = some (.lst (wI8 ns)) → Q () s') :
    wp (lcS none (bN i) (fCmp wGt (fFn 2 f_law_take (fCons (fVar 0) (fCons (fC (.int 3)) fNil))) (fC (.int 0))) (fVar i) s.length env (rngW 0 16) (s ++ [.lst []])) Q E := by
  have b8 := b800
  refine Sw.v_lcS (fun r acc s' => ∃ ns c' k, acc = wI8 ns ∧ r = rI k ∧ k ≤ 16 ∧ ns.Pairwise (· < ·) ∧ (∀ x ∈ ns, x < k) ∧ Keep n s s' ∧ Pot s' n c' ∧ c' + (16 - k : Nat) ≤ c + 16 ∧ s'[s.length]? = some (.lst acc)) ⟨[], c, 0, rfl, rfl, by omega, List.Pairwise.nil, by simp, Keep.app, P.app, by omega, sto_at⟩ ?_ ?_
  · rintro w r acc s' ⟨ns, c', k, rfl, hr, hk, hp, hx, K, P', hb, hs⟩
    obtain ⟨hk, rfl, rfl⟩ := rI_cons hr
    refine ⟨trivial, _, rfl, ?_⟩
    refine Sw.v_cmp (Sw.v_fn (Sw.v_cons (Sw.v_var (w := .ref n) (by rw [List.getElem?_set_ne hi]; exact h0) ?_)))
    repeat decreasing_trivial_pre_omega
    refine wp_use (take_wp P' (by omega) (by omega) (by omega)) ?_
    rintro _ s2 ⟨v, rfl, hv, K2, P2⟩
    have hn : n < s.length := P.lt
    have e2 := K2.at hs (by omega)
    have L : s.length < s2.length := sto_lt e2
    repeat decreasing_trivial_pre_omega
    by_cases z : (0 : Int) < v
    · rw [if_pos (decide_eq_true z)]
      refine Sw.v_var (List.getElem?_set_self hi2) ?_
      refine ⟨e2, ?_, ns ++ [k], c' + 1, k + 1, by simp [wI8], rfl, by omega, ?_, fun y hy => ?_, (K.trans K2).above (Nat.le_refl _), P2.at' (by omega), by omega, set_at L⟩
      · have : ns.length ≤ 16 := by
          have h2 := pw_len hp hx
          omega
        simp [wI8]
        omega
      · rw [List.pairwise_append]
        refine ⟨hp, List.pairwise_singleton _ _, fun a ha b hb => ?_⟩
        rw [List.mem_singleton.mp hb]
        exact hx a ha
      · rcases List.mem_append.mp hy with hy | hy
        · have := hx y hy; omega
        · rw [List.mem_singleton.mp hy]; omega
    · rw [if_neg (by simpa using z)]
      exact ⟨ns, c' + 1, k + 1, rfl, rfl, by omega, hp, fun y hy => by have := hx y hy; omega, K.trans K2, P2, by omega, e2⟩
  · rintro acc s' ⟨ns, c', k, rfl, hr, hk, hp, hx, K, P', hb, hs⟩
    exact ⟨trivial, q ns s' hp (fun y hy => by have := hx y hy; omega) K (P'.mono (by omega)) hs⟩
theorem letter_wp {st : Sto} {n many : Nat} {c : Int} (P : Pot st n c) (hc : c ≤ 10 ^ 7) (hm : 0 < many) (hm2 : many ≤ 100) : wp (f_law_letter [.ref n, .int many] st) (Drw n st (c + 1000) fun w => ∃ d : Lt, d.ok (10 ^ 39) ∧ w = d.w) noX := by
  have b8 := b800
  have b9 : (1000000 : Int) + 1 < 10 ^ 800 := by decide +kernel
  refine wp_cleanD P.lt (wp_run rfl ?_)
  unfold b_law_letter
  repeat decreasing_trivial_pre_omega
  refine wp_use (take_wp P (by omega) (by omega) b9) ?_
  rintro _ s1 ⟨v1, rfl, h1, K1, P1⟩
  have T1 : Keep n st s1 := K1
  have L1 : n < s1.length := P1.lt
  repeat decreasing_trivial_pre_omega
  refine wp_use (take_wp P1 (by omega) (by omega) (by omega)) ?_
  rintro _ s2 ⟨v2, rfl, h2, K2, P2⟩
  have T2 : Keep n st s2 := T1.trans (K2)
  have L2 : n < s2.length := P2.lt
  repeat decreasing_trivial_pre_omega
  refine wp_use (take_wp P2.app (by omega) (by omega) (by omega)) ?_
  rintro _ s3 ⟨v3, rfl, h3, K3, P3⟩
  have T3 : Keep n st s3 := T2.trans (Keep.app.trans K3)
  have L3 : n < s3.length := P3.lt
  refine Sw.v_ixM (K3.at sto_at (by omega)) (by simp; omega) fun w hw => ?_
  have hw : Nt 1000000 w := by
    simp only [List.mem_cons, List.not_mem_nil, or_false] at hw
    rcases hw with rfl | rfl | rfl | rfl
    · exact ⟨0, rfl, by omega⟩
    · exact ⟨1000000, rfl, by omega⟩
    · exact ⟨v1, rfl, by omega⟩
    · exact ⟨v2, rfl, by omega⟩
  obtain ⟨m, rfl, hM⟩ := hw
  repeat decreasing_trivial_pre_omega
  refine wp_use (take_wp P3 (by omega) (by omega) (by omega)) ?_
  rintro _ s4 ⟨v4, rfl, h4, K4, P4⟩
  have T4 : Keep n st s4 := T3.trans (K4)
  have L4 : n < s4.length := P4.lt
  by_cases z1 : (v4 : Int) = 0
  · repeat decreasing_trivial_pre_omega
    refine wp_use (count_wp P4 (by omega)) ?_
    rintro _ s5 ⟨⟨x, rfl, hx⟩, K5, P5⟩
    have T5 : Keep n st s5 := T4.trans (K5)
    have L5 : n < s5.length := P5.lt
    repeat decreasing_trivial_pre_omega
    refine wp_use (take_wp P5 (by omega) (by omega) (by omega)) ?_
    rintro _ s6 ⟨v6, rfl, h6, K6, P6⟩
    have T6 : Keep n st s6 := T5.trans (K6)
    have L6 : n < s6.length := P6.lt
    repeat decreasing_trivial_pre_omega
    refine wp_use (page_wp P6 (by omega) hm hm2) ?_
    rintro _ s7 ⟨⟨ns, rfl, hg⟩, K7, P7⟩
    have T7 : Keep n st s7 := T6.trans (K7)
    have L7 : n < s7.length := P7.lt
    repeat decreasing_trivial_pre_omega
    exact ⟨⟨.pg m x v6 ns, ⟨hM, hx, by omega, hg⟩, rfl⟩, T7, P7.mono (by omega)⟩
  by_cases z2 : (v4 : Int) = 1
  · repeat decreasing_trivial_pre_omega
    refine wp_use (take_wp P4 (by omega) (by omega) (by omega)) ?_
    rintro _ s5 ⟨v5, rfl, h5, K5, P5⟩
    have T5 : Keep n st s5 := T4.trans (K5)
    have L5 : n < s5.length := P5.lt
    repeat decreasing_trivial_pre_omega
    refine wp_use (take_wp P5.app (by omega) (by omega) (by omega)) ?_
    rintro _ s6 ⟨v6, rfl, h6, K6, P6⟩
    have T6 : Keep n st s6 := T5.trans (Keep.app.trans K6)
    have L6 : n < s6.length := P6.lt
    refine Sw.v_ixM (K6.at sto_at (by omega)) (by simp; omega) fun w hw => ?_
    have hw : ∃ k : Nat, w = .int k ∧ 1 ≤ k ∧ k ≤ 16 := by
      simp only [List.mem_cons, List.not_mem_nil, or_false] at hw
      rcases hw with rfl | rfl | rfl
      · exact ⟨1, rfl, by omega⟩
      · exact ⟨16, rfl, by omega⟩
      · exact ⟨1 + v5, by simp, by omega⟩
    obtain ⟨k, ek, k1, k2⟩ := hw
    subst ek
    refine Sw.v_nil (Sw.v_rng1 (okR_nat (Nat.le_trans k2 (by decide))) ?_)
    refine counts_wp P6 (by omega) k2 rfl (by decide) (by simp [wipeW, Sw.start]) fun cs s7 hl hc K7 P7 e7 => ?_
    have T7 : Keep n st s7 := T6.trans (K7)
    have L7 : n < s7.length := P7.lt
    repeat decreasing_trivial_pre_omega
    refine wp_use (take_wp P7 (by omega) (by omega) (by omega)) ?_
    rintro _ s8 ⟨v8, rfl, h8, K8, P8⟩
    have T8 : Keep n st s8 := T7.trans (K8)
    have L8 : n < s8.length := P8.lt
    repeat decreasing_trivial_pre_omega
    refine wp_use (take_wp P8.app (by omega) (by omega) (by omega)) ?_
    rintro _ s9 ⟨v9, rfl, h9, K9, P9⟩
    have T9 : Keep n st s9 := T8.trans (Keep.app.trans K9)
    have L9 : n < s9.length := P9.lt
    refine Sw.v_ixM (K9.at sto_at (by omega)) (by simp; omega) fun w hw => ?_
    have hw : Nt 4095 w := by
      simp only [List.mem_cons, List.not_mem_nil, or_false] at hw
      rcases hw with rfl | rfl | rfl
      · exact ⟨0, rfl, by omega⟩
      · exact ⟨4095, rfl, by omega⟩
      · exact ⟨v8, rfl, by omega⟩
    obtain ⟨r, rfl, h7⟩ := hw
    repeat decreasing_trivial_pre_omega
    exact ⟨⟨.la m r cs, ⟨hM, h7, ⟨by omega, by omega⟩, hc⟩, rfl⟩, T9, P9.mono (by omega)⟩
  by_cases z3 : (v4 : Int) = 2
  · repeat decreasing_trivial_pre_omega
    refine lack_wp P4 (by omega) rfl (by decide) (by simp [wipeW, Sw.start]) fun ns s5 hp hx K5 P5 e5 => ?_
    have T5 : Keep n st s5 := T4.trans (K5)
    have L5 : n < s5.length := P5.lt
    repeat decreasing_trivial_pre_omega
    refine v_truL e5 ?_
    have r16 := rise_nat hp
    have l16 : ns.length ≤ 16 := pw_len (k := 16) hp fun x h => by have := hx x h; omega
    cases ns with
    | nil =>
      repeat decreasing_trivial_pre_omega
      refine wp_use (take_wp P5 (by omega) (by omega) (by omega)) ?_
      rintro _ s6 ⟨v6, rfl, h6, K6, P6⟩
      have T6 : Keep n st s6 := T5.trans (K6)
      have L6 : n < s6.length := P6.lt
      repeat decreasing_trivial_pre_omega
      exact ⟨⟨.lk m [v6], ⟨hM, ⟨by simp, by simp⟩, by simp; omega, rise_nat (List.pairwise_singleton _ _)⟩, rfl⟩, T6.trans Keep.app, (P6.mono (by omega)).app⟩
    | cons a ns =>
      repeat decreasing_trivial_pre_omega
      exact ⟨⟨.lk m (a :: ns), ⟨hM, ⟨by simp, l16⟩, hx, r16⟩, rfl⟩, T5, P5.mono (by omega)⟩
  · repeat decreasing_trivial_pre_omega
    refine v_ixZ sto_at (by omega) (by simp; omega) fun w hw => ?_
    have hw : ∃ z, w = .str z ∧ z ∈ brL := by
      simp only [List.mem_cons, List.not_mem_nil, or_false] at hw
      rcases hw with rfl | rfl | rfl | rfl <;> exact ⟨_, rfl, by simp [brL]⟩
    obtain ⟨z, rfl, hz⟩ := hw
    repeat decreasing_trivial_pre_omega
    exact ⟨⟨.br z m, ⟨hM, hz⟩, rfl⟩, T4.trans Keep.app, (P4.mono (by omega)).app⟩

end Lw

namespace Lw
open PySem PySem.Spec PyProof.Rows L2 Sw
/-- one step; the goal's head says which -/
local macro_rules | `(tactic| decreasing_trivial_pre_omega) => `(tactic| first
  | ((with_reducible refine Sw.gWi ?_); first
    | with_reducible refine Sw.ws_ift ?_
    | with_reducible refine Sw.ws_iff ?_
    | with_reducible refine Sw.ws_ifn ?_
    | ((with_reducible refine Sw.ws_ifd1 ?_ ?_); (focus first | assumption | omega | (simp; done)))
    | ((with_reducible refine Sw.ws_ifd0 ?_ ?_); (focus first | assumption | omega | (simp; done)))
    | ((with_reducible refine Sw.ws_ifb1 ?_ ?_); (focus rfl))
    | ((with_reducible refine Sw.ws_ifb0 ?_ ?_); (focus rfl))
    )
  | ((with_reducible refine Sw.gW ?_); first
    | with_reducible refine Sw.ws_seqS ?_
    | with_reducible refine Sw.ws_ifS ?_
    | with_reducible refine Sw.ws_forN ?_
    | with_reducible refine Sw.ws_seq ?_
    | with_reducible refine Sw.ws_set ?_
    | with_reducible refine Sw.ws_if ?_
    | with_reducible refine Sw.ws_ret ?_
    | with_reducible refine Sw.ws_next ?_
    | with_reducible refine Sw.ws_drop ?_
    | with_reducible refine Sw.ws_for ?_
    | with_reducible refine Sw.ws_asg ?_
    | with_reducible refine Sw.ws_retN ?_
    | with_reducible refine Sw.ws_raise ?_
    | with_reducible refine Sw.ws_raiseD ?_
    | with_reducible refine Sw.ws_gN ?_
    | with_reducible refine Sw.ws_brk ?_
    | with_reducible refine Sw.ws_cnt ?_
    | ((with_reducible apply Sw.ws_aug); rfl)
    | with_reducible refine Sw.ws_gSub ?_
    | with_reducible refine Sw.ws_gsCons ?_
    | with_reducible refine Sw.ws_gsNil ?_
    | ((with_reducible apply Sw.ws_gsConsE); (focus rfl))
    | ((with_reducible apply Sw.ws_gsNilE); (focus rfl))
    | with_reducible refine Sw.ws_par2 ?_
    | with_reducible refine Sw.ws_par3 ?_
    | ((with_reducible refine Sw.ws_gTup ?_ ?_); (focus rfl))
    | ((with_reducible apply Sw.ws_gSeqN); (focus first | rfl | exact getS_at (by assumption) | exact getS_at sto_at | exact getS_at (sto_app (by assumption)) | exact getS_at (sto_app sto_at)); (focus first | rfl | decide | (simp; done) | (simp; omega)))
    | ((with_reducible apply Sw.ws_gStarN); (focus first | rfl | exact getS_at (by assumption) | exact getS_at sto_at | exact getS_at (sto_app (by assumption)) | exact getS_at (sto_app sto_at)); (focus first | decide | (simp; done) | (simp; omega)))
    )
  | ((with_reducible refine Sw.gI ?_); first
    | with_reducible refine Sw.wp_ift ?_
    | with_reducible refine Sw.wp_iff ?_
    | with_reducible refine Sw.wp_ifn ?_
    | ((with_reducible refine Sw.wp_ifd1 ?_ ?_); (focus first | assumption | omega | (simp; done)))
    | ((with_reducible refine Sw.wp_ifd0 ?_ ?_); (focus first | assumption | omega | (simp; done)))
    | ((with_reducible refine Sw.wp_ifb1 ?_ ?_); (focus rfl))
    | ((with_reducible refine Sw.wp_ifb0 ?_ ?_); (focus rfl))
    )
  | ((with_reducible refine Sw.gF ?_); first
    | ((with_reducible apply Sw.v_var); rfl)
    | with_reducible refine Sw.v_c ?_
    | with_reducible refine Sw.v_cons ?_
    | with_reducible refine Sw.v_nil ?_
    | ((with_reducible refine Sw.v_fn ?_))
    | with_reducible refine Sw.v_call ?_
    | ((with_reducible apply Sw.v_ask); (focus rfl); (focus rfl))
    | with_reducible refine Sw.v_bin ?_
    | with_reducible refine Sw.v_cmp ?_
    | with_reducible refine Sw.v_cmpE ?_
    | with_reducible refine Sw.v_tru ?_
    | with_reducible refine Sw.v_notT ?_
    | with_reducible refine Sw.v_andT ?_
    | with_reducible refine Sw.v_orT ?_
    | with_reducible refine Sw.v_and ?_
    | with_reducible refine Sw.v_or ?_
    | with_reducible refine Sw.v_not ?_
    | with_reducible refine Sw.v_if ?_
    | with_reducible refine Sw.v_chn ?_
    | with_reducible refine Sw.v_chnE ?_
    | with_reducible refine Sw.v_tup ?_
    | with_reducible refine Sw.v_lst ?_
    | with_reducible refine Sw.v_sl ?_
    | with_reducible refine Sw.v_no ?_
    | with_reducible refine Sw.v_so ?_
    | with_reducible refine Sw.v_neg ?_
    | with_reducible refine Sw.v_lc ?_
    | with_reducible refine Sw.v_it ?_
    | with_reducible refine Sw.v_seqI ?_
    | with_reducible refine Sw.v_mt ?_
    | with_reducible refine Sw.v_m1 ?_
    | with_reducible refine Sw.v_dict0 ?_
    | with_reducible refine Sw.v_it1 ?_
    )
  | ((with_reducible refine Sw.gO ?_); first
    | with_reducible refine Sw.v_ltI ?_
    | with_reducible refine Sw.v_leI ?_
    | with_reducible refine Sw.v_gtI ?_
    | with_reducible refine Sw.v_geI ?_
    | with_reducible refine Sw.v_eqI ?_
    | with_reducible refine Sw.v_neI ?_
    | with_reducible refine Sw.v_eqS ?_
    | with_reducible refine Sw.v_neS ?_
    | with_reducible refine Sw.v_truB ?_
    | with_reducible refine Sw.v_truI ?_
    | with_reducible refine Sw.v_truN ?_
    | with_reducible refine Sw.v_truT ?_
    | with_reducible refine Sw.v_seqT ?_
    | with_reducible refine Sw.v_seqR ?_
    | with_reducible refine Sw.v_seqS ?_
    | ((with_reducible apply Sw.v_seqL); (focus first | assumption | exact sto_at | exact sto_app (by assumption) | exact sto_app (sto_app (by assumption)) | exact sto_app sto_at | exact sto_app (sto_app sto_at)))
    | with_reducible refine Sw.v_inK ?_
    | with_reducible refine Sw.v_notInK ?_
    | ((with_reducible apply Sw.wp_opt); (focus rfl))
    )
  | ((with_reducible refine Sw.gE ?_); first
    | with_reducible refine Sw.wp_bind ?_
    | with_reducible refine Sw.wp_ok ?_
    | with_reducible refine Sw.v_addI ?_
    | with_reducible refine Sw.v_subI ?_
    | ((with_reducible refine Sw.v_mulI (.inl ?_) ?_); (focus first | decide | omega))
    | ((with_reducible refine Sw.v_mulT ?_ ?_); exact ⟨by simp, by decide, by decide, by simp⟩)
    | ((with_reducible apply Sw.v_mulL); (focus first | assumption | exact sto_at | exact sto_app (by assumption) | exact sto_app (sto_app (by assumption)) | exact sto_app sto_at | exact sto_app (sto_app sto_at)); (focus exact ⟨by decide, by decide, by simp⟩))
    | ((with_reducible refine Sw.v_modI ?_ ?_); (focus first | decide | omega))
    | ((with_reducible refine Sw.v_addT ?_ ?_); refine line1000 ?_; (focus first | decide | (simp; done) | (simp; omega)))
    | ((with_reducible apply Sw.v_powE); (focus decide +kernel); (focus (simp only [Int.reduceToNat, Int.reducePow]; rfl)))
    | ((with_reducible apply Sw.v_ixL); (first | assumption | exact sto_at | exact sto_app (by assumption) | exact sto_app (sto_app (by assumption)) | exact sto_app sto_at | exact sto_app (sto_app sto_at)); (focus first | rfl | assumption | exact atI_nat (by assumption) | exact Sw.atc0 | exact Sw.atc1 | exact Sw.atc2))
    | ((with_reducible apply Sw.v_ixT); (focus first | rfl | assumption | exact atI_nat (by assumption) | exact Sw.atc0 | exact Sw.atc1 | exact Sw.atc2))
    | ((with_reducible apply Sw.v_ixR); (focus first | rfl | assumption | exact atI_nat (by assumption) | exact Sw.atc0 | exact Sw.atc1 | exact Sw.atc2))
    | with_reducible refine Sw.v_slc1 ?_
    | with_reducible refine Sw.v_slc2 ?_
    | ((with_reducible apply Sw.v_slLt1); (focus first | assumption | exact sto_at | exact sto_app (by assumption) | exact sto_app (sto_app (by assumption)) | exact sto_app sto_at | exact sto_app (sto_app sto_at)))
    | ((with_reducible apply Sw.v_slLt2); (focus first | assumption | exact sto_at | exact sto_app (by assumption) | exact sto_app (sto_app (by assumption)) | exact sto_app sto_at | exact sto_app (sto_app sto_at)))
    | ((with_reducible apply Sw.v_slLd1); (focus first | assumption | exact sto_at | exact sto_app (by assumption) | exact sto_app (sto_app (by assumption)) | exact sto_app sto_at | exact sto_app (sto_app sto_at)))
    | ((with_reducible apply Sw.v_addL); (focus first | assumption | exact sto_at | exact sto_app (by assumption) | exact sto_app (sto_app (by assumption)) | exact sto_app sto_at | exact sto_app (sto_app sto_at)); (focus first | assumption | exact sto_at | exact sto_app (by assumption) | exact sto_app (sto_app (by assumption)) | exact sto_app sto_at | exact sto_app (sto_app sto_at)); (focus first | decide | (simp; done) | (simp; omega)))
    | with_reducible refine Sw.v_sortSet ?_
    | ((with_reducible refine Sw.v_sl0 ?_ ?_); (focus omega))
    | ((with_reducible refine Sw.v_sl1 ?_ ?_); (focus omega))
    | with_reducible refine Sw.v_lenT ?_
    | with_reducible refine Sw.v_lenR ?_
    | ((with_reducible apply Sw.v_lenL); (focus first | assumption | exact sto_at | exact sto_app (by assumption) | exact sto_app (sto_app (by assumption)) | exact sto_app sto_at | exact sto_app (sto_app sto_at)))
    | ((with_reducible apply Sw.v_appT); (focus first | decide | (simp; done) | (simp; omega)))
    | with_reducible refine Sw.v_intI ?_
    | with_reducible refine Sw.v_intB ?_
    | with_reducible refine Sw.v_absI ?_
    | with_reducible refine Sw.v_max2 ?_
    | with_reducible refine Sw.v_min2 ?_
    | with_reducible refine Sw.v_listT ?_
    | ((with_reducible apply Sw.v_listL); (focus first | assumption | exact sto_at | exact sto_app (by assumption) | exact sto_app (sto_app (by assumption)) | exact sto_app sto_at | exact sto_app (sto_app sto_at)))
    | with_reducible refine Sw.v_tupleT ?_
    | ((with_reducible apply Sw.v_tupleL); (focus first | assumption | exact sto_at | exact sto_app (by assumption) | exact sto_app (sto_app (by assumption)) | exact sto_app sto_at | exact sto_app (sto_app sto_at)))
    | ((with_reducible refine Sw.v_rng1 ?_ ?_); (focus first | exact ⟨by omega, by omega, by omega, by omega⟩ | decide))
    | ((with_reducible refine Sw.v_rng2 ?_ ?_); (focus first | exact ⟨by omega, by omega, by omega, by omega⟩ | decide))
    | with_reducible refine Sw.v_zipT ?_
    | with_reducible refine Sw.v_enumT ?_
    | ((with_reducible apply Sw.v_enumL); (focus first | assumption | exact sto_at | exact sto_app (by assumption) | exact sto_app (sto_app (by assumption)) | exact sto_app sto_at | exact sto_app (sto_app sto_at)))
    | with_reducible refine Sw.v_andI ?_
    | with_reducible refine Sw.v_orI ?_
    | ((with_reducible refine Sw.v_shrI ?_ ?_); decide)
    | ((with_reducible apply Sw.v_allL); (focus first | assumption | exact sto_at | exact sto_app (by assumption) | exact sto_app (sto_app (by assumption)) | exact sto_app sto_at | exact sto_app (sto_app sto_at)))
    | ((with_reducible apply Sw.v_anyL); (focus first | assumption | exact sto_at | exact sto_app (by assumption) | exact sto_app (sto_app (by assumption)) | exact sto_app sto_at | exact sto_app (sto_app sto_at)))
    | with_reducible refine Sw.v_addGI ?_
    | ((with_reducible refine Sw.v_addGT ?_ ?_); refine line1000 ?_; (focus first | decide | (simp; done) | (simp; omega)))
    | ((with_reducible apply Sw.v_ixK); (focus rfl))
    )
  | with_reducible refine ⟨_, rfl, ?_⟩
  | with_reducible refine ⟨_, _, rfl, ?_⟩
  | with_reducible refine ⟨_, _, _, rfl, ?_⟩
  | ((with_reducible refine And.intro ?_ ?_); (focus first | rfl | decide | exact isLst_at sto_at | exact isLst_at (by assumption) | exact isLst_at (sto_app sto_at) | exact isLst_at (sto_app (by assumption)) | (simp; done) | (simp; omega)))
  | exact ⟨[], (List.append_nil _).symm⟩
  | with_reducible rfl
  | with_reducible refine Sw.ex_app ?_
  | exact ⟨_, rfl⟩
  )
theorem PlD.up : ∀ {k m : Nat} {w : W}, PlD k w → k ≤ m → PlD m w
  | 0, 0, _, h, _ => h
  | 0, m + 1, w, h, _ => by
    cases w <;> first | exact h | exact h.elim
  | k + 1, 0, _, _, hk => absurd hk (by omega)
  | k + 1, m + 1, w, h, hk => by
    cases w with
    | tup l => exact ⟨h.1, fun x hx => PlD.up (h.2 x hx) (by omega)⟩
    | _ => first | exact h | exact h.elim
theorem v_slTo {l : List W} {v : Nat} {st : Sto} {Q : W → Sto → Prop} {E : XE} (q : Q (.tup (l.take (v + 1))) st) : wp (wSl (.tup l) none (some ((v : Int) + 1)) st) Q E := by
  have e := Sw.cutL_toN (l := l) (k := v + 1)
  rw [← e] at q
  exact q
theorem v_slFr {l : List W} {v : Nat} {st : Sto} {Q : W → Sto → Prop} {E : XE} (q : Q (.tup (l.drop v)) st) : wp (wSl (.tup l) (some (v : Int)) none st) Q E := by
  have e := Sw.cutL_fromN (l := l) (k := v)
  rw [← e] at q
  exact q
def Spt (k : Nat) (w : W) (s : Sto) : Prop := PlD (k + 1) w ∨ ∃ m l, w = .ref m ∧ s[m]? = some (.lst l)
theorem PlD.odd {w : W} (h : w ∈ [W.int (-1), .int 0, .int 16, .int 512, .int 4096, .int 65536, .int (1000000 + 1), .bl true, .non, .str "page", .str "load", .tup [], .tup [.int 0], .tup [.int 3, .int 3]]) : PlD 1 w := by
  simp only [List.mem_cons, List.not_mem_nil, or_false] at h
  have i1 : ∀ i : Int, i.natAbs ≤ 1000001 → PlD 1 (.int i) := fun i h => Nat.le_trans h (by decide +kernel)
  have i0 : ∀ i : Int, i.natAbs ≤ 1000001 → PlD 0 (.int i) := fun i h => Nat.le_trans h (by decide +kernel)
  rcases h with rfl | rfl | rfl | rfl | rfl | rfl | rfl | rfl | rfl | rfl | rfl | rfl | rfl | rfl
  · exact i1 _ (by decide)
  · exact i1 _ (by decide)
  · exact i1 _ (by decide)
  · exact i1 _ (by decide)
  · exact i1 _ (by decide)
  · exact i1 _ (by decide)
  · exact i1 _ (by decide)
  · trivial
  · trivial
  · exact (by decide +kernel : PyData.canLay0 (.str "page") = true)
  · exact (by decide +kernel : PyData.canLay0 (.str "load") = true)
  · exact ⟨by simp, by simp⟩
  · exact ⟨by simp, fun x hx => by rw [List.mem_singleton.mp hx]; exact i0 _ (by decide)⟩
  · exact ⟨by simp, fun x hx => by
      simp only [List.mem_cons, List.not_mem_nil, or_false, or_self] at hx
      rw [hx]
      exact i0 _ (by decide)⟩
theorem PlD.tupI {k : Nat} {l : List W} (hl : l.length ≤ 1000) (h : ∀ x ∈ l, PlD k x) : PlD (k + 1) (.tup l) := ⟨hl, h⟩
theorem spoilt_wp {st : Sto} {n k : Nat} {c : Int} {l : List W} (P : Pot st n c) (hc : c ≤ 10 ^ 9) (h1 : 1 ≤ l.length) (h2 : l.length ≤ 10) (hk : 1 ≤ k) (hp : ∀ x ∈ l, PlD k x) (ht : ∀ row, W.tup row ∈ l → 2 ≤ k ∧ 1 ≤ row.length ∧ row.length ≤ 100 ∧ ∀ x ∈ row, PlD 1 x) : wp (f_law_spoilt [.ref n, .tup l] st) (fun w s => Spt k w s ∧ Keep n st s ∧ Pot s n (c + 20)) noX := by
  have b8 := b800
  refine wp_clean (wp_run rfl ?_) fun w s h hw _ => ⟨h.1.imp id fun ⟨m, l', e, hs⟩ => ⟨m, l', e, by subst e; simp only [closedW, decide_eq_true_eq] at hw; rw [List.getElem?_take_of_lt hw]; exact hs⟩, h.2.1.take, Sw.Pot.take' h.2.2 P.lt⟩
  unfold b_law_spoilt
  repeat decreasing_trivial_pre_omega
  refine wp_use (take_wp P (by omega) (by omega) (by omega)) ?_
  rintro _ s1 ⟨v1, rfl, h1, K1, P1⟩
  have T1 : Keep n st s1 := K1
  have L1 : n < s1.length := P1.lt
  obtain ⟨x, hx⟩ : ∃ x, l[v1]? = some x := ⟨l[v1]'(by omega), List.getElem?_eq_getElem (by omega)⟩
  have hxl : x ∈ l := List.mem_of_getElem? hx
  repeat decreasing_trivial_pre_omega
  refine wp_use (take_wp P1.app (by omega) (by omega) (by omega)) ?_
  rintro _ s2 ⟨v2, rfl, h2, K2, P2⟩
  have T2 : Keep n st s2 := T1.trans (Keep.app.trans K2)
  have L2 : n < s2.length := P2.lt
  refine Sw.v_ixM (K2.at sto_at (by omega)) (by simp; omega) fun odd ho => ?_
  have ho := PlD.odd ho
  repeat decreasing_trivial_pre_omega
  refine wp_use (take_wp P2 (by omega) (by omega) (by omega)) ?_
  rintro _ s3 ⟨v3, rfl, h3, K3, P3⟩
  have T3 : Keep n st s3 := T2.trans (K3)
  have L3 : n < s3.length := P3.lt
  repeat decreasing_trivial_pre_omega
  refine wp_eq (isi_tup (PlD.ty (hp x hxl))) ?_
  refine Sw.v_truB ?_
  refine wp_use (Q := fun b s => b = (isTup x && decide ((v3 : Int) < 3)) ∧ s = s3) ?_ ?_
  · cases isTup x <;> repeat decreasing_trivial_pre_omega
  rintro b s ⟨hb, e⟩
  rw [hb, e]
  have odk : PlD k odd := ho.up hk
  have mT : ∀ y ∈ l.take v1, PlD k y := fun y hy => hp y (List.mem_of_mem_take hy)
  have mT2 : ∀ y ∈ l.take (v1 + 1), PlD k y := fun y hy => hp y (List.mem_of_mem_take hy)
  have mD : ∀ y ∈ l.drop (v1 + 1), PlD k y := fun y hy => hp y (List.mem_of_mem_drop hy)
  have mD2 : ∀ y ∈ l.drop v1, PlD k y := fun y hy => hp y (List.mem_of_mem_drop hy)
  by_cases z : (isTup x && decide ((v3 : Int) < 3)) = true
  · rw [if_pos z]
    obtain ⟨row, rfl⟩ : ∃ row, x = .tup row := by
      cases x with
      | tup r => exact ⟨r, rfl⟩
      | _ => cases z
    obtain ⟨k2, r1, r2, r3⟩ := ht row hxl
    repeat decreasing_trivial_pre_omega
    refine wp_use (take_wp P3 (by omega) (by omega) (by omega)) ?_
    rintro _ s4 ⟨v4, rfl, h4, K4, P4⟩
    have T4 : Keep n st s4 := T3.trans (K4)
    have L4 : n < s4.length := P4.lt
    repeat decreasing_trivial_pre_omega
    refine ⟨.inl (PlD.tupI (by simp; omega) fun y hy => ?_), T4, P4.mono (by omega)⟩
    simp only [List.mem_append, List.mem_singleton] at hy
    rcases hy with (hy | rfl) | hy
    · exact mT y hy
    · obtain ⟨k', rfl⟩ : ∃ k', k = k' + 1 := ⟨k - 1, by omega⟩
      refine PlD.tupI (by simp; omega) fun y hy => ?_
      simp only [List.mem_append, List.mem_singleton] at hy
      rcases hy with (hy | rfl) | hy
      · exact (r3 y (List.mem_of_mem_take hy)).up (by omega)
      · exact ho.up (by omega)
      · exact (r3 y (List.mem_of_mem_drop hy)).up (by omega)
    · exact mD y hy
  rw [if_neg z]
  repeat decreasing_trivial_pre_omega
  refine v_slTo ?_
  repeat decreasing_trivial_pre_omega
  refine v_slFr ?_
  repeat decreasing_trivial_pre_omega
  by_cases z5 : (v3 : Int) < 5
  · repeat decreasing_trivial_pre_omega
    refine Sw.v_ixM sto_at (by simp; omega) fun w hw => ?_
    refine ⟨.inl ?_, T3.trans (Keep.app.trans Keep.app), (P3.mono (by omega)).app.app⟩
    simp only [List.mem_flatten, List.mem_replicate] at hw
    obtain ⟨_, ⟨_, rfl⟩, hw⟩ := hw
    simp only [List.mem_cons, List.not_mem_nil, or_false] at hw
    rcases hw with rfl | rfl | rfl
    · refine PlD.tupI (by simp; omega) fun y hy => ?_
      simp only [List.mem_append, List.mem_singleton] at hy
      rcases hy with (hy | rfl) | hy
      · exact mT y hy
      · exact odk
      · exact mD y hy
    · refine PlD.tupI (by simp; omega) fun y hy => ?_
      exact (List.mem_append.mp hy).elim (mT y) (mD y)
    · refine PlD.tupI (by simp; omega) fun y hy => ?_
      exact (List.mem_append.mp hy).elim (mT2 y) (mD2 y)
  repeat decreasing_trivial_pre_omega
  exact ⟨.inr ⟨_, _, rfl, sto_at⟩, T3.trans (Keep.app.trans Keep.app), (P3.mono (by omega)).app.app⟩

end Lw

namespace Lw
open PySem PySem.Spec PyProof.Rows L2 Sw
/-- one step; the goal's head says which -/
local macro_rules | `(tactic| decreasing_trivial_pre_omega) => `(tactic| first
  | ((with_reducible refine Sw.gWi ?_); first
    | with_reducible refine Sw.ws_ift ?_
    | with_reducible refine Sw.ws_iff ?_
    | with_reducible refine Sw.ws_ifn ?_
    | ((with_reducible refine Sw.ws_ifd1 ?_ ?_); (focus first | assumption | omega | (simp; done)))
    | ((with_reducible refine Sw.ws_ifd0 ?_ ?_); (focus first | assumption | omega | (simp; done)))
    | ((with_reducible refine Sw.ws_ifb1 ?_ ?_); (focus rfl))
    | ((with_reducible refine Sw.ws_ifb0 ?_ ?_); (focus rfl))
    )
  | ((with_reducible refine Sw.gW ?_); first
    | with_reducible refine Sw.ws_seqS ?_
    | with_reducible refine Sw.ws_ifS ?_
    | with_reducible refine Sw.ws_forN ?_
    | with_reducible refine Sw.ws_seq ?_
    | with_reducible refine Sw.ws_set ?_
    | with_reducible refine Sw.ws_if ?_
    | with_reducible refine Sw.ws_ret ?_
    | with_reducible refine Sw.ws_next ?_
    | with_reducible refine Sw.ws_drop ?_
    | with_reducible refine Sw.ws_for ?_
    | with_reducible refine Sw.ws_asg ?_
    | with_reducible refine Sw.ws_retN ?_
    | with_reducible refine Sw.ws_raise ?_
    | with_reducible refine Sw.ws_raiseD ?_
    | with_reducible refine Sw.ws_gN ?_
    | with_reducible refine Sw.ws_brk ?_
    | with_reducible refine Sw.ws_cnt ?_
    | ((with_reducible apply Sw.ws_aug); rfl)
    | with_reducible refine Sw.ws_gSub ?_
    | with_reducible refine Sw.ws_gsCons ?_
    | with_reducible refine Sw.ws_gsNil ?_
    | ((with_reducible apply Sw.ws_gsConsE); (focus rfl))
    | ((with_reducible apply Sw.ws_gsNilE); (focus rfl))
    | with_reducible refine Sw.ws_par2 ?_
    | with_reducible refine Sw.ws_par3 ?_
    | ((with_reducible refine Sw.ws_gTup ?_ ?_); (focus rfl))
    | ((with_reducible apply Sw.ws_gSeqN); (focus first | rfl | exact getS_at (by assumption) | exact getS_at sto_at | exact getS_at (sto_app (by assumption)) | exact getS_at (sto_app sto_at)); (focus first | rfl | decide | (simp; done) | (simp; omega)))
    | ((with_reducible apply Sw.ws_gStarN); (focus first | rfl | exact getS_at (by assumption) | exact getS_at sto_at | exact getS_at (sto_app (by assumption)) | exact getS_at (sto_app sto_at)); (focus first | decide | (simp; done) | (simp; omega)))
    )
  | ((with_reducible refine Sw.gI ?_); first
    | with_reducible refine Sw.wp_ift ?_
    | with_reducible refine Sw.wp_iff ?_
    | with_reducible refine Sw.wp_ifn ?_
    | ((with_reducible refine Sw.wp_ifd1 ?_ ?_); (focus first | assumption | omega | (simp; done)))
    | ((with_reducible refine Sw.wp_ifd0 ?_ ?_); (focus first | assumption | omega | (simp; done)))
    | ((with_reducible refine Sw.wp_ifb1 ?_ ?_); (focus rfl))
    | ((with_reducible refine Sw.wp_ifb0 ?_ ?_); (focus rfl))
    )
  | ((with_reducible refine Sw.gF ?_); first
    | ((with_reducible apply Sw.v_var); rfl)
    | with_reducible refine Sw.v_c ?_
    | with_reducible refine Sw.v_cons ?_
    | with_reducible refine Sw.v_nil ?_
    | ((with_reducible refine Sw.v_fn ?_))
    | with_reducible refine Sw.v_call ?_
    | ((with_reducible apply Sw.v_ask); (focus rfl); (focus rfl))
    | with_reducible refine Sw.v_bin ?_
    | with_reducible refine Sw.v_cmp ?_
    | with_reducible refine Sw.v_cmpE ?_
    | with_reducible refine Sw.v_tru ?_
    | with_reducible refine Sw.v_notT ?_
    | with_reducible refine Sw.v_andT ?_
    | with_reducible refine Sw.v_orT ?_
    | with_reducible refine Sw.v_and ?_
    | with_reducible refine Sw.v_or ?_
    | with_reducible refine Sw.v_not ?_
    | with_reducible refine Sw.v_if ?_
    | with_reducible refine Sw.v_chn ?_
    | with_reducible refine Sw.v_chnE ?_
    | with_reducible refine Sw.v_tup ?_
    | with_reducible refine Sw.v_lst ?_
    | with_reducible refine Sw.v_sl ?_
    | with_reducible refine Sw.v_no ?_
    | with_reducible refine Sw.v_so ?_
    | with_reducible refine Sw.v_neg ?_
    | with_reducible refine Sw.v_lc ?_
    | with_reducible refine Sw.v_it ?_
    | with_reducible refine Sw.v_seqI ?_
    | with_reducible refine Sw.v_mt ?_
    | with_reducible refine Sw.v_m1 ?_
    | with_reducible refine Sw.v_dict0 ?_
    | with_reducible refine Sw.v_it1 ?_
    )
  | ((with_reducible refine Sw.gO ?_); first
    | with_reducible refine Sw.v_ltI ?_
    | with_reducible refine Sw.v_leI ?_
    | with_reducible refine Sw.v_gtI ?_
    | with_reducible refine Sw.v_geI ?_
    | with_reducible refine Sw.v_eqI ?_
    | with_reducible refine Sw.v_neI ?_
    | with_reducible refine Sw.v_eqS ?_
    | with_reducible refine Sw.v_neS ?_
    | with_reducible refine Sw.v_truB ?_
    | with_reducible refine Sw.v_truI ?_
    | with_reducible refine Sw.v_truN ?_
    | with_reducible refine Sw.v_truT ?_
    | with_reducible refine Sw.v_seqT ?_
    | with_reducible refine Sw.v_seqR ?_
    | with_reducible refine Sw.v_seqS ?_
    | ((with_reducible apply Sw.v_seqL); (focus first | assumption | exact sto_at | exact sto_app (by assumption) | exact sto_app (sto_app (by assumption)) | exact sto_app sto_at | exact sto_app (sto_app sto_at)))
    | with_reducible refine Sw.v_inK ?_
    | with_reducible refine Sw.v_notInK ?_
    | ((with_reducible apply Sw.wp_opt); (focus rfl))
    )
  | ((with_reducible refine Sw.gE ?_); first
    | with_reducible refine Sw.wp_bind ?_
    | with_reducible refine Sw.wp_ok ?_
    | with_reducible refine Sw.v_addI ?_
    | with_reducible refine Sw.v_subI ?_
    | ((with_reducible refine Sw.v_mulI (.inl ?_) ?_); (focus first | decide | omega))
    | ((with_reducible refine Sw.v_mulT ?_ ?_); exact ⟨by simp, by decide, by decide, by simp⟩)
    | ((with_reducible apply Sw.v_mulL); (focus first | assumption | exact sto_at | exact sto_app (by assumption) | exact sto_app (sto_app (by assumption)) | exact sto_app sto_at | exact sto_app (sto_app sto_at)); (focus exact ⟨by decide, by decide, by simp⟩))
    | ((with_reducible refine Sw.v_modI ?_ ?_); (focus first | decide | omega))
    | ((with_reducible refine Sw.v_addT ?_ ?_); refine line1000 ?_; (focus first | decide | (simp; done) | (simp; omega)))
    | ((with_reducible apply Sw.v_powE); (focus decide +kernel); (focus (simp only [Int.reduceToNat, Int.reducePow]; rfl)))
    | ((with_reducible apply Sw.v_ixL); (first | assumption | exact sto_at | exact sto_app (by assumption) | exact sto_app (sto_app (by assumption)) | exact sto_app sto_at | exact sto_app (sto_app sto_at)); (focus first | rfl | assumption | exact atI_nat (by assumption) | exact Sw.atc0 | exact Sw.atc1 | exact Sw.atc2))
    | ((with_reducible apply Sw.v_ixT); (focus first | rfl | assumption | exact atI_nat (by assumption) | exact Sw.atc0 | exact Sw.atc1 | exact Sw.atc2))
    | ((with_reducible apply Sw.v_ixR); (focus first | rfl | assumption | exact atI_nat (by assumption) | exact Sw.atc0 | exact Sw.atc1 | exact Sw.atc2))
    | with_reducible refine Sw.v_slc1 ?_
    | with_reducible refine Sw.v_slc2 ?_
    | ((with_reducible apply Sw.v_slLt1); (focus first | assumption | exact sto_at | exact sto_app (by assumption) | exact sto_app (sto_app (by assumption)) | exact sto_app sto_at | exact sto_app (sto_app sto_at)))
    | ((with_reducible apply Sw.v_slLt2); (focus first | assumption | exact sto_at | exact sto_app (by assumption) | exact sto_app (sto_app (by assumption)) | exact sto_app sto_at | exact sto_app (sto_app sto_at)))
    | ((with_reducible apply Sw.v_slLd1); (focus first | assumption | exact sto_at | exact sto_app (by assumption) | exact sto_app (sto_app (by assumption)) | exact sto_app sto_at | exact sto_app (sto_app sto_at)))
    | ((with_reducible apply Sw.v_addL); (focus first | assumption | exact sto_at | exact sto_app (by assumption) | exact sto_app (sto_app (by assumption)) | exact sto_app sto_at | exact sto_app (sto_app sto_at)); (focus first | assumption | exact sto_at | exact sto_app (by assumption) | exact sto_app (sto_app (by assumption)) | exact sto_app sto_at | exact sto_app (sto_app sto_at)); (focus first | decide | (simp; done) | (simp; omega)))
    | with_reducible refine Sw.v_sortSet ?_
    | ((with_reducible refine Sw.v_sl0 ?_ ?_); (focus omega))
    | ((with_reducible refine Sw.v_sl1 ?_ ?_); (focus omega))
    | with_reducible refine Sw.v_lenT ?_
    | with_reducible refine Sw.v_lenR ?_
    | ((with_reducible apply Sw.v_lenL); (focus first | assumption | exact sto_at | exact sto_app (by assumption) | exact sto_app (sto_app (by assumption)) | exact sto_app sto_at | exact sto_app (sto_app sto_at)))
    | ((with_reducible apply Sw.v_appT); (focus first | decide | (simp; done) | (simp; omega)))
    | with_reducible refine Sw.v_intI ?_
    | with_reducible refine Sw.v_intB ?_
    | with_reducible refine Sw.v_absI ?_
    | with_reducible refine Sw.v_max2 ?_
    | with_reducible refine Sw.v_min2 ?_
    | with_reducible refine Sw.v_listT ?_
    | ((with_reducible apply Sw.v_listL); (focus first | assumption | exact sto_at | exact sto_app (by assumption) | exact sto_app (sto_app (by assumption)) | exact sto_app sto_at | exact sto_app (sto_app sto_at)))
    | with_reducible refine Sw.v_tupleT ?_
    | ((with_reducible apply Sw.v_tupleL); (focus first | assumption | exact sto_at | exact sto_app (by assumption) | exact sto_app (sto_app (by assumption)) | exact sto_app sto_at | exact sto_app (sto_app sto_at)))
    | ((with_reducible refine Sw.v_rng1 ?_ ?_); (focus first | exact ⟨by omega, by omega, by omega, by omega⟩ | decide))
    | ((with_reducible refine Sw.v_rng2 ?_ ?_); (focus first | exact ⟨by omega, by omega, by omega, by omega⟩ | decide))
    | with_reducible refine Sw.v_zipT ?_
    | with_reducible refine Sw.v_enumT ?_
    | ((with_reducible apply Sw.v_enumL); (focus first | assumption | exact sto_at | exact sto_app (by assumption) | exact sto_app (sto_app (by assumption)) | exact sto_app sto_at | exact sto_app (sto_app sto_at)))
    | with_reducible refine Sw.v_andI ?_
    | with_reducible refine Sw.v_orI ?_
    | ((with_reducible refine Sw.v_shrI ?_ ?_); decide)
    | ((with_reducible apply Sw.v_allL); (focus first | assumption | exact sto_at | exact sto_app (by assumption) | exact sto_app (sto_app (by assumption)) | exact sto_app sto_at | exact sto_app (sto_app sto_at)))
    | ((with_reducible apply Sw.v_anyL); (focus first | assumption | exact sto_at | exact sto_app (by assumption) | exact sto_app (sto_app (by assumption)) | exact sto_app sto_at | exact sto_app (sto_app sto_at)))
    | with_reducible refine Sw.v_addGI ?_
    | ((with_reducible refine Sw.v_addGT ?_ ?_); refine line1000 ?_; (focus first | decide | (simp; done) | (simp; omega)))
    | ((with_reducible apply Sw.v_ixK); (focus rfl))
    )
  | with_reducible refine ⟨_, rfl, ?_⟩
  | with_reducible refine ⟨_, _, rfl, ?_⟩
  | with_reducible refine ⟨_, _, _, rfl, ?_⟩
  | ((with_reducible refine And.intro ?_ ?_); (focus first | rfl | decide | exact isLst_at sto_at | exact isLst_at (by assumption) | exact isLst_at (sto_app sto_at) | exact isLst_at (sto_app (by assumption)) | (simp; done) | (simp; omega)))
  | exact ⟨[], (List.append_nil _).symm⟩
  | with_reducible rfl
  | with_reducible refine Sw.ex_app ?_
  | exact ⟨_, rfl⟩
  )
theorem isE {C c : Str} {fs : Flds} {n : Nat} {b : Bool} {st : Sto} (hs : st[n]? = some (.exc C fs)) (hC : C ∈ clsL) (h : isiT (.c C) (.c c) = some b) : wIsi isiT isiC [.ref n, .gl c] st = .ok (.bl b) st := by
  simp only [wIsi, isiX hs hC, tgT, h]
theorem isV {C : Str} {c : String} {fs : Flds} {n : Nat} {b : Bool} {st : Sto} (hs : st[n]? = some (.exc C fs)) (hC : C ∈ clsL) (h : isiT (.c C) (.b c) = some b) : wIsi isiT isiC [.ref n, .ty c] st = .ok (.bl b) st := by
  simp only [wIsi, isiX hs hC, tgT, h]
theorem isT {C : Str} {l : List W} {fs : Flds} {n : Nat} {b : Bool} {st : Sto} (hs : st[n]? = some (.exc C fs)) (hC : C ∈ clsL) (hl : l.all (fun c => (tgT c).isSome) = true) (h : anyTab isiT (.c C) l = some b) : wIsi isiT isiC [.ref n, .tup l] st = .ok (.bl b) st := by
  simp only [wIsi, isiX hs hC, h, hl, if_true]
theorem met_d {x : W} {s : Str} {st : Sto} (h : f_deed_text [x] st = .ok (.str s) st) : f_law_met [.gl "deed_text", x] st = .ok (.str s) st := by
  refine clean_wp (wp_runN ?_) rfl
  unfold b_law_met
  repeat decreasing_trivial_pre_omega
  refine Sw.ws_tryK ?_
  repeat decreasing_trivial_pre_omega
  refine wp_eq h ?_
  repeat decreasing_trivial_pre_omega
theorem met_l {x : W} {s : Str} {st : Sto} (h : f_letter_text [x] st = .ok (.str s) st) : f_law_met [.gl "letter_text", x] st = .ok (.str s) st := by
  refine clean_wp (wp_runN ?_) rfl
  unfold b_law_met
  repeat decreasing_trivial_pre_omega
  refine Sw.ws_tryK ?_
  repeat decreasing_trivial_pre_omega
  refine wp_eq h ?_
  repeat decreasing_trivial_pre_omega
theorem v_xf {xa : Str → Bool} {f : Str} {g : FE} {env : En} {st : Sto} {Q : W → Sto → Prop} {E : XE} (h : wp (g env st) (fun w s => ∃ n C fs v, w = .ref n ∧ s[n]? = some (.exc C fs) ∧ xa C = true ∧ fs.lookup f = some v ∧ Q v s) E) : wp (fXf xa f g env st) Q E := by
  refine Sw.wp_bind (Sw.wp_mono h (fun w s ⟨n, C, fs, v, e, h1, h2, h3, q⟩ => ?_) fun _ _ _ h => h)
  subst e
  simp only [h1, h2, if_true, h3]
  exact q
theorem v_cnt {n : Nat} {l : List W} {y : W} {k : Int} {st : Sto} {Q : W → Sto → Prop} {E : XE} (hs : st[n]? = some (.lst l)) (h : flatW y = true ∧ l.all flatW = true) (hk : ((l.countP fun z => eqFW z y : Nat) : Int) = k) (q : Q (.int k) st) : wp (wCnt (.ref n) [y] st) Q E := by
  subst hk
  exact wp_eq (by simp only [wCnt, getL, hs, if_pos h]) q
def Odd (l : List W) (st : Sto) (w : W) (s : Sto) : Prop := ∃ m, w = .ref m ∧ st.length ≤ m ∧ s[m]? = some (.lst l) ∧ ∃ g, s = st ++ g
theorem met_nd {x : W} {st : Sto} (h : f_deed_text [x] st = .ex "NoDeed" [("number", .int 0)] st) : wp (f_law_met [.gl "deed_text", x] st) (Odd [.str "deed", .int 0] st) noX := by
  refine wp_clean (wp_runN ?_) fun w s h hw _ => ?_
  · unfold b_law_met
    repeat decreasing_trivial_pre_omega
    refine Sw.ws_tryK ?_
    repeat decreasing_trivial_pre_omega
    refine wp_ex h (.inl ⟨by decide +kernel, by simp, ?_⟩)
    have hC : ("NoDeed" : Str) ∈ clsL := by decide +kernel
    have hx : (st ++ [Ob.exc "NoDeed" [("number", .int 0)]])[st.length]? = some (.exc "NoDeed" [("number", .int 0)]) := sto_at
    repeat decreasing_trivial_pre_omega
    refine wp_eq (isE hx hC (by decide +kernel : isiT (.c "NoDeed") (.c "NoDeed") = some true)) ?_
    repeat decreasing_trivial_pre_omega
    refine wp_eq (isE hx hC (by decide +kernel : isiT (.c "NoDeed") (.c "NoLetter") = some false)) ?_
    repeat decreasing_trivial_pre_omega
    refine wp_eq (isT (sto_app hx) hC (by decide +kernel) (by decide +kernel : anyTab isiT (.c "NoDeed") [.gl "NoAddress", .gl "NoCell", .gl "NoLine", .gl "NoPage", .gl "NoPages", .gl "NoRoot", .gl "NoText"] = some false)) ?_
    repeat decreasing_trivial_pre_omega
    refine v_cnt sto_at (k := 1) ⟨rfl, rfl⟩ (by decide +kernel) ?_
    repeat decreasing_trivial_pre_omega
    refine wp_eq (isV (sto_app hx) hC (by decide +kernel : isiT (.c "NoDeed") (.b "ValueError") = some true)) ?_
    repeat decreasing_trivial_pre_omega
    refine v_xf ?_
    repeat decreasing_trivial_pre_omega
    exact ⟨_, _, _, _, rfl, sto_app hx, rfl, rfl, Sw.v_nil ⟨by simp, _, rfl, by simp, sto_at, Sw.ex_app (Sw.ex_app ⟨_, rfl⟩)⟩⟩
  · obtain ⟨m, rfl, hm, _⟩ := h
    simp only [closedW, decide_eq_true_eq] at hw
    omega
theorem met_nl {x : W} {st : Sto} (h : f_letter_text [x] st = .ex "NoLetter" [] st) : wp (f_law_met [.gl "letter_text", x] st) (Odd [.str "letter"] st) noX := by
  refine wp_clean (wp_runN ?_) fun w s h hw _ => ?_
  · unfold b_law_met
    repeat decreasing_trivial_pre_omega
    refine Sw.ws_tryK ?_
    repeat decreasing_trivial_pre_omega
    refine wp_ex h (.inl ⟨by decide +kernel, by simp, ?_⟩)
    have hC : ("NoLetter" : Str) ∈ clsL := by decide +kernel
    have hx : (st ++ [Ob.exc "NoLetter" []])[st.length]? = some (.exc "NoLetter" []) := sto_at
    repeat decreasing_trivial_pre_omega
    refine wp_eq (isE hx hC (by decide +kernel : isiT (.c "NoLetter") (.c "NoDeed") = some false)) ?_
    repeat decreasing_trivial_pre_omega
    refine wp_eq (isE hx hC (by decide +kernel : isiT (.c "NoLetter") (.c "NoLetter") = some true)) ?_
    repeat decreasing_trivial_pre_omega
    refine wp_eq (isT (sto_app hx) hC (by decide +kernel) (by decide +kernel : anyTab isiT (.c "NoLetter") [.gl "NoAddress", .gl "NoCell", .gl "NoLine", .gl "NoPage", .gl "NoPages", .gl "NoRoot", .gl "NoText"] = some false)) ?_
    repeat decreasing_trivial_pre_omega
    refine v_cnt sto_at (k := 1) ⟨rfl, rfl⟩ (by decide +kernel) ?_
    repeat decreasing_trivial_pre_omega
    refine wp_eq (isV (sto_app hx) hC (by decide +kernel : isiT (.c "NoLetter") (.b "ValueError") = some true)) ?_
    repeat decreasing_trivial_pre_omega
    exact ⟨_, rfl, by simp, sto_at, Sw.ex_app (Sw.ex_app ⟨_, rfl⟩)⟩
  · obtain ⟨m, rfl, hm, _⟩ := h
    simp only [closedW, decide_eq_true_eq] at hw
    omega
theorem eqOdd {l : List W} {m k : Nat} {st : Sto} (h : l = [.str "deed", .int 0] ∨ l = [.str "letter"]) (h1 : st[m]? = some (.lst l)) (h2 : st[k]? = some (.lst l)) : eqW st (.ref m) (.ref k) = some true := by
  have e : ∃ d, toD st 64 (.ref m) = some d ∧ toD st 64 (.ref k) = some d ∧ PyData.eqv d d = true := by
    have hd : ∃ ds, l.mapM (toD st 63) = some ds ∧ PyData.eqv (.list ds) (.list ds) = true := by
      rcases h with rfl | rfl
      · exact ⟨[.str "deed", .int 0], by
          rw [mapM_all (g := fun w => match w with | .int b => .int b | .str z => .str z | _ => .none)]
          · rfl
          · intro x hx
            simp only [List.mem_cons, List.not_mem_nil, or_false] at hx
            rcases hx with rfl | rfl
            · exact if_pos (by decide +kernel)
            · rfl, by decide +kernel⟩
      · exact ⟨[.str "letter"], by
          rw [mapM_all (g := fun w => match w with | .str z => .str z | _ => .none)]
          · rfl
          · intro x hx
            simp only [List.mem_cons, List.not_mem_nil, or_false] at hx
            rcases hx with rfl
            exact if_pos (by decide +kernel), by decide +kernel⟩
    obtain ⟨ds, hd, he⟩ := hd
    exact ⟨.list ds, by rw [toD_lst (k := 63) h1, hd]; rfl, by rw [toD_lst (k := 63) h2, hd]; rfl, he⟩
  obtain ⟨d, e1, e2, e3⟩ := e
  show ((toD st 64 (.ref m)).bind fun d => (toD st 64 (.ref k)).map fun e => PyData.eqv d e) = _
  rw [e1, e2]
  exact congrArg some e3

end Lw

namespace Lw
open PySem PySem.Spec PyProof.Rows L2 Sw
/-- one step; the goal's head says which -/
local macro_rules | `(tactic| decreasing_trivial_pre_omega) => `(tactic| first
  | ((with_reducible refine Sw.gWi ?_); first
    | with_reducible refine Sw.ws_ift ?_
    | with_reducible refine Sw.ws_iff ?_
    | with_reducible refine Sw.ws_ifn ?_
    | ((with_reducible refine Sw.ws_ifd1 ?_ ?_); (focus first | assumption | omega | (simp; done)))
    | ((with_reducible refine Sw.ws_ifd0 ?_ ?_); (focus first | assumption | omega | (simp; done)))
    | ((with_reducible refine Sw.ws_ifb1 ?_ ?_); (focus rfl))
    | ((with_reducible refine Sw.ws_ifb0 ?_ ?_); (focus rfl))
    )
  | ((with_reducible refine Sw.gW ?_); first
    | with_reducible refine Sw.ws_seqS ?_
    | with_reducible refine Sw.ws_ifS ?_
    | with_reducible refine Sw.ws_forN ?_
    | with_reducible refine Sw.ws_seq ?_
    | with_reducible refine Sw.ws_set ?_
    | with_reducible refine Sw.ws_if ?_
    | with_reducible refine Sw.ws_ret ?_
    | with_reducible refine Sw.ws_next ?_
    | with_reducible refine Sw.ws_drop ?_
    | with_reducible refine Sw.ws_for ?_
    | with_reducible refine Sw.ws_asg ?_
    | with_reducible refine Sw.ws_retN ?_
    | with_reducible refine Sw.ws_raise ?_
    | with_reducible refine Sw.ws_raiseD ?_
    | with_reducible refine Sw.ws_gN ?_
    | with_reducible refine Sw.ws_brk ?_
    | with_reducible refine Sw.ws_cnt ?_
    | ((with_reducible apply Sw.ws_aug); rfl)
    | with_reducible refine Sw.ws_gSub ?_
    | with_reducible refine Sw.ws_gsCons ?_
    | with_reducible refine Sw.ws_gsNil ?_
    | ((with_reducible apply Sw.ws_gsConsE); (focus rfl))
    | ((with_reducible apply Sw.ws_gsNilE); (focus rfl))
    | with_reducible refine Sw.ws_par2 ?_
    | with_reducible refine Sw.ws_par3 ?_
    | ((with_reducible refine Sw.ws_gTup ?_ ?_); (focus rfl))
    | ((with_reducible apply Sw.ws_gSeqN); (focus first | rfl | exact getS_at (by assumption) | exact getS_at sto_at | exact getS_at (sto_app (by assumption)) | exact getS_at (sto_app sto_at)); (focus first | rfl | decide | (simp; done) | (simp; omega)))
    | ((with_reducible apply Sw.ws_gStarN); (focus first | rfl | exact getS_at (by assumption) | exact getS_at sto_at | exact getS_at (sto_app (by assumption)) | exact getS_at (sto_app sto_at)); (focus first | decide | (simp; done) | (simp; omega)))
    )
  | ((with_reducible refine Sw.gI ?_); first
    | with_reducible refine Sw.wp_ift ?_
    | with_reducible refine Sw.wp_iff ?_
    | with_reducible refine Sw.wp_ifn ?_
    | ((with_reducible refine Sw.wp_ifd1 ?_ ?_); (focus first | assumption | omega | (simp; done)))
    | ((with_reducible refine Sw.wp_ifd0 ?_ ?_); (focus first | assumption | omega | (simp; done)))
    | ((with_reducible refine Sw.wp_ifb1 ?_ ?_); (focus rfl))
    | ((with_reducible refine Sw.wp_ifb0 ?_ ?_); (focus rfl))
    )
  | ((with_reducible refine Sw.gF ?_); first
    | ((with_reducible apply Sw.v_var); rfl)
    | with_reducible refine Sw.v_c ?_
    | with_reducible refine Sw.v_cons ?_
    | with_reducible refine Sw.v_nil ?_
    | ((with_reducible refine Sw.v_fn ?_))
    | with_reducible refine Sw.v_call ?_
    | ((with_reducible apply Sw.v_ask); (focus rfl); (focus rfl))
    | with_reducible refine Sw.v_bin ?_
    | with_reducible refine Sw.v_cmp ?_
    | with_reducible refine Sw.v_cmpE ?_
    | with_reducible refine Sw.v_tru ?_
    | with_reducible refine Sw.v_notT ?_
    | with_reducible refine Sw.v_andT ?_
    | with_reducible refine Sw.v_orT ?_
    | with_reducible refine Sw.v_and ?_
    | with_reducible refine Sw.v_or ?_
    | with_reducible refine Sw.v_not ?_
    | with_reducible refine Sw.v_if ?_
    | with_reducible refine Sw.v_chn ?_
    | with_reducible refine Sw.v_chnE ?_
    | with_reducible refine Sw.v_tup ?_
    | with_reducible refine Sw.v_lst ?_
    | with_reducible refine Sw.v_sl ?_
    | with_reducible refine Sw.v_no ?_
    | with_reducible refine Sw.v_so ?_
    | with_reducible refine Sw.v_neg ?_
    | with_reducible refine Sw.v_lc ?_
    | with_reducible refine Sw.v_it ?_
    | with_reducible refine Sw.v_seqI ?_
    | with_reducible refine Sw.v_mt ?_
    | with_reducible refine Sw.v_m1 ?_
    | with_reducible refine Sw.v_dict0 ?_
    | with_reducible refine Sw.v_it1 ?_
    )
  | ((with_reducible refine Sw.gO ?_); first
    | with_reducible refine Sw.v_ltI ?_
    | with_reducible refine Sw.v_leI ?_
    | with_reducible refine Sw.v_gtI ?_
    | with_reducible refine Sw.v_geI ?_
    | with_reducible refine Sw.v_eqI ?_
    | with_reducible refine Sw.v_neI ?_
    | with_reducible refine Sw.v_eqS ?_
    | with_reducible refine Sw.v_neS ?_
    | with_reducible refine Sw.v_truB ?_
    | with_reducible refine Sw.v_truI ?_
    | with_reducible refine Sw.v_truN ?_
    | with_reducible refine Sw.v_truT ?_
    | with_reducible refine Sw.v_seqT ?_
    | with_reducible refine Sw.v_seqR ?_
    | with_reducible refine Sw.v_seqS ?_
    | ((with_reducible apply Sw.v_seqL); (focus first | assumption | exact sto_at | exact sto_app (by assumption) | exact sto_app (sto_app (by assumption)) | exact sto_app sto_at | exact sto_app (sto_app sto_at)))
    | with_reducible refine Sw.v_inK ?_
    | with_reducible refine Sw.v_notInK ?_
    | ((with_reducible apply Sw.wp_opt); (focus rfl))
    )
  | ((with_reducible refine Sw.gE ?_); first
    | with_reducible refine Sw.wp_bind ?_
    | with_reducible refine Sw.wp_ok ?_
    | with_reducible refine Sw.v_addI ?_
    | with_reducible refine Sw.v_subI ?_
    | ((with_reducible refine Sw.v_mulI (.inl ?_) ?_); (focus first | decide | omega))
    | ((with_reducible refine Sw.v_mulT ?_ ?_); exact ⟨by simp, by decide, by decide, by simp⟩)
    | ((with_reducible apply Sw.v_mulL); (focus first | assumption | exact sto_at | exact sto_app (by assumption) | exact sto_app (sto_app (by assumption)) | exact sto_app sto_at | exact sto_app (sto_app sto_at)); (focus exact ⟨by decide, by decide, by simp⟩))
    | ((with_reducible refine Sw.v_modI ?_ ?_); (focus first | decide | omega))
    | ((with_reducible refine Sw.v_addT ?_ ?_); refine line1000 ?_; (focus first | decide | (simp; done) | (simp; omega)))
    | ((with_reducible apply Sw.v_powE); (focus decide +kernel); (focus (simp only [Int.reduceToNat, Int.reducePow]; rfl)))
    | ((with_reducible apply Sw.v_ixL); (first | assumption | exact sto_at | exact sto_app (by assumption) | exact sto_app (sto_app (by assumption)) | exact sto_app sto_at | exact sto_app (sto_app sto_at)); (focus first | rfl | assumption | exact atI_nat (by assumption) | exact Sw.atc0 | exact Sw.atc1 | exact Sw.atc2))
    | ((with_reducible apply Sw.v_ixT); (focus first | rfl | assumption | exact atI_nat (by assumption) | exact Sw.atc0 | exact Sw.atc1 | exact Sw.atc2))
    | ((with_reducible apply Sw.v_ixR); (focus first | rfl | assumption | exact atI_nat (by assumption) | exact Sw.atc0 | exact Sw.atc1 | exact Sw.atc2))
    | with_reducible refine Sw.v_slc1 ?_
    | with_reducible refine Sw.v_slc2 ?_
    | ((with_reducible apply Sw.v_slLt1); (focus first | assumption | exact sto_at | exact sto_app (by assumption) | exact sto_app (sto_app (by assumption)) | exact sto_app sto_at | exact sto_app (sto_app sto_at)))
    | ((with_reducible apply Sw.v_slLt2); (focus first | assumption | exact sto_at | exact sto_app (by assumption) | exact sto_app (sto_app (by assumption)) | exact sto_app sto_at | exact sto_app (sto_app sto_at)))
    | ((with_reducible apply Sw.v_slLd1); (focus first | assumption | exact sto_at | exact sto_app (by assumption) | exact sto_app (sto_app (by assumption)) | exact sto_app sto_at | exact sto_app (sto_app sto_at)))
    | ((with_reducible apply Sw.v_addL); (focus first | assumption | exact sto_at | exact sto_app (by assumption) | exact sto_app (sto_app (by assumption)) | exact sto_app sto_at | exact sto_app (sto_app sto_at)); (focus first | assumption | exact sto_at | exact sto_app (by assumption) | exact sto_app (sto_app (by assumption)) | exact sto_app sto_at | exact sto_app (sto_app sto_at)); (focus first | decide | (simp; done) | (simp; omega)))
    | with_reducible refine Sw.v_sortSet ?_
    | ((with_reducible refine Sw.v_sl0 ?_ ?_); (focus omega))
    | ((with_reducible refine Sw.v_sl1 ?_ ?_); (focus omega))
    | with_reducible refine Sw.v_lenT ?_
    | with_reducible refine Sw.v_lenR ?_
    | ((with_reducible apply Sw.v_lenL); (focus first | assumption | exact sto_at | exact sto_app (by assumption) | exact sto_app (sto_app (by assumption)) | exact sto_app sto_at | exact sto_app (sto_app sto_at)))
    | ((with_reducible apply Sw.v_appT); (focus first | decide | (simp; done) | (simp; omega)))
    | with_reducible refine Sw.v_intI ?_
    | with_reducible refine Sw.v_intB ?_
    | with_reducible refine Sw.v_absI ?_
    | with_reducible refine Sw.v_max2 ?_
    | with_reducible refine Sw.v_min2 ?_
    | with_reducible refine Sw.v_listT ?_
    | ((with_reducible apply Sw.v_listL); (focus first | assumption | exact sto_at | exact sto_app (by assumption) | exact sto_app (sto_app (by assumption)) | exact sto_app sto_at | exact sto_app (sto_app sto_at)))
    | with_reducible refine Sw.v_tupleT ?_
    | ((with_reducible apply Sw.v_tupleL); (focus first | assumption | exact sto_at | exact sto_app (by assumption) | exact sto_app (sto_app (by assumption)) | exact sto_app sto_at | exact sto_app (sto_app sto_at)))
    | ((with_reducible refine Sw.v_rng1 ?_ ?_); (focus first | exact ⟨by omega, by omega, by omega, by omega⟩ | decide))
    | ((with_reducible refine Sw.v_rng2 ?_ ?_); (focus first | exact ⟨by omega, by omega, by omega, by omega⟩ | decide))
    | with_reducible refine Sw.v_zipT ?_
    | with_reducible refine Sw.v_enumT ?_
    | ((with_reducible apply Sw.v_enumL); (focus first | assumption | exact sto_at | exact sto_app (by assumption) | exact sto_app (sto_app (by assumption)) | exact sto_app sto_at | exact sto_app (sto_app sto_at)))
    | with_reducible refine Sw.v_andI ?_
    | with_reducible refine Sw.v_orI ?_
    | ((with_reducible refine Sw.v_shrI ?_ ?_); decide)
    | ((with_reducible apply Sw.v_allL); (focus first | assumption | exact sto_at | exact sto_app (by assumption) | exact sto_app (sto_app (by assumption)) | exact sto_app sto_at | exact sto_app (sto_app sto_at)))
    | ((with_reducible apply Sw.v_anyL); (focus first | assumption | exact sto_at | exact sto_app (by assumption) | exact sto_app (sto_app (by assumption)) | exact sto_app sto_at | exact sto_app (sto_app sto_at)))
    | with_reducible refine Sw.v_addGI ?_
    | ((with_reducible refine Sw.v_addGT ?_ ?_); refine line1000 ?_; (focus first | decide | (simp; done) | (simp; omega)))
    | ((with_reducible apply Sw.v_ixK); (focus rfl))
    )
  | with_reducible refine ⟨_, rfl, ?_⟩
  | with_reducible refine ⟨_, _, rfl, ?_⟩
  | with_reducible refine ⟨_, _, _, rfl, ?_⟩
  | ((with_reducible refine And.intro ?_ ?_); (focus first | rfl | decide | exact isLst_at sto_at | exact isLst_at (by assumption) | exact isLst_at (sto_app sto_at) | exact isLst_at (sto_app (by assumption)) | (simp; done) | (simp; omega)))
  | exact ⟨[], (List.append_nil _).symm⟩
  | with_reducible rfl
  | with_reducible refine Sw.ex_app ?_
  | exact ⟨_, rfl⟩
  )
theorem Spt.app {k : Nat} {w : W} {s g : Sto} (h : Spt k w s) : Spt k w (s ++ g) := h.imp id fun ⟨m, l, e, hs⟩ => ⟨m, l, e, sto_app hs⟩
theorem Spt.keep {k n : Nat} {w : W} {c : Int} {s s' : Sto} (h : Spt k w s) (K : Keep n s s') (P : Pot s' n c) : Spt k w s' := h.imp id fun ⟨m, l, e, hs⟩ => by
  by_cases hm : m = n
  · subst hm
    obtain ⟨a, b, d, h, _⟩ := P
    exact ⟨m, _, e, h⟩
  · exact ⟨m, l, e, K.at hs hm⟩
theorem spd_wp {st : Sto} {n : Nat} {c : Int} {d : Dd} (h : d.ok) (P : Pot st n c) (hc : c ≤ 10 ^ 9) : wp (f_law_spoilt [.ref n, d.w] st) (fun w s => Spt 1 w s ∧ Keep n st s ∧ Pot s n (c + 20)) noX := by
  have hp := Dd.pl h
  cases d <;> exact spoilt_wp P hc (by simp) (by simp) (by omega) hp.2 (fun row hr => by simp at hr)
theorem wI8_pl {ns : List Nat} (h : ∀ x ∈ ns, x ≤ 10 ^ 50) : ∀ x ∈ wI8 ns, PlD 1 x := fun x hx => by
  obtain ⟨k, hk, rfl⟩ := List.mem_map.mp hx
  have := h k hk
  show (k : Int).natAbs ≤ 10 ^ 50
  omega
theorem spl_wp {st : Sto} {n : Nat} {c : Int} {d : Lt} (h : d.ok (10 ^ 50)) (P : Pot st n c) (hc : c ≤ 10 ^ 9) : wp (f_law_spoilt [.ref n, d.w] st) (fun w s => Spt 2 w s ∧ Keep n st s ∧ Pot s n (c + 20)) noX := by
  have hp := Lt.pl h
  have b5 : (65535 : Nat) ≤ 10 ^ 50 := by decide +kernel
  cases d with
  | pg m c n ns =>
    exact spoilt_wp P hc (by simp) (by simp) (by omega) hp.2 fun row hr => by
      simp at hr
      subst hr
      have h4 := h.2.2.2
      exact ⟨by omega, by rw [wI8_len]; have := h4.1; omega, by rw [wI8_len]; have := h4.1; omega, wI8_pl fun x hx => Nat.le_trans (h4.2 x hx) b5⟩
  | la m r cs =>
    exact spoilt_wp P hc (by simp) (by simp) (by omega) hp.2 fun row hr => by
      simp at hr
      subst hr
      have h4 := h.2.2
      exact ⟨by omega, by rw [wI8_len]; exact h4.1.1, by rw [wI8_len]; have := h4.1.2; omega, wI8_pl fun x hx => (h4.2 x hx).2⟩
  | lk m ns =>
    exact spoilt_wp P hc (by simp) (by simp) (by omega) hp.2 fun row hr => by
      simp at hr
      subst hr
      have h4 := h.2
      exact ⟨by omega, by rw [wI8_len]; exact h4.1.1, by rw [wI8_len]; have := h4.1.2; omega, wI8_pl fun x hx => Nat.le_trans (h4.2.1 x hx) (by omega)⟩
  | br z m =>
    exact spoilt_wp P hc (by simp) (by simp) (by omega) hp.2 fun row hr => by simp at hr
theorem dep_i {n : Nat} {i : Int} : depW (n + 1) (.int i) := .inl ⟨_, rfl⟩
theorem dep_s {n : Nat} {z : Str} : depW (n + 1) (.str z) := .inr (.inl ⟨_, rfl⟩)
theorem dep_t {n : Nat} {l : List W} (hl : l.length ≤ 100) (h : ∀ x ∈ l, depW n x) : depW (n + 1) (.tup l) := .inr (.inr ⟨_, rfl, hl, h⟩)
theorem Dd.dep {d : Dd} : depW 6 d.w := by
  cases d <;> refine dep_t (by simp) fun x hx => ?_ <;> simp only [List.mem_cons, List.not_mem_nil, or_false] at hx
  · rcases hx with rfl | rfl <;> first | exact dep_i | exact dep_s
  · rcases hx with rfl | rfl | rfl <;> first | exact dep_i | exact dep_s
  · rcases hx with rfl | rfl <;> first | exact dep_i | exact dep_s
  · rcases hx with rfl | rfl <;> first | exact dep_i | exact dep_s
theorem Lt.dep {B : Nat} {d : Lt} (h : d.ok B) : depW 6 d.w := by
  have r : ∀ ns : List Nat, ns.length ≤ 100 → depW 5 (.tup (wI8 ns)) := fun ns hl => dep_page (n := 3) hl
  cases d <;> refine dep_t (by simp) fun x hx => ?_ <;> simp only [List.mem_cons, List.not_mem_nil, or_false] at hx
  · rcases hx with rfl | rfl | rfl | rfl | rfl <;> first | exact dep_i | exact dep_s | exact r _ (by have := h.2.2.2.1; omega)
  · rcases hx with rfl | rfl | rfl | rfl <;> first | exact dep_i | exact dep_s | exact r _ (by have := h.2.2.1.2; omega)
  · rcases hx with rfl | rfl | rfl <;> first | exact dep_i | exact dep_s | exact r _ (by have := h.2.1.2; omega)
  · rcases hx with rfl | rfl <;> first | exact dep_i | exact dep_s
section
variable {nx : En → Sto → Prop} {rt : W → Sto → Prop} {lp : Bool → En → Sto → Prop} {ex : Str → Flds → En → Sto → Prop}
theorem part_d {x0 x1 x3 x4 x5 x6 x7 x8 x9 x10 : Option W} {w : W} {s : Sto} {rest : FS} (h : Spt 1 w s) (q : ∀ y8 g, ws (rest [x0, x1, some w, x3, x4, x5, x6, x7, y8, x9, x10] (s ++ g)) nx rt lp ex) :
    ws ((fSeq (fSet 8 (fIf (fTru (fFn 1 f_law_is_deed (fCons (fVar 2) fNil))) (fFn 1 f_law_told (fCons (fVar 2) fNil)) (fLst (fCons (fC (.str "deed")) (fCons (fC (.int 0)) fNil))))) (fSeq (fIfS (fCmp wNe (fFn 2 f_law_met (fCons (fC (.gl "deed_text")) (fCons (fVar 2) fNil))) (fVar 8)) (fRet (fC (.bl false))) fNext) rest)) [x0, x1, some w, x3, x4, x5, x6, x7, x8, x9, x10] s) nx rt lp ex := by
  repeat decreasing_trivial_pre_omega
  refine wp_eq (lisdeed_ok h) ?_
  cases hd : isDeedW w with
  | true =>
    obtain ⟨d, hk, rfl⟩ := Dd.of hd
    repeat decreasing_trivial_pre_omega
    refine wp_eq (told_d hk) ?_
    repeat decreasing_trivial_pre_omega
    refine wp_eq (met_d (deedtext_ok hk)) ?_
    repeat decreasing_trivial_pre_omega
    have q2 := q (some (.str d.s)) []
    rw [List.append_nil] at q2
    exact q2
  | false =>
    repeat decreasing_trivial_pre_omega
    refine wp_use (met_nd (deedtext_no h.app hd)) ?_
    rintro _ _ ⟨m, rfl, hm, hs, g, rfl⟩
    repeat decreasing_trivial_pre_omega
    refine Sw.v_neW (eqOdd (.inl rfl) hs (sto_app sto_at)) ?_
    repeat decreasing_trivial_pre_omega
    have q2 := q (some (.ref s.length)) ([Ob.lst [.str "deed", .int 0]] ++ g)
    rw [← List.append_assoc] at q2
    exact q2
theorem part_l {x0 x1 x2 x3 x4 x5 x6 x7 x8 x9 : Option W} {w : W} {s : Sto} (h : Spt 2 w s) (q : ∀ y8 g, nx [x0, x1, x2, x3, x4, x5, x6, x7, y8, x9, some w] (s ++ g)) :
    ws (((fSeq (fSet 8 (fIf (fTru (fFn 1 f_law_is_letter (fCons (fVar 10) fNil))) (fFn 1 f_law_told (fCons (fVar 10) fNil)) (fLst (fCons (fC (.str "letter")) fNil)))) (fIfS (fCmp wNe (fFn 2 f_law_met (fCons (fC (.gl "letter_text")) (fCons (fVar 10) fNil))) (fVar 8)) (fRet (fC (.bl false))) fNext))) [x0, x1, x2, x3, x4, x5, x6, x7, x8, x9, some w] s) nx rt lp ex := by
  repeat decreasing_trivial_pre_omega
  refine wp_eq (lisletter_ok h) ?_
  cases hd : isLetW w with
  | true =>
    obtain ⟨d, hk, rfl⟩ := Lt.of (h.elim id fun ⟨m, l, e, _⟩ => by subst e; cases hd) hd
    repeat decreasing_trivial_pre_omega
    refine wp_eq (told_l hk) ?_
    repeat decreasing_trivial_pre_omega
    refine wp_eq (met_l (lettertext_ok hk)) ?_
    repeat decreasing_trivial_pre_omega
    have q2 := q (some (.str d.s)) []
    rw [List.append_nil] at q2
    exact q2
  | false =>
    repeat decreasing_trivial_pre_omega
    refine wp_use (met_nl (lettertext_no h.app hd)) ?_
    rintro _ _ ⟨m, rfl, hm, hs, g, rfl⟩
    repeat decreasing_trivial_pre_omega
    refine Sw.v_neW (eqOdd (.inr rfl) hs (sto_app sto_at)) ?_
    repeat decreasing_trivial_pre_omega
    have q2 := q (some (.ref s.length)) ([Ob.lst [.str "letter"]] ++ g)
    rw [← List.append_assoc] at q2
    exact q2
end
theorem pot_wp {l : List Int} {x : W} {st : Sto} {k : Nat} (hx : getL st x = some (l.map W.int)) (hk : k ≤ 10 ^ 6) : wp (f_law_pot [x, .int k] st) (fun w s => w = .ref st.length ∧ Pot s st.length 0) noX := by
  obtain ⟨o, h, P⟩ := pot_ok hx hk
  exact wp_eq h ⟨rfl, P⟩
theorem rng_mem {b : Int} {w : W} (h : w ∈ rngW 0 b) : ∃ k : Nat, w = .int k ∧ (k : Int) < b := by
  simp only [rngW, List.mem_map, List.mem_range] at h
  obtain ⟨k, hk, rfl⟩ := h
  exact ⟨k, by simp, by omega⟩
theorem deed_nt {w : W} {st : Sto} (ht : TyB st w) (hn : isTup w = false) : f_deed_text [w] st = .ex "NoDeed" [("number", .int 0)] st := by
  have h : f_is_deed [w] st = .ok (.bl false) st := by
    refine clean_wp (wp_run rfl ?_) rfl
    unfold b_is_deed
    repeat decreasing_trivial_pre_omega
    refine wp_eq (isi_tup ht) ?_
    rw [hn]
    repeat decreasing_trivial_pre_omega
  refine clean_ex ?_
  refine wp_exq (wp_run (E := fun C fs s => C = ("NoDeed" : Str) ∧ fs = [(("number" : Str), W.int 0)] ∧ s = st) (Q := fun _ _ => False) rfl ?_)
  unfold b_deed_text
  repeat decreasing_trivial_pre_omega
  refine wp_eq h ?_
  repeat decreasing_trivial_pre_omega
theorem letter_nt {w : W} {st : Sto} (ht : TyB st w) (hn : isTup w = false) : f_letter_text [w] st = .ex "NoLetter" [] st := by
  have h : f_is_letter [w] st = .ok (.bl false) st := by
    refine clean_wp (wp_run rfl ?_) rfl
    unfold b_is_letter
    repeat decreasing_trivial_pre_omega
    refine wp_eq (isi_tup ht) ?_
    rw [hn]
    repeat decreasing_trivial_pre_omega
  refine clean_ex ?_
  refine wp_exq (wp_run (E := fun C fs s => C = ("NoLetter" : Str) ∧ fs = [] ∧ s = st) (Q := fun _ _ => False) rfl ?_)
  unfold b_letter_text
  repeat decreasing_trivial_pre_omega
  refine wp_eq h ?_
  repeat decreasing_trivial_pre_omega
def Nd (w : W) (st : Sto) : Prop := f_deed_text [w] st = .ex "NoDeed" [("number", .int 0)] st ∧ f_letter_text [w] st = .ex "NoLetter" [] st
theorem Nd.nt {w : W} {st : Sto} (ht : TyB st w) (hn : isTup w = false) : Nd w st := ⟨deed_nt ht hn, letter_nt ht hn⟩
theorem Nd.tup {l : List W} {st : Sto} (hp : PlD 2 (.tup l)) (h1 : isDeedW (.tup l) = false) (h2 : isLetW (.tup l) = false) : Nd (.tup l) st := ⟨deedtext_no (.inl hp) h1, lettertext_no (.inl (hp.up (by omega))) h2⟩
def oddL (s : Sto) : List W := [.non, .int 0, .str "go 0", .tup [], .ref s.length, .ref (s ++ [Ob.lst [W.str "go", .int 0]]).length, .tup [.str "go"], .tup [.int 0, .int 0], .tup [.non, .int 0]]
def oddS (s : Sto) : Sto := s ++ [Ob.lst [.str "go", .int 0]] ++ [Ob.dct []] ++ [Ob.lst (oddL s)]
theorem law_wp (l : List Int) (hl : l.length ≤ 63) : wp (f_law [.rol (l.map W.int)] []) (fun w _ => w = .bl true) noX := by
  have b8 := b800
  have b39 : (10 : Nat) ^ 39 ≤ 10 ^ 50 := by decide +kernel
  refine wp_clean (Q := fun w _ => w = .bl true) (wp_runN ?_) fun w s h _ _ => h
  unfold b_law
  repeat decreasing_trivial_pre_omega
  refine ws_forS (fun r e _ => (∀ w ∈ r, ∃ k : Nat, w = .int k ∧ k ≤ 100) ∧ ∃ x1 x2 x3 x4 x5 x6 x7 x8 x9 x10, e = [some (.rol (l.map W.int)), x1, x2, x3, x4, x5, x6, x7, x8, x9, x10]) ⟨fun w h => ?_, _, _, _, _, _, _, _, _, _, _, rfl⟩ ?_ ?_
  · obtain ⟨k, rfl, h⟩ := rng_mem h
    exact ⟨k, rfl, by omega⟩
  · rintro w r e s ⟨hr, x1, x2, x3, x4, x5, x6, x7, x8, x9, x10, rfl⟩
    obtain ⟨k, rfl, hk⟩ := hr w List.mem_cons_self
    refine ⟨trivial, ?_⟩
    repeat decreasing_trivial_pre_omega
    refine wp_use (pot_wp (l := l) rfl (by omega)) ?_
    rintro _ s1 ⟨rfl, P1⟩
    repeat decreasing_trivial_pre_omega
    refine ws_forS (fun r e s' => ∃ x2 x4 x5 x6 x7 x8 x9 x10 c, e = [some (.rol (l.map W.int)), some (.int k), x2, some (.ref s.length), x4, x5, x6, x7, x8, x9, x10] ∧ Pot s' s.length c ∧ c + 2000 * (r.length : Int) ≤ 12000) ⟨_, _, _, _, _, _, _, _, 0, rfl, P1, by rw [rngW_length]; decide⟩ ?_ ?_
    · clear x2 x3 x4 x5 x6 x7 x8 x9 x10
      rintro w r e s2 ⟨x2, x4, x5, x6, x7, x8, x9, x10, c, rfl, P2, hc⟩
      simp only [List.length_cons] at hc
      push_cast at hc
      refine ⟨trivial, ?_⟩
      repeat decreasing_trivial_pre_omega
      refine wp_use (take_wp P2 (by omega) (by omega) (by omega)) ?_
      rintro _ s3 ⟨v3, rfl, h3, K3, P3⟩
      repeat decreasing_trivial_pre_omega
      rw [show (1 + (v3 : Int)) = ((1 + v3 : Nat) : Int) by omega]
      refine wp_use (deed_wp P3 (by omega) (by omega) (by omega)) ?_
      rintro _ s4 ⟨⟨d, hd, rfl⟩, K4, P4⟩
      repeat decreasing_trivial_pre_omega
      refine wp_use (take_wp P4 (by omega) (by omega) (by omega)) ?_
      rintro _ s5 ⟨v5, rfl, h5, K5, P5⟩
      repeat decreasing_trivial_pre_omega
      rw [show (1 + (v5 : Int)) = ((1 + v5 : Nat) : Int) by omega]
      refine wp_use (letter_wp P5 (by omega) (by omega) (by omega)) ?_
      rintro _ s6 ⟨⟨t, ht, rfl⟩, K6, P6⟩
      have ht39 := ht
      have ht := Lt.up b39 ht
      repeat decreasing_trivial_pre_omega
      refine ws_forS (fun r e s' => s' = s6 ∧ ∃ x7 x9, e = [some (.rol (l.map W.int)), some (.int k), x2, some (.ref s.length), some w, some d.w, some t.w, x7, x8, x9, x10]) ⟨rfl, _, _, rfl⟩ ?_ ?_
      · clear x7 x9
        rintro w2 r2 e _ ⟨rfl, x7, x9, rfl⟩
        refine ⟨trivial, ?_⟩
        repeat decreasing_trivial_pre_omega
        refine wp_eq (deedtext_ok hd) ?_
        repeat decreasing_trivial_pre_omega
        refine wp_eq (told_d hd) ?_
        repeat decreasing_trivial_pre_omega
        refine wp_eq (same_ok 6 _ _ dep_s) ?_
        repeat decreasing_trivial_pre_omega
        refine wp_eq (told_d hd) ?_
        repeat decreasing_trivial_pre_omega
        refine wp_eq (readdeed_ok hd) ?_
        repeat decreasing_trivial_pre_omega
        refine wp_eq (same_ok 6 _ _ Dd.dep) ?_
        repeat decreasing_trivial_pre_omega
        refine wp_eq (told_l ht) ?_
        repeat decreasing_trivial_pre_omega
        refine wp_eq (lettertext_ok ht) ?_
        repeat decreasing_trivial_pre_omega
        refine wp_eq (same_ok 6 _ _ dep_s) ?_
        repeat decreasing_trivial_pre_omega
        refine wp_eq (readletter_ok ht39) ?_
        repeat decreasing_trivial_pre_omega
        refine wp_eq (same_ok 6 _ _ (Lt.dep ht)) ?_
        repeat decreasing_trivial_pre_omega
        exact ⟨_, _, rfl⟩
      · rintro e _ ⟨rfl, x7, x9, rfl⟩
        refine ⟨trivial, ?_⟩
        repeat decreasing_trivial_pre_omega
        refine wp_use (spd_wp hd P6 (by omega)) ?_
        rintro w7 s7 ⟨S7, K7, P7⟩
        repeat decreasing_trivial_pre_omega
        refine wp_use (spl_wp ht P7 (by omega)) ?_
        rintro w8 s8 ⟨S8, K8, P8⟩
        have S7' := S7.keep K8 P8
        refine Sw.v_nil ⟨_, _, rfl, ?_⟩
        refine part_d S7' fun y8 g => ?_
        refine part_l S8.app fun y8 g' => ?_
        exact ⟨_, _, _, _, _, _, _, _, _, rfl, P8.app.app, by omega⟩
    · rintro e s2 ⟨x2, x4, x5, x6, x7, x8, x9, x10, c, rfl, P2, hc⟩
      exact ⟨trivial, fun w h => hr w (List.mem_cons_of_mem _ h), _, _, _, _, _, _, _, _, _, _, rfl⟩
  · rintro e s ⟨_, x1, x2, x3, x4, x5, x6, x7, x8, x9, x10, rfl⟩
    refine ⟨trivial, ?_⟩
    repeat decreasing_trivial_pre_omega
    refine ws_forS (fun r e s' => (∀ w ∈ r, ∀ g, Nd w (oddS s ++ g)) ∧ (∃ g, s' = oddS s ++ g) ∧ ∃ x2, e = [some (.rol (l.map W.int)), x1, x2, x3, x4, x5, x6, x7, x8, x9, x10]) ⟨fun w hw g => ?_, ⟨[], (List.append_nil _).symm⟩, _, rfl⟩ ?_ ?_
    · simp only [List.mem_cons, List.not_mem_nil, or_false] at hw
      have i0 : PlD 1 (.int 0) := Nat.zero_le _
      have sg : PlD 1 (.str "go") := (by decide +kernel : PyData.canLay0 (.str "go") = true)
      have nn : PlD 1 .non := trivial
      rcases hw with rfl | rfl | rfl | rfl | rfl | rfl | rfl | rfl | rfl
      · exact .nt TyB.non rfl
      · exact .nt TyB.int rfl
      · exact .nt TyB.str rfl
      · exact .tup ⟨by simp, by simp⟩ rfl rfl
      · exact .nt (TyB.lst (sto_app (sto_app (sto_app sto_at)))) rfl
      · exact .nt (TyB.dct (sto_app (sto_app sto_at))) rfl
      · exact .tup ⟨by simp, by simpa using sg⟩ rfl rfl
      · exact .tup ⟨by simp, by simpa using i0⟩ rfl rfl
      · exact .tup ⟨by simp, by simpa using ⟨nn, i0⟩⟩ rfl rfl
    · rintro w r e _ ⟨hw, ⟨g, rfl⟩, x2, rfl⟩
      have hs : ∀ g, (oddS s ++ g)[(s ++ [Ob.lst [.str "go", .int 0]] ++ [Ob.dct []]).length]? = some (.lst (oddL s)) := fun g => sto_app sto_at
      refine ⟨hs g, ?_⟩
      repeat decreasing_trivial_pre_omega
      refine wp_use (met_nd (hw w List.mem_cons_self g).1) ?_
      rintro _ _ ⟨m, rfl, hm, h1, g1, rfl⟩
      repeat decreasing_trivial_pre_omega
      refine Sw.v_neW (eqOdd (.inl rfl) (sto_app h1) sto_at) ?_
      repeat decreasing_trivial_pre_omega
      have h2 := (hw w List.mem_cons_self (g ++ (g1 ++ [Ob.lst [.str "deed", .int 0]]))).2
      rw [← List.append_assoc, ← List.append_assoc] at h2
      refine wp_use (met_nl h2) ?_
      rintro _ _ ⟨m2, rfl, hm2, h3, g2, rfl⟩
      repeat decreasing_trivial_pre_omega
      refine Sw.v_neW (eqOdd (.inr rfl) (sto_app h3) sto_at) ?_
      repeat decreasing_trivial_pre_omega
      exact ⟨fun w h => hw w (List.mem_cons_of_mem _ h), ⟨g ++ (g1 ++ ([Ob.lst [.str "deed", .int 0]] ++ (g2 ++ [Ob.lst [.str "letter"]]))), by simp only [List.append_assoc]⟩, _, rfl⟩
    · rintro e _ ⟨hw, ⟨g, rfl⟩, x2, rfl⟩
      have hs : ∀ g, (oddS s ++ g)[(s ++ [Ob.lst [.str "go", .int 0]] ++ [Ob.dct []]).length]? = some (.lst (oddL s)) := fun g => sto_app sto_at
      refine ⟨hs g, ?_⟩
      repeat decreasing_trivial_pre_omega
theorem law_ok (l : List Int) (hl : l.length ≤ 63) : ∃ st, f_law [.rol (l.map W.int)] [] = .ok (.bl true) st := by
  obtain ⟨w, st, e, rfl⟩ := wp_get (law_wp l hl)
  exact ⟨st, e⟩

end Lw

theorem PySem.Challenge.cw_lodgewalk_k79_deeds_and_letters_written_holds : PySem.Challenge.rw_lodgewalk_k79_deeds_and_letters_written.Holds := by
  exact Lw.close_law Lw.law_ok
