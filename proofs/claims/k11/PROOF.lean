import PyProof.Rows.All
import HandS.ForMost
import HandS.Flow
import HandS.Wide
import HandS.IsInst
import HandS.Conv
import HandS.Zip
import HandS.TupAny
import HandS.Style
import HandS.NoneIn
import HandS.Lambda
import HandS.RaiseMore
import HandS.TupMul
import PyProof.ReprReads
import PyProof.ReprLen
import KE.GoesMore
import PyProof.Draws
import HandS.WideBits
import HandS.Deep
import KE.DataAny
import HandS.TupSets
import HandS.SetFor
import PyProof.ReprRoads
import HandS.More
import HandS.Star
import PyProof.Rows.SortWalk
import HandS.SortInts
import HandS.ExcValue
import HandS.ExcOwn
import HandS.Small
import HandS.Defaults
import KE.KExcSuper
import HandS.ExcInit
import KE.KTypeName
import HandS.ExcIs
import HandS.FStr
import HandS.TryMany
import KE.RegKSuper
import KE.RegKTryMore
import HandS.ExcField
import HandS.EndTab
import KE.KExcIs
import KE.KDflt
import PyProof.InstNe
import OpenK.KOwn
import HandS.Text
import KE.KIntText
import KE.KLam
import KE.KNestM
import PySem.Challenge.RW_lookmade_k11_deeds_led_back
set_option Elab.async false
set_option linter.all false
set_option maxRecDepth 100000
set_option maxHeartbeats 4000000
/-! DBase: a layer over HandS in which values are trees of data: what a piece of a program does is told over data alone. -/
namespace DL
open PySem PySem.Spec PyProof.Rows L2

/-- data: what a value is, with its parts -/
inductive D where
  | non | bl (b : Bool) | int (i : Int) | str (x : Str) | ty (n : String) | ref (a : Addr)
  | tup (xs : List D) | lst (xs : List D) | dic (kvs : List (Key × D)) | obj (C : Addr) (fs : List (Str × D)) | cell (i : Nat) | scr (ns : List Int) | err (C : Addr) (fs : List (Str × D))
/-- at a: a caught error of the class C, its fields at d -/
def errO (a C d : Addr) : HO := .ext fun h => ∃ (o : Obj) (vs : Array Value), h.get? a = some o ∧ o.cls = .ref C ∧ o.dict = some d ∧ o.data = .fields vs

/-- what is known beside the heap: what stays as it is (Z), where the changing objects are (as), objects kept apart (rs) -/
structure G where
  Z : Hp
  as : List Addr
  rs : List (Addr × HO)

section
variable (K : PySem.W.Frag) (g : G)
mutual
/-- the value v is the data d -/
def Rep : D → V → Prop
  | .non, v => v = .non
  | .bl b, v => v = .bl b
  | .int i, v => v = .int i
  | .str x, v => v = .str x
  | .ty n, v => v = .ty n
  | .ref a, v => v = .ref a
  | .tup ds, v => ∃ a vs, v = .ref a ∧ SqT K g.Z a vs ∧ RepL ds vs
  | .lst ds, v => ∃ a vs, v = .ref a ∧ g.Z a = some (.lst vs) ∧ RepL ds vs
  | .dic ds, v => ∃ a vs, v = .ref a ∧ g.Z a = some (.dK vs) ∧ RepK ds vs
  | .obj C ds, v => ∃ a dx vs, v = .ref a ∧ g.Z a = some (.ins C dx vs) ∧ RepF ds vs
  | .cell i, v => ∃ a, v = .ref a ∧ g.as[i]? = some a
  | .scr ns, v => ∃ a, v = .ref a ∧ SqL K g.Z a (ns.map V.int)
  | .err C ds, v => ∃ a dx vs, v = .ref a ∧ g.Z a = some (errO a C dx) ∧ g.Z dx = some (.xd vs) ∧ RepF ds vs
def RepL : List D → List V → Prop
  | [], vs => vs = []
  | d :: ds, vs => ∃ v r, vs = v :: r ∧ Rep d v ∧ RepL ds r
def RepK : List (Key × D) → List (Key × V) → Prop
  | [], vs => vs = []
  | (k, d) :: ds, vs => ∃ v r, vs = (k, v) :: r ∧ Rep d v ∧ RepK ds r
def RepF : List (Str × D) → List (Str × V) → Prop
  | [], vs => vs = []
  | (k, d) :: ds, vs => ∃ v r, vs = (k, v) :: r ∧ Rep d v ∧ RepF ds r
end
end

/-- more is known -/
structure Sub (g g' : G) : Prop where
  z : ∀ a o, g.Z a = some o → g'.Z a = some o
  a : ∃ t, g'.as = g.as ++ t
structure Ext (g g' : G) : Prop where
  z : ∀ a o, g.Z a = some o → g'.Z a = some o
  a : ∃ t, g'.as = g.as ++ t
  r : g'.rs = g.rs
theorem Ext.sub {g g' : G} (e : Ext g g') : Sub g g' := ⟨e.z, e.a⟩
theorem Sub.at {g g' : G} (e : Sub g g') {i : Nat} {a : Addr} (h : g.as[i]? = some a) : g'.as[i]? = some a := by
  obtain ⟨t, q⟩ := e.a
  rw [q, List.getElem?_append_left (List.getElem?_eq_some_iff.mp h).1]
  exact h
theorem Ext.refl (g : G) : Ext g g := ⟨fun _ _ h => h, ⟨[], by simp⟩, rfl⟩
theorem Ext.trans {g g1 g2 : G} (a : Ext g g1) (b : Ext g1 g2) : Ext g g2 :=
  ⟨fun c o h => b.z c o (a.z c o h), by
    obtain ⟨t, e⟩ := a.a
    obtain ⟨u, e2⟩ := b.a
    exact ⟨t ++ u, by rw [e2, e, List.append_assoc]⟩, b.r.trans a.r⟩
theorem Ext.at {g g' : G} (e : Ext g g') {i : Nat} {a : Addr} (h : g.as[i]? = some a) : g'.as[i]? = some a := by
  obtain ⟨t, q⟩ := e.a
  rw [q, List.getElem?_append_left (List.getElem?_eq_some_iff.mp h).1]
  exact h
theorem Ext.len {g g' : G} (e : Ext g g') : g.as.length ≤ g'.as.length := by
  obtain ⟨t, q⟩ := e.a
  rw [q, List.length_append]
  omega
section
variable {K : PySem.W.Frag} {g g' : G}
theorem sqT_mono {Z Z' : Hp} (z : ∀ a o, Z a = some o → Z' a = some o) {a : Addr} {xs : List V} (h : SqT K Z a xs) : SqT K Z' a xs := by
  rcases h with (h | ⟨o, h⟩) | h
  · exact .inl (.inl (z _ _ h))
  · exact .inl (.inr ⟨o, z _ _ h⟩)
  · exact .inr h
theorem sqL_mono {Z Z' : Hp} (z : ∀ a o, Z a = some o → Z' a = some o) {a : Addr} {xs : List V} (h : SqL K Z a xs) : SqL K Z' a xs := by
  rcases h with (h | ⟨o, h⟩) | h
  · exact .inl (.inl (z _ _ h))
  · exact .inl (.inr ⟨o, z _ _ h⟩)
  · exact .inr h
mutual
theorem Rep.sub (e : Sub g g') : ∀ (d : D) (v : V), Rep K g d v → Rep K g' d v
  | .non, _, h => h
  | .bl _, _, h => h
  | .int _, _, h => h
  | .str _, _, h => h
  | .ty _, _, h => h
  | .ref _, _, h => h
  | .tup ds, v, h => by
    obtain ⟨a, vs, e1, h1, h2⟩ := h
    exact ⟨a, vs, e1, sqT_mono e.z h1, RepL.sub e ds vs h2⟩
  | .lst ds, v, h => by
    obtain ⟨a, vs, e1, h1, h2⟩ := h
    exact ⟨a, vs, e1, e.z _ _ h1, RepL.sub e ds vs h2⟩
  | .dic ds, v, h => by
    obtain ⟨a, vs, e1, h1, h2⟩ := h
    exact ⟨a, vs, e1, e.z _ _ h1, RepK.sub e ds vs h2⟩
  | .obj C ds, v, h => by
    obtain ⟨a, dx, vs, e1, h1, h2⟩ := h
    exact ⟨a, dx, vs, e1, e.z _ _ h1, RepF.sub e ds vs h2⟩
  | .cell i, v, h => by
    obtain ⟨a, e1, h1⟩ := h
    exact ⟨a, e1, e.at h1⟩
  | .scr ns, v, h => by
    obtain ⟨a, e1, h1⟩ := h
    exact ⟨a, e1, sqL_mono e.z h1⟩
  | .err C ds, v, h => by
    obtain ⟨a, dx, vs, e1, h1, h3, h2⟩ := h
    exact ⟨a, dx, vs, e1, e.z _ _ h1, e.z _ _ h3, RepF.sub e ds vs h2⟩
theorem RepL.sub (e : Sub g g') : ∀ (ds : List D) (vs : List V), RepL K g ds vs → RepL K g' ds vs
  | [], _, h => h
  | d :: ds, vs, h => by
    obtain ⟨v, r, e1, h1, h2⟩ := h
    exact ⟨v, r, e1, Rep.sub e d v h1, RepL.sub e ds r h2⟩
theorem RepK.sub (e : Sub g g') : ∀ (ds : List (Key × D)) (vs : List (Key × V)), RepK K g ds vs → RepK K g' ds vs
  | [], _, h => h
  | (k, d) :: ds, vs, h => by
    obtain ⟨v, r, e1, h1, h2⟩ := h
    exact ⟨v, r, e1, Rep.sub e d v h1, RepK.sub e ds r h2⟩
theorem RepF.sub (e : Sub g g') : ∀ (ds : List (Str × D)) (vs : List (Str × V)), RepF K g ds vs → RepF K g' ds vs
  | [], _, h => h
  | (k, d) :: ds, vs, h => by
    obtain ⟨v, r, e1, h1, h2⟩ := h
    exact ⟨v, r, e1, Rep.sub e d v h1, RepF.sub e ds r h2⟩
end
theorem Rep.mono (e : Ext g g') {d : D} {v : V} (h : Rep K g d v) : Rep K g' d v := Rep.sub e.sub d v h
theorem RepL.sub' {ds : List D} {vs : List V} (h : RepL K g ds vs) (e : Sub g g') : RepL K g' ds vs := RepL.sub e ds vs h
theorem RepK.sub' {ds : List (Key × D)} {vs : List (Key × V)} (h : RepK K g ds vs) (e : Sub g g') : RepK K g' ds vs := RepK.sub e ds vs h
theorem RepF.sub' {ds : List (Str × D)} {vs : List (Str × V)} (h : RepF K g ds vs) (e : Sub g g') : RepF K g' ds vs := RepF.sub e ds vs h
theorem RepL.mono (e : Ext g g') {ds : List D} {vs : List V} (h : RepL K g ds vs) : RepL K g' ds vs := RepL.sub e.sub ds vs h
theorem RepK.mono (e : Ext g g') {ds : List (Key × D)} {vs : List (Key × V)} (h : RepK K g ds vs) : RepK K g' ds vs := RepK.sub e.sub ds vs h
theorem RepF.mono (e : Ext g g') {ds : List (Str × D)} {vs : List (Str × V)} (h : RepF K g ds vs) : RepF K g' ds vs := RepF.sub e.sub ds vs h
end

/-! ### lists of data -/
section
variable {K : PySem.W.Frag} {g : G}
theorem RepL.nil : RepL K g [] [] := rfl
theorem RepL.cons {d : D} {v : V} {ds : List D} {vs : List V} (h : Rep K g d v) (t : RepL K g ds vs) : RepL K g (d :: ds) (v :: vs) := ⟨v, vs, rfl, h, t⟩
theorem RepL.length : ∀ {ds : List D} {vs : List V}, RepL K g ds vs → ds.length = vs.length
  | [], vs, h => by
    have h' : vs = [] := h
    subst h'
    rfl
  | d :: ds, vs, h => by
    obtain ⟨v, r, e1, h1, h2⟩ := h
    subst e1
    simp [RepL.length h2]
theorem RepL.get : ∀ {ds : List D} {vs : List V} {i : Nat} {d : D}, RepL K g ds vs → ds[i]? = some d → ∃ v, vs[i]? = some v ∧ Rep K g d v
  | [], _, _, _, _, e => by simp at e
  | x :: ds, vs, 0, d, h, e => by
    obtain ⟨v, r, e1, h1, h2⟩ := h
    subst e1
    simp at e
    subst e
    exact ⟨v, rfl, h1⟩
  | x :: ds, vs, i + 1, d, h, e => by
    obtain ⟨v, r, e1, h1, h2⟩ := h
    subst e1
    obtain ⟨u, q1, q2⟩ := RepL.get (i := i) (d := d) h2 (by simpa using e)
    exact ⟨u, by simpa using q1, q2⟩
theorem RepL.append : ∀ {ds es : List D} {vs us : List V}, RepL K g ds vs → RepL K g es us → RepL K g (ds ++ es) (vs ++ us)
  | [], _, vs, _, h, t => by
    have h' : vs = [] := h
    subst h'
    exact t
  | d :: ds, es, vs, us, h, t => by
    obtain ⟨v, r, e1, h1, h2⟩ := h
    subst e1
    exact ⟨v, r ++ us, rfl, h1, RepL.append h2 t⟩
theorem RepL.take : ∀ {ds : List D} {vs : List V} (n : Nat), RepL K g ds vs → RepL K g (ds.take n) (vs.take n)
  | _, _, 0, _ => by simp only [List.take_zero]; exact rfl
  | [], vs, n + 1, h => by
    have h' : vs = [] := h
    subst h'
    exact rfl
  | d :: ds, vs, n + 1, h => by
    obtain ⟨v, r, e1, h1, h2⟩ := h
    subst e1
    exact ⟨v, _, rfl, h1, RepL.take n h2⟩
theorem RepL.drop : ∀ {ds : List D} {vs : List V} (n : Nat), RepL K g ds vs → RepL K g (ds.drop n) (vs.drop n)
  | _, _, 0, h => by simpa only [List.drop_zero] using h
  | [], vs, n + 1, h => by
    have h' : vs = [] := h
    subst h'
    exact rfl
  | d :: ds, vs, n + 1, h => by
    obtain ⟨v, r, e1, h1, h2⟩ := h
    subst e1
    simpa only [List.drop_succ_cons] using RepL.drop n h2
theorem RepL.set {d : D} {v : V} (h : Rep K g d v) : ∀ {ds : List D} {vs : List V} (i : Nat), RepL K g ds vs → RepL K g (ds.set i d) (vs.set i v)
  | [], vs, i, q => by
    have q' : vs = [] := q
    subst q'
    exact rfl
  | x :: ds, vs, 0, q => by
    obtain ⟨u, r, e1, h1, h2⟩ := q
    subst e1
    exact ⟨v, r, rfl, h, h2⟩
  | x :: ds, vs, i + 1, q => by
    obtain ⟨u, r, e1, h1, h2⟩ := q
    subst e1
    exact ⟨u, _, rfl, h1, RepL.set h i h2⟩
theorem RepL.ints : ∀ {ns : List Int} {vs : List V}, RepL K g (ns.map .int) vs → vs = ns.map V.int
  | [], vs, h => h
  | n :: ns, vs, h => by
    obtain ⟨v, r, e1, h1, h2⟩ := h
    subst e1
    have h1' : v = .int n := h1
    subst h1'
    rw [RepL.ints h2]
    rfl
theorem RepL.of_ints : ∀ (ns : List Int), RepL K g (ns.map .int) (ns.map V.int)
  | [] => rfl
  | n :: ns => ⟨_, _, rfl, rfl, RepL.of_ints ns⟩
end

/-! ### what may change -/
/-- what stands at a changing object's place -/
inductive CO where
  | lst (xs : List D) | ins (C : Addr) (fs : List (Str × D)) | dic (kvs : List (Key × D)) | dead
abbrev Sto := List CO
def COk (K : PySem.W.Frag) (g : G) (H : Hp) (a : Addr) : CO → Prop
  | .lst ds => ∃ vs, H a = some (.lst vs) ∧ RepL K g ds vs ∧ g.Z a = none
  | .ins C ds => ∃ dx vs, H a = some (.ins C dx vs) ∧ RepF K g ds vs ∧ g.Z a = none
  | .dic ds => ∃ vs, H a = some (.dK vs) ∧ RepK K g ds vs ∧ g.Z a = none
  | .dead => True
/-- the tables of code objects that grow while lambdas are made: where, and the name of the code objects in each -/
class Tbs where
  ts : List (Addr × Str)
variable [Tbs]
/-- no table; no table and nothing told by its place -/
abbrev NT (o : HO) : Prop := ∀ ps, o ≠ .tbl ps
structure NE (o : HO) : Prop where
  t : ∀ ps, o ≠ .tbl ps
  e : ∀ P, o ≠ .ext P
theorem tabs_free {T : List (Addr × Str)} {H : Hp} {p : Addr} {o : HO} (t : LamX.Tabs T H) (h : H p = none) : LamX.Tabs T (upd H p o) := t.ext fun b u e => by
  rw [upd_ne (ne_of_none e h)]
  exact e
theorem tabs_upd {T : List (Addr × Str)} {H : Hp} {p : Addr} {o0 o : HO} (t : LamX.Tabs T H) (h : H p = some o0) (n : NE o0) : LamX.Tabs T (upd H p o) := fun q hq => by
  obtain ⟨ps, h1, h2, h3⟩ := t q hq
  have e1 : q.1 ≠ p := fun z => by
    rw [z, h] at h1
    exact n.t _ (Option.some.inj h1)
  refine ⟨ps, by rw [upd_ne e1]; exact h1, h2, fun pos cv hc => ?_⟩
  obtain ⟨c, e2, e3⟩ := h3 pos cv hc
  refine ⟨c, e2, ?_⟩
  have e4 : c ≠ p := fun z => by
    rw [z, h] at e3
    exact n.e _ (Option.some.inj e3)
  rw [upd_ne e4]
  exact e3
theorem COk.ne {K : PySem.W.Frag} {g : G} {H : Hp} {a : Addr} {c : CO} (h : COk K g H a c) (hd : c ≠ .dead) : ∃ o, H a = some o ∧ NE o := by
  cases c with
  | lst ds => obtain ⟨vs, h1, h2, h3⟩ := h; exact ⟨_, h1, (nofun), (nofun)⟩
  | ins C ds => obtain ⟨dx, vs, h1, h2, h3⟩ := h; exact ⟨_, h1, (nofun), (nofun)⟩
  | dic ds => obtain ⟨vs, h1, h2, h3⟩ := h; exact ⟨_, h1, (nofun), (nofun)⟩
  | dead => exact absurd rfl hd
structure Sr (K : PySem.W.Frag) (g : G) (cs : Sto) (H : Hp) : Prop where
  le : ∀ a o, g.Z a = some o → H a = some o
  len : g.as.length = cs.length
  nd : g.as.Nodup
  th : ∀ a ∈ g.as, H a ≠ none ∧ ∀ ps, H a ≠ some (.tbl ps)
  ok : ∀ (i : Nat) (a : Addr) (c : CO), g.as[i]? = some a → cs[i]? = some c → COk K g H a c
  rs : ∀ p ∈ g.rs, H p.1 = some p.2 ∧ g.Z p.1 = none ∧ p.1 ∉ g.as
  rn : (g.rs.map (·.1)).Nodup
  tz : ∀ a o, g.Z a = some o → NT o
  rt : ∀ p ∈ g.rs, NE p.2
  tb : LamX.Tabs Tbs.ts H
/-- the names' values -/
abbrev En := List (Option D)
structure Lr (K : PySem.W.Frag) (g : G) (env : En) (σ : L2.St) : Prop where
  len : env.length = σ.length
  ok : ∀ (i : Nat) (d : D), env[i]? = some (some d) → ∃ v, σ[i]? = some (some v) ∧ Rep K g d v

section
variable {K : PySem.W.Frag} {g g' : G} {cs : Sto} {H : Hp} {env : En} {σ : L2.St}
theorem COk.mono {a : Addr} {c : CO} (e : Sub g g') (hz : c ≠ .dead → g'.Z a = none) {H' : Hp} (hh : c ≠ .dead → ∀ o, H a = some o → H' a = some o) (h : COk K g H a c) : COk K g' H' a c := by
  cases c with
  | lst ds =>
    obtain ⟨vs, h1, h2, h3⟩ := h
    exact ⟨vs, hh (by simp) _ h1, h2.sub' e, hz (by simp)⟩
  | ins C ds =>
    obtain ⟨dx, vs, h1, h2, h3⟩ := h
    exact ⟨dx, vs, hh (by simp) _ h1, h2.sub' e, hz (by simp)⟩
  | dic ds =>
    obtain ⟨vs, h1, h2, h3⟩ := h
    exact ⟨vs, hh (by simp) _ h1, h2.sub' e, hz (by simp)⟩
  | dead => trivial
theorem COk.free {a : Addr} {c : CO} (h : COk K g H a c) (hd : c ≠ .dead) : g.Z a = none := by
  cases c with
  | lst ds => obtain ⟨vs, h1, h2, h3⟩ := h; exact h3
  | ins C ds => obtain ⟨dx, vs, h1, h2, h3⟩ := h; exact h3
  | dic ds => obtain ⟨vs, h1, h2, h3⟩ := h; exact h3
  | dead => exact absurd rfl hd
theorem Lr.mono (l : Lr K g env σ) (e : Ext g g') : Lr K g' env σ :=
  ⟨l.len, fun i d h => by
    obtain ⟨v, h1, h2⟩ := l.ok i d h
    exact ⟨v, h1, h2.mono e⟩⟩
theorem Lr.set (l : Lr K g env σ) {i : Nat} {d : D} {v : V} (h : Rep K g d v) : Lr K g (env.set i (some d)) (σ.set i (some v)) := by
  refine ⟨by simp [l.len], fun j e q => ?_⟩
  by_cases hj : i = j
  · subst hj
    by_cases hi : i < env.length
    · rw [List.getElem?_set_self hi] at q
      cases q
      exact ⟨v, List.getElem?_set_self (by rw [← l.len]; exact hi), h⟩
    · rw [List.getElem?_eq_none (by simpa using hi)] at q
      cases q
  · rw [List.getElem?_set_ne hj] at q
    obtain ⟨u, h1, h2⟩ := l.ok j e q
    exact ⟨u, by rw [List.getElem?_set_ne hj]; exact h1, h2⟩
/-- a new object that stays -/
def G.add (g : G) (p : Addr) (o : HO) : G := { g with Z := upd g.Z p o }
theorem Sr.free (s : Sr K g cs H) {p : Addr} (h : H p = none) : g.Z p = none := by
  cases q : g.Z p with
  | none => rfl
  | some o =>
    rw [s.le p o q] at h
    cases h
theorem Ext.add (s : Sr K g cs H) {p : Addr} (h : H p = none) (o : HO) : Ext g (g.add p o) :=
  ⟨fun a u q => by
    show upd g.Z p o a = some u
    rw [upd_ne (ne_of_none q (s.free h))]
    exact q, ⟨[], by simp [G.add]⟩, rfl⟩
theorem Sr.add (s : Sr K g cs H) {p : Addr} (h : H p = none) (o : HO) (hn : NT o := by first | nofun | (intro _ h; cases h)) : Sr K (g.add p o) cs (upd H p o) := by
  have np : p ∉ g.as := fun q => (s.th p q).1 h
  have e := Ext.add s h o
  refine ⟨fun a u q => ?_, s.len, s.nd, fun a ha => ?_, fun i a c h1 h2 => ?_, fun q hq => ?_, s.rn, fun a u q => ?_, s.rt, tabs_free s.tb h⟩
  · by_cases ha : a = p
    · subst ha
      have q' : upd g.Z a o a = some u := q
      rw [upd_same] at q' ⊢
      exact q'
    · have q' : upd g.Z p o a = some u := q
      rw [upd_ne ha] at q' ⊢
      exact s.le a u q'
  · have : a ≠ p := fun z => np (by rw [← z]; exact ha)
    rw [upd_ne this]
    exact s.th a ha
  · have ne : a ≠ p := fun z => np (by rw [← z]; exact List.mem_of_getElem? h1)
    have q := s.ok i a c h1 h2
    refine q.mono e.sub (fun hd => ?_) (fun _ u hu => ?_)
    · show upd g.Z p o a = none
      rw [upd_ne ne]
      exact q.free hd
    · rw [upd_ne ne]
      exact hu
  · obtain ⟨q1, q2, q3⟩ := s.rs q hq
    have ne : q.1 ≠ p := ne_of_none q1 h
    refine ⟨by rw [upd_ne ne]; exact q1, ?_, q3⟩
    show upd g.Z p o q.1 = none
    rw [upd_ne ne]
    exact q2
  · have q' : upd g.Z p o a = some u := q
    by_cases ha : a = p
    · subst ha
      rw [upd_same] at q'
      cases q'
      exact hn
    · rw [upd_ne ha] at q'
      exact s.tz a u q'
theorem add_at {p : Addr} {o : HO} : (g.add p o).Z p = some o := upd_same
/-- a new object that may change -/
def G.cel (g : G) (p : Addr) : G := { g with as := g.as ++ [p] }
theorem Ext.cel (p : Addr) : Ext g (g.cel p) := ⟨fun _ _ h => h, ⟨[p], rfl⟩, rfl⟩
theorem Sr.cel (s : Sr K g cs H) {p : Addr} (h : H p = none) {o : HO} {c : CO} (hc : COk K (g.cel p) (upd H p o) p c) (hn : NT o := by nofun) : Sr K (g.cel p) (cs ++ [c]) (upd H p o) := by
  have np : p ∉ g.as := fun q => (s.th p q).1 h
  refine ⟨fun a u q => ?_, by simp [G.cel, s.len], ?_, fun a ha => ?_, fun i a d h1 h2 => ?_, fun q hq => ?_, s.rn, s.tz, s.rt, tabs_free s.tb h⟩
  · rw [upd_ne (ne_of_none q (s.free h))]
    exact s.le a u q
  · show (g.as ++ [p]).Nodup
    rw [List.nodup_append]
    refine ⟨s.nd, by simp, ?_⟩
    intro a ha b hb
    have : b = p := by simpa using hb
    subst this
    exact fun z => np (by rw [← z]; exact ha)
  · have ha' : a ∈ g.as ++ [p] := ha
    rcases List.mem_append.mp ha' with q | q
    · rw [upd_ne (fun z => np (by rw [← z]; exact q))]
      exact s.th a q
    · have : a = p := by simpa using q
      subst this
      rw [upd_same]
      exact ⟨nofun, fun ps z => hn ps (Option.some.inj z)⟩
  · have h1' : (g.as ++ [p])[i]? = some a := h1
    by_cases hi : i < g.as.length
    · rw [List.getElem?_append_left hi] at h1'
      rw [List.getElem?_append_left (by rw [← s.len]; exact hi)] at h2
      have ne : a ≠ p := fun z => np (by rw [← z]; exact List.mem_of_getElem? h1')
      have q := s.ok i a d h1' h2
      refine q.mono (Ext.cel p).sub (fun hd => q.free hd) (fun _ u hu => ?_)
      rw [upd_ne ne]
      exact hu
    · have hi' : i = g.as.length := by
        have := (List.getElem?_eq_some_iff.mp h1').1
        simp at this
        omega
      subst hi'
      rw [List.getElem?_append_right (Nat.le_refl _)] at h1'
      rw [List.getElem?_append_right (by rw [s.len]; exact Nat.le_refl _)] at h2
      simp [s.len] at h1' h2
      subst h1' h2
      exact hc
  · obtain ⟨q1, q2, q3⟩ := s.rs q hq
    have ne : q.1 ≠ p := ne_of_none q1 h
    refine ⟨by rw [upd_ne ne]; exact q1, q2, fun z => ?_⟩
    have z' : q.1 ∈ g.as ++ [p] := z
    rcases List.mem_append.mp z' with z | z
    · exact q3 z
    · exact ne (by simpa using z)
theorem nodup_ixA {l : List Addr} (hN : l.Nodup) {i j : Nat} {x : Addr} (a : l[i]? = some x) (b : l[j]? = some x) : i = j := by
  obtain ⟨h1, e1⟩ := List.getElem?_eq_some_iff.mp a
  obtain ⟨h2, e2⟩ := List.getElem?_eq_some_iff.mp b
  exact (List.getElem_inj hN).mp (e1.trans e2.symm)
/-- a changing object is changed -/
theorem Sr.put (s : Sr K g cs H) {i : Nat} {a : Addr} {o : HO} {c c0 : CO} (ha : g.as[i]? = some a) (h0 : cs[i]? = some c0) (hd : c0 ≠ .dead) (hc : COk K g (upd H a o) a c) (hn : NT o := by nofun) : Sr K g (cs.set i c) (upd H a o) := by
  have z0 := (s.ok i a c0 ha h0).free hd
  have mem : a ∈ g.as := List.mem_of_getElem? ha
  refine ⟨fun b u q => ?_, by simp [s.len], s.nd, fun b hb => ?_, fun j b d h1 h2 => ?_, fun q hq => ?_, s.rn, s.tz, s.rt, ?_⟩
  rotate_right
  · obtain ⟨o0, e0, n0⟩ := (s.ok i a c0 ha h0).ne hd
    exact tabs_upd s.tb e0 n0
  · rw [upd_ne (ne_of_none q z0)]
    exact s.le b u q
  · by_cases hb' : b = a
    · subst hb'
      rw [upd_same]
      exact ⟨nofun, fun ps z => hn ps (Option.some.inj z)⟩
    · rw [upd_ne hb']
      exact s.th b hb
  · by_cases hj : i = j
    · subst hj
      rw [ha] at h1
      cases h1
      have hi : i < cs.length := (List.getElem?_eq_some_iff.mp h0).1
      rw [List.getElem?_set_self hi] at h2
      cases h2
      exact hc
    · rw [List.getElem?_set_ne hj] at h2
      have ne : b ≠ a := fun z => by
        subst z
        exact hj (nodup_ixA s.nd ha h1)
      have q := s.ok j b d h1 h2
      refine q.mono (Ext.refl g).sub (fun hd => q.free hd) (fun _ u hu => ?_)
      rw [upd_ne ne]
      exact hu
  · obtain ⟨q1, q2, q3⟩ := s.rs q hq
    have ne : q.1 ≠ a := fun z => q3 (by rw [z]; exact mem)
    exact ⟨by rw [upd_ne ne]; exact q1, q2, q3⟩
/-- a changing list stays from here on -/
theorem Sr.freeze (s : Sr K g cs H) {i : Nat} {a : Addr} {ds : List D} {vs : List V} (ha : g.as[i]? = some a) (h0 : cs[i]? = some (.lst ds)) (hv : H a = some (.lst vs)) (hz : g.Z a = none) :
    Sr K (g.add a (.lst vs)) (cs.set i .dead) H ∧ Ext g (g.add a (.lst vs)) := by
  have mem : a ∈ g.as := List.mem_of_getElem? ha
  have e : Ext g (g.add a (.lst vs)) := ⟨fun b u q => by
    show upd g.Z a _ b = some u
    rw [upd_ne (ne_of_none q hz)]
    exact q, ⟨[], by simp [G.add]⟩, rfl⟩
  refine ⟨⟨fun b u q => ?_, by simp [G.add, s.len], s.nd, s.th, fun j b d h1 h2 => ?_, fun q hq => ?_, s.rn, fun b u q => ?_, s.rt, s.tb⟩, e⟩
  rotate_right
  · have q' : upd g.Z a (.lst vs) b = some u := q
    by_cases hb : b = a
    · subst hb
      rw [upd_same] at q'
      cases q'
      nofun
    · rw [upd_ne hb] at q'
      exact s.tz b u q'
  · have q' : upd g.Z a (.lst vs) b = some u := q
    by_cases hb : b = a
    · subst hb
      rw [upd_same] at q'
      rw [hv]
      exact q'
    · rw [upd_ne hb] at q'
      exact s.le b u q'
  · by_cases hj : i = j
    · subst hj
      have hi : i < cs.length := (List.getElem?_eq_some_iff.mp h0).1
      rw [List.getElem?_set_self hi] at h2
      cases h2
      trivial
    · rw [List.getElem?_set_ne hj] at h2
      have ne : b ≠ a := fun z => by
        subst z
        exact hj (nodup_ixA s.nd ha h1)
      have q := s.ok j b d h1 h2
      refine q.mono e.sub (fun hd => ?_) (fun _ u hu => hu)
      show upd g.Z a _ b = none
      rw [upd_ne ne]
      exact q.free hd
  · obtain ⟨q1, q2, q3⟩ := s.rs q hq
    refine ⟨q1, ?_, q3⟩
    show upd g.Z a _ q.1 = none
    rw [upd_ne (fun z => q3 (by rw [z]; exact mem))]
    exact q2
/-- an object kept apart -/
def G.hold (g : G) (p : Addr) (o : HO) : G := { g with rs := (p, o) :: g.rs }
theorem Sr.hold (s : Sr K g cs H) {p : Addr} (h : H p = none) (o : HO) (hn : NE o := by exact ⟨nofun, nofun⟩) : Sr K (g.hold p o) cs (upd H p o) := by
  have np : p ∉ g.as := fun q => (s.th p q).1 h
  have sb : Sub g (g.hold p o) := ⟨fun _ _ h => h, ⟨[], by simp [G.hold]⟩⟩
  refine ⟨fun a u q => ?_, s.len, s.nd, fun a ha => ?_, fun i a c h1 h2 => ?_, fun q hq => ?_, ?_, s.tz, fun q hq => ?_, tabs_free s.tb h⟩
  rotate_right
  · rcases List.mem_cons.mp (show q ∈ (p, o) :: g.rs from hq) with e | hq
    · subst e
      exact hn
    · exact s.rt q hq
  · rw [upd_ne (ne_of_none q (s.free h))]
    exact s.le a u q
  · rw [upd_ne (fun z => np (by rw [← z]; exact ha))]
    exact s.th a ha
  · have ne : a ≠ p := fun z => np (by rw [← z]; exact List.mem_of_getElem? h1)
    refine (s.ok i a c h1 h2).mono sb (fun hd => (s.ok i a c h1 h2).free hd) (fun _ u hu => ?_)
    rw [upd_ne ne]
    exact hu
  · rcases List.mem_cons.mp (show q ∈ (p, o) :: g.rs from hq) with e | hq
    · subst e
      exact ⟨upd_same, s.free h, np⟩
    · obtain ⟨q1, q2, q3⟩ := s.rs q hq
      exact ⟨by rw [upd_ne (ne_of_none q1 h)]; exact q1, q2, q3⟩
  · show (p :: g.rs.map (·.1)).Nodup
    refine List.nodup_cons.mpr ⟨fun z => ?_, s.rn⟩
    obtain ⟨q, hq, e⟩ := List.mem_map.mp z
    obtain ⟨q1, _⟩ := s.rs q hq
    rw [e, h] at q1
    cases q1
theorem Sr.rehold (s : Sr K g cs H) {p : Addr} {o o' : HO} {r : List (Addr × HO)} (e : g.rs = (p, o) :: r) (hn : NE o' := by exact ⟨nofun, nofun⟩) : Sr K { g with rs := (p, o') :: r } cs (upd H p o') := by
  obtain ⟨q1, q2, q3⟩ := s.rs (p, o) (by rw [e]; exact List.mem_cons_self)
  have rn := s.rn
  rw [e] at rn
  have sb : Sub g { g with rs := (p, o') :: r } := ⟨fun _ _ h => h, ⟨[], by simp⟩⟩
  have n0 : NE o := s.rt (p, o) (by rw [e]; exact List.mem_cons_self)
  refine ⟨fun a u q => ?_, s.len, s.nd, fun a ha => ?_, fun i a c h1 h2 => ?_, fun q hq => ?_, rn, s.tz, fun q hq => ?_, tabs_upd s.tb q1 n0⟩
  rotate_right
  · rcases List.mem_cons.mp (show q ∈ (p, o') :: r from hq) with e' | hq
    · subst e'
      exact hn
    · exact s.rt q (by rw [e]; exact List.mem_cons_of_mem _ hq)
  · have q' : g.Z a = some u := q
    rw [upd_ne (ne_of_none q' q2)]
    exact s.le a u q
  · rw [upd_ne (fun z => q3 (by rw [← z]; exact ha))]
    exact s.th a ha
  · have ne : a ≠ p := fun z => q3 (by rw [← z]; exact List.mem_of_getElem? h1)
    refine (s.ok i a c h1 h2).mono sb (fun hd => (s.ok i a c h1 h2).free hd) (fun _ u hu => ?_)
    rw [upd_ne ne]
    exact hu
  · rcases List.mem_cons.mp (show q ∈ (p, o') :: r from hq) with e' | hq
    · subst e'
      exact ⟨upd_same, q2, q3⟩
    · obtain ⟨r1, r2, r3⟩ := s.rs q (by rw [e]; exact List.mem_cons_of_mem _ hq)
      have ne : q.1 ≠ p := fun z => (List.nodup_cons.mp rn).1 (List.mem_map.mpr ⟨q, hq, z⟩)
      exact ⟨by rw [upd_ne ne]; exact r1, r2, r3⟩
theorem Sr.unhold (s : Sr K g cs H) {p : Addr} {o : HO} {r : List (Addr × HO)} (e : g.rs = (p, o) :: r) : Sr K { g with Z := upd g.Z p o, rs := r } cs H := by
  obtain ⟨q1, q2, q3⟩ := s.rs (p, o) (by rw [e]; exact List.mem_cons_self)
  have rn := s.rn
  rw [e] at rn
  have sb : Sub g { g with Z := upd g.Z p o, rs := r } := ⟨fun a u h => by
    show upd g.Z p o a = some u
    rw [upd_ne (ne_of_none h q2)]
    exact h, ⟨[], by simp⟩⟩
  refine ⟨fun a u q => ?_, s.len, s.nd, s.th, fun i a c h1 h2 => ?_, fun q hq => ?_, (List.nodup_cons.mp rn).2, fun a u q => ?_, fun q hq => s.rt q (by rw [e]; exact List.mem_cons_of_mem _ hq), s.tb⟩
  rotate_right
  · have q' : upd g.Z p o a = some u := q
    by_cases ha : a = p
    · subst ha
      rw [upd_same] at q'
      cases q'
      exact (s.rt (a, o) (by rw [e]; exact List.mem_cons_self)).t
    · rw [upd_ne ha] at q'
      exact s.tz a u q'
  · have q' : upd g.Z p o a = some u := q
    by_cases ha : a = p
    · subst ha
      rw [upd_same] at q'
      cases q'
      exact q1
    · rw [upd_ne ha] at q'
      exact s.le a u q'
  · have ne : a ≠ p := fun z => q3 (by rw [← z]; exact List.mem_of_getElem? h1)
    refine (s.ok i a c h1 h2).mono sb (fun hd => ?_) (fun _ u hu => hu)
    show upd g.Z p o a = none
    rw [upd_ne ne]
    exact (s.ok i a c h1 h2).free hd
  · obtain ⟨r1, r2, r3⟩ := s.rs q (by rw [e]; exact List.mem_cons_of_mem _ hq)
    refine ⟨r1, ?_, r3⟩
    show upd g.Z p o q.1 = none
    rw [upd_ne (fun z => (List.nodup_cons.mp rn).1 (List.mem_map.mpr ⟨q, hq, z⟩))]
    exact r2
end
end DL

/-! DRules: the judgements over data, and their rules. -/
namespace DL
open PySem PySem.Spec L2
variable [Tbs]

abbrev PD := D → Sto → Prop
abbrev WE := En → Sto → PD → Prop
abbrev WT := En → Sto → (Bool → Sto → Prop) → Prop
abbrev WA := En → Sto → (List D → Sto → Prop) → Prop
structure DN where
  nx : En → Sto → Prop
  rt : PD
  bk : En → Sto → Prop := fun _ _ => False
  ct : En → Sto → Prop := fun _ _ => False
abbrev WS := DN → En → Sto → Prop
structure DN.le (E E' : DN) : Prop where
  nx : ∀ env cs, E.nx env cs → E'.nx env cs
  rt : ∀ d cs, E.rt d cs → E'.rt d cs
  bk : ∀ env cs, E.bk env cs → E'.bk env cs
  ct : ∀ env cs, E.ct env cs → E'.ct env cs
theorem DN.le.refl (E : DN) : DN.le E E := ⟨fun _ _ h => h, fun _ _ h => h, fun _ _ h => h, fun _ _ h => h⟩

section
variable (K : PySem.W.Frag)
def upV (g : G) (Q : VK) : PD := fun d cs => ∀ g' H v, Ext g g' → Sr K g' cs H → Rep K g' d v → Q v H
def upT (g : G) (Q : Bool → Hp → Prop) : Bool → Sto → Prop := fun b cs => ∀ g' H, Ext g g' → Sr K g' cs H → Q b H
def upA (g : G) (Q : List V → Hp → Prop) : List D → Sto → Prop := fun ds cs => ∀ g' H vs, Ext g g' → Sr K g' cs H → RepL K g' ds vs → Q vs H
def upE (g : G) (Q : L2.St → Hp → Prop) : En → Sto → Prop := fun env cs => ∀ g' H σ, Ext g g' → Sr K g' cs H → Lr K g' env σ → Q σ H
def upN (g : G) (D : Ends) : DN := ⟨upE K g D.nx, upV K g D.rt, upE K g D.bk, upE K g D.ct⟩
def lowE (w : WE) : TE := fun σ H Q => ∃ g cs env, Sr K g cs H ∧ Lr K g env σ ∧ w env cs (upV K g Q)
def lowT (w : WT) : TT := fun σ H Q => ∃ g cs env, Sr K g cs H ∧ Lr K g env σ ∧ w env cs (upT K g Q)
def lowA (w : WA) : TA := fun σ H Q => ∃ g cs env, Sr K g cs H ∧ Lr K g env σ ∧ w env cs (upA K g Q)
def lowS (w : WS) : TS := fun D σ H => ∃ g cs env, Sr K g cs H ∧ Lr K g env σ ∧ w (upN K g D) env cs
end
section
variable {K : PySem.W.Frag} {g g' : G}
theorem upV.mono (e : Ext g g') {Q : VK} {d : D} {cs : Sto} (h : upV K g Q d cs) : upV K g' Q d cs := fun g2 H v e2 => h g2 H v (e.trans e2)
theorem upT.mono (e : Ext g g') {Q : Bool → Hp → Prop} {b : Bool} {cs : Sto} (h : upT K g Q b cs) : upT K g' Q b cs := fun g2 H e2 => h g2 H (e.trans e2)
theorem upA.mono (e : Ext g g') {Q : List V → Hp → Prop} {ds : List D} {cs : Sto} (h : upA K g Q ds cs) : upA K g' Q ds cs := fun g2 H v e2 => h g2 H v (e.trans e2)
theorem upE.mono (e : Ext g g') {Q : L2.St → Hp → Prop} {env : En} {cs : Sto} (h : upE K g Q env cs) : upE K g' Q env cs := fun g2 H v e2 => h g2 H v (e.trans e2)
theorem upN.mono (e : Ext g g') (D : Ends) : DN.le (upN K g D) (upN K g' D) := ⟨fun _ _ h => upE.mono e h, fun _ _ h => upV.mono e h, fun _ _ h => upE.mono e h, fun _ _ h => upE.mono e h⟩
end

abbrev MonoE (w : WE) : Prop := ∀ env cs Q Q', (∀ d cs, Q d cs → Q' d cs) → w env cs Q → w env cs Q'
abbrev MonoT (w : WT) : Prop := ∀ env cs Q Q', (∀ b cs, Q b cs → Q' b cs) → w env cs Q → w env cs Q'
abbrev MonoA (w : WA) : Prop := ∀ env cs Q Q', (∀ ds cs, Q ds cs → Q' ds cs) → w env cs Q → w env cs Q'
abbrev MonoS (w : WS) : Prop := ∀ E E' env cs, DN.le E E' → w E env cs → w E' env cs
structure DE (X : Cx) (e : Expr) (w : WE) : Prop where
  pe : PE X e (lowE X.K w)
  mo : MonoE w
structure DT (X : Cx) (e : Expr) (w : WT) : Prop where
  pe : PT X e (lowT X.K w)
  mo : MonoT w
structure DW (X : Cx) (e : Expr) (w : WT) : Prop where
  pe : PW X e (lowT X.K w)
  mo : MonoT w
structure DA (X : Cx) (es : List Expr) (w : WA) : Prop where
  pe : PA X es (lowA X.K w)
  mo : MonoA w
structure DS (X : Cx) (st : Stmt) (w : WS) : Prop where
  pe : PS X st (lowS X.K w)
  mo : MonoS w
structure DSs (X : Cx) (st : List Stmt) (w : WS) : Prop where
  pe : PSs X st (lowS X.K w)
  mo : MonoS w

theorem PE.imp {X : Cx} {e : Expr} {t t' : TE} (h : PE X e t) (i : ∀ σ H Q, t' σ H Q → t σ H Q) : PE X e t' := ⟨fun pins s σ H Q I hw => h.run pins s σ H Q I (i _ _ _ hw)⟩
theorem PT.imp {X : Cx} {e : Expr} {t t' : TT} (h : PT X e t) (i : ∀ σ H Q, t' σ H Q → t σ H Q) : PT X e t' := ⟨fun pins s σ H Q I hw => h.run pins s σ H Q I (i _ _ _ hw)⟩
theorem PW.imp {X : Cx} {e : Expr} {t t' : TT} (h : PW X e t) (i : ∀ σ H Q, t' σ H Q → t σ H Q) : PW X e t' := ⟨fun wh pins s σ H Q I hw => h.run wh pins s σ H Q I (i _ _ _ hw)⟩
theorem PA.imp {X : Cx} {e : List Expr} {t t' : TA} (h : PA X e t) (i : ∀ σ H Q, t' σ H Q → t σ H Q) : PA X e t' := ⟨fun pos pins s σ H Q I hw => h.run pos pins s σ H Q I (i _ _ _ hw)⟩
theorem PS.imp {X : Cx} {e : Stmt} {t t' : TS} (h : PS X e t) (i : ∀ D σ H, t' D σ H → t D σ H) : PS X e t' := ⟨fun pins s σ H D I hw => h.run pins s σ H D I (i _ _ _ hw)⟩
theorem PSs.imp {X : Cx} {e : List Stmt} {t t' : TS} (h : PSs X e t) (i : ∀ D σ H, t' D σ H → t D σ H) : PSs X e t' := ⟨fun pins s σ H D I hw => h.run pins s σ H D I (i _ _ _ hw)⟩

section
variable {K : PySem.W.Frag} {g : G} {cs : Sto} {H : Hp} {env : En} {σ : L2.St}
/-- behind an expression -/
theorem lowE.go {w : WE} (m : MonoE w) {P : PD} {R : VK} (s : Sr K g cs H) (l : Lr K g env σ) (h : w env cs P) (k : ∀ d cs' g' H' v, P d cs' → Ext g g' → Sr K g' cs' H' → Rep K g' d v → R v H') : lowE K w σ H R :=
  ⟨g, cs, env, s, l, m env cs P _ (fun d cs' p g' H' v e s' r => k d cs' g' H' v p e s' r) h⟩
theorem lowT.go {w : WT} (m : MonoT w) {P : Bool → Sto → Prop} {R : Bool → Hp → Prop} (s : Sr K g cs H) (l : Lr K g env σ) (h : w env cs P) (k : ∀ d cs' g' H', P d cs' → Ext g g' → Sr K g' cs' H' → R d H') : lowT K w σ H R :=
  ⟨g, cs, env, s, l, m env cs P _ (fun d cs' p g' H' e s' => k d cs' g' H' p e s') h⟩
theorem lowA.go {w : WA} (m : MonoA w) {P : List D → Sto → Prop} {R : List V → Hp → Prop} (s : Sr K g cs H) (l : Lr K g env σ) (h : w env cs P) (k : ∀ ds cs' g' H' vs, P ds cs' → Ext g g' → Sr K g' cs' H' → RepL K g' ds vs → R vs H') : lowA K w σ H R :=
  ⟨g, cs, env, s, l, m env cs P _ (fun d cs' p g' H' v e s' r => k d cs' g' H' v p e s' r) h⟩
theorem lowS.go {w : WS} (m : MonoS w) {E : DN} {D : Ends} (s : Sr K g cs H) (l : Lr K g env σ) (h : w E env cs) (le : DN.le E (upN K g D)) : lowS K w D σ H :=
  ⟨g, cs, env, s, l, m E _ env cs le h⟩
end

section
variable {X : Cx} {a b c : Expr} {wa wb wc : WE} {pos : Pos}
/-! ### constants and names -/
def wC (d : D) : WE := fun _ cs Q => Q d cs
def wVar (i : Nat) : WE := fun env cs Q => match env[i]? with
  | some (some d) => Q d cs
  | _ => False
theorem wC.mo (d : D) : MonoE (wC d) := fun _ cs _ _ h q => h _ _ q
theorem wVar.mo (i : Nat) : MonoE (wVar i) := fun env cs Q Q' h q => by
  unfold wVar at q ⊢
  split at q
  · exact h _ _ q
  · exact q
theorem de_c {e : Expr} {v : V} (d : D) (h : PE X e (tC v)) (r : ∀ g, Rep X.K g d v) : DE X e (wC d) :=
  ⟨PE.imp h fun σ H Q ⟨g, cs, env, s, l, q⟩ => q g H v (Ext.refl g) s (r g), wC.mo d⟩
theorem de_int {i j} : DE X (.Constant (.int i) j pos) (wC (.int i)) := de_c _ pe_int fun _ => rfl
theorem de_bl {b j} : DE X (.Constant (.bool b) j pos) (wC (.bl b)) := de_c _ pe_bl fun _ => rfl
theorem de_non {j} : DE X (.Constant .none j pos) (wC .non) := de_c _ pe_non fun _ => rfl
theorem de_str {x j} : DE X (.Constant (.str x) j pos) (wC (.str x)) := de_c _ pe_str fun _ => rfl
theorem dv (i : Nat) {x : Str} (hN : X.N[i]? = some x := by rfl) (hv : Vis X.env.scope x := by first | exact Or.inl rfl | exact Or.inr (Or.inl rfl) | exact Or.inr (Or.inr rfl)) (hd : (x == ("__debug__" : Str)) = false := by decide)
    (hcd : (x == ("__classdict__" : Str)) = false := by decide) : DE X (.Name x pos) (wVar i) :=
  ⟨PE.imp (pe_var hN hv hd hcd) fun σ H Q ⟨g, cs, env, s, l, q⟩ => by
    unfold wVar at q
    split at q
    · rename_i d e
      obtain ⟨v, h1, h2⟩ := l.ok i d e
      exact ⟨v, h1, q g H v (Ext.refl g) s h2⟩
    · exact q.elim, wVar.mo i⟩
/-- a module's name, a built-in's: as a value -/
theorem de_glob {x : Str} {u : Value} (d : D) {v : V} (hg : Gl X x) (hm : X.mg x = some u) (r : RelV v u) (rd : ∀ g, Rep X.K g d v) (hd : (x == ("__debug__" : Str)) = false := by decide) : DE X (.Name x pos) (wC d) := de_c d (pe_glob hg hm r hd) rd
theorem de_bltn {x : Str} {u : Value} (d : D) {v : V} (hg : Gl X x) (hm : X.mg x = none) (hv : bootBuiltins x = some u) (r : RelV v u) (rd : ∀ g, Rep X.K g d v) (hn : x ≠ "__name__" := by decide) (hd : (x == ("__debug__" : Str)) = false := by decide) : DE X (.Name x pos) (wC d) := de_c d (pe_bltn hg hm hv r hn hd) rd

/-! ### two values -/
abbrev O2 := D → D → Sto → PD → Prop
abbrev O1 := D → Sto → PD → Prop
def lowO (K : PySem.W.Frag) (o : O2) : R2 := fun x y H Q => ∃ g cs d1 d2, Sr K g cs H ∧ Rep K g d1 x ∧ Rep K g d2 y ∧ o d1 d2 cs (upV K g Q)
def lowU (K : PySem.W.Frag) (o : O1) : V → Hp → VK → Prop := fun x H Q => ∃ g cs d, Sr K g cs H ∧ Rep K g d x ∧ o d cs (upV K g Q)
structure OpD (X : Cx) (f : Value → Value → Sem Value) (o : O2) : Prop where
  op : OpR X f (lowO X.K o)
  mo : ∀ d1 d2 cs Q Q', (∀ d cs, Q d cs → Q' d cs) → o d1 d2 cs Q → o d1 d2 cs Q'
structure UnD (X : Cx) (f : Value → Sem Value) (o : O1) : Prop where
  op : UnR X f (lowU X.K o)
  mo : ∀ d cs Q Q', (∀ d cs, Q d cs → Q' d cs) → o d cs Q → o d cs Q'
def wOp (o : O2) (wa wb : WE) : WE := fun env cs Q => wa env cs fun d1 cs1 => wb env cs1 fun d2 cs2 => o d1 d2 cs2 Q
def wUn (o : O1) (wa : WE) : WE := fun env cs Q => wa env cs fun d cs1 => o d cs1 Q
theorem low_op {o : O2} (mo : ∀ d1 d2 cs Q Q', (∀ d cs, Q d cs → Q' d cs) → o d1 d2 cs Q → o d1 d2 cs Q') (ha : DE X a wa) (hb : DE X b wb) {σ : L2.St} {H : Hp} {Q : VK} (h : lowE X.K (wOp o wa wb) σ H Q) :
    lowE X.K wa σ H fun x H1 => lowE X.K wb σ H1 fun y H2 => lowO X.K o x y H2 Q := by
  obtain ⟨g, cs, env, s, l, h⟩ := h
  refine lowE.go ha.mo s l h fun d1 cs1 g1 H1 v1 h1 e1 s1 r1 => ?_
  refine lowE.go hb.mo s1 (l.mono e1) h1 fun d2 cs2 g2 H2 v2 h2 e2 s2 r2 => ?_
  exact ⟨g2, cs2, d1, d2, s2, r1.mono e2, r2, mo _ _ _ _ _ (fun _ _ q => upV.mono (e1.trans e2) q) h2⟩
theorem wOp.mo {o : O2} (mo : ∀ d1 d2 cs Q Q', (∀ d cs, Q d cs → Q' d cs) → o d1 d2 cs Q → o d1 d2 cs Q') (ha : MonoE wa) (hb : MonoE wb) : MonoE (wOp o wa wb) := fun env cs Q Q' h q =>
  ha env cs _ _ (fun d1 cs1 q1 => hb env cs1 _ _ (fun d2 cs2 q2 => mo _ _ _ _ _ h q2) q1) q
theorem de_op {op : Operator} {o : O2} (ho : OpD X (binaryOp op) o) (ha : DE X a wa) (hb : DE X b wb) : DE X (.BinOp a op b pos) (wOp o wa wb) :=
  ⟨PE.imp (pe_op ho.op ha.pe hb.pe) fun σ H Q h => low_op ho.mo ha hb h, wOp.mo ho.mo ha.mo hb.mo⟩
theorem de_cmp {op : CmpOp} {o : O2} (ho : OpD X (compareOp op) o) (ha : DE X a wa) (hb : DE X b wb) (hm : behindInMarks op b = false := by first | exact nobehind _ (by decide) (by decide) | rfl) : DE X (.Compare a [op] [b] pos) (wOp o wa wb) :=
  ⟨PE.imp (pe_cmpR ho.op ha.pe hb.pe hm) fun σ H Q h => low_op ho.mo ha hb h, wOp.mo ho.mo ha.mo hb.mo⟩
theorem de_un {op : UnaryOp} {o : O1} (ho : UnD X (unaryOp op) o) (ha : DE X a wa) : DE X (.UnaryOp op a pos) (wUn o wa) :=
  ⟨PE.imp (pe_un ho.op ha.pe) fun σ H Q ⟨g, cs, env, s, l, h⟩ => lowE.go ha.mo s l h fun d1 cs1 g1 H1 v1 h1 e1 s1 r1 => ⟨g1, cs1, d1, s1, r1, ho.mo _ _ _ _ (fun _ _ q => upV.mono e1 q) h1⟩,
    fun env cs Q Q' h q => ha.mo env cs _ _ (fun d1 cs1 q1 => ho.mo _ _ _ _ h q1) q⟩
/-- one comparison as a test -/
def wTst (w : WE) : WT := fun env cs Q => w env cs fun d cs' => match d with
  | .bl b => Q b cs'
  | _ => False
theorem wTst.mo {w : WE} (h : MonoE w) : MonoT (wTst w) := fun env cs Q Q' hq q => h env cs _ _ (fun d cs' q => by
  cases d <;> first | exact hq _ _ q | exact q) q
theorem low_tst {w : WE} (m : MonoE w) {K : PySem.W.Frag} {σ : L2.St} {H : Hp} {Q : Bool → Hp → Prop} (h : lowT K (wTst w) σ H Q) : lowE K w σ H fun x H' => ∃ k, x = .bl k ∧ Q k H' := by
  obtain ⟨g, cs, env, s, l, h⟩ := h
  refine lowE.go m s l h fun d cs1 g1 H1 v1 h1 e1 s1 r1 => ?_
  cases d with
  | bl b => exact ⟨b, r1, h1 g1 H1 e1 s1⟩
  | _ => exact False.elim h1
theorem dt_cmp {op : CmpOp} {o : O2} (ho : OpD X (compareOp op) o) (ha : DE X a wa) (hb : DE X b wb) (hm : behindInMarks op b = false := by first | exact nobehind _ (by decide) (by decide) | rfl) : DT X (.Compare a [op] [b] pos) (wTst (wOp o wa wb)) := by
  refine ⟨PT.imp (pt_cmpR ho.op ha.pe hb.pe hm) fun σ H Q h => ?_, wTst.mo (wOp.mo ho.mo ha.mo hb.mo)⟩
  obtain ⟨g, cs, env, s, l, h⟩ := low_tst (wOp.mo ho.mo ha.mo hb.mo) h
  exact low_op ho.mo ha hb ⟨g, cs, env, s, l, h⟩
/-! ### sequences -/
def lstOf (cs : Sto) : D → Option (List D)
  | .lst ds => some ds
  | .cell i => match cs[i]? with
    | some (.lst ds) => some ds
    | _ => none
  | _ => none
def seqOf (cs : Sto) : D → Option (List D)
  | .tup ds => some ds
  | d => lstOf cs d
section
variable {K : PySem.W.Frag} {g : G} {cs : Sto} {H : Hp}
theorem rd_of (s : Sr K g cs H) {d : D} {v : V} {ds : List D} (e : lstOf cs d = some ds) (r : Rep K g d v) : ∃ a vs, v = .ref a ∧ H a = some (.lst vs) ∧ RepL K g ds vs := by
  unfold lstOf at e
  split at e
  · cases e
    obtain ⟨a, vs, e1, h1, h2⟩ := r
    exact ⟨a, vs, e1, s.le _ _ h1, h2⟩
  · rename_i i
    split at e
    · rename_i ds' hc
      cases e
      obtain ⟨a, e1, h1⟩ := r
      obtain ⟨vs, q1, q2, q3⟩ := s.ok i a _ h1 hc
      exact ⟨a, vs, e1, q1, q2⟩
    · cases e
  · cases e
theorem lst_of (s : Sr K g cs H) {d : D} {v : V} {ds : List D} (e : lstOf cs d = some ds) (r : Rep K g d v) : ∃ a vs, v = .ref a ∧ SqL K H a vs ∧ RepL K g ds vs := by
  obtain ⟨a, vs, e1, h1, h2⟩ := rd_of s e r
  exact ⟨a, vs, e1, .of h1, h2⟩
theorem seq_of (s : Sr K g cs H) {d : D} {v : V} {ds : List D} (e : seqOf cs d = some ds) (r : Rep K g d v) : ∃ a vs, v = .ref a ∧ (SqL K H a vs ∨ SqT K H a vs) ∧ RepL K g ds vs := by
  unfold seqOf at e
  split at e
  · cases e
    obtain ⟨a, vs, e1, h1, h2⟩ := r
    exact ⟨a, vs, e1, .inr (sqT_mono s.le h1), h2⟩
  · obtain ⟨a, vs, e1, h1, h2⟩ := lst_of s e r
    exact ⟨a, vs, e1, .inl h1, h2⟩
/-- a new list, a new tuple -/
theorem new_lst {Q : VK} {ds : List D} {vs : List V} (s : Sr K g cs H) (r : RepL K g ds vs) (h : upV K g Q (.lst ds) cs) : ∀ p, H p = none → Q (.ref p) (upd H p (.lst vs)) := fun p hp =>
  h (g.add p (.lst vs)) _ _ (Ext.add s hp _) (s.add hp _) ⟨p, vs, rfl, add_at, r.mono (Ext.add s hp _)⟩
theorem new_tup {Q : VK} {ds : List D} {vs : List V} (s : Sr K g cs H) (r : RepL K g ds vs) (h : upV K g Q (.tup ds) cs) : ∀ p, H p = none → Q (.ref p) (upd H p (.tup vs)) := fun p hp =>
  h (g.add p (.tup vs)) _ _ (Ext.add s hp _) (s.add hp _) ⟨p, vs, rfl, .of add_at, r.mono (Ext.add s hp _)⟩
end
/-! ### argument lists, displays -/
def wNil : WA := fun _ cs Q => Q [] cs
def wCons (wa : WE) (wr : WA) : WA := fun env cs Q => wa env cs fun d cs1 => wr env cs1 fun ds cs2 => Q (d :: ds) cs2
theorem da_nil : DA X [] wNil := ⟨PA.imp pa_nil fun σ H Q ⟨g, cs, env, s, l, h⟩ => h g H [] (Ext.refl g) s rfl, fun _ cs _ _ h q => h _ _ q⟩
theorem da_cons {es : List Expr} {wr : WA} (ha : DE X a wa) (hr : DA X es wr) (hs : starEach (a :: es) X.env = (false, eval a X.env) :: starEach es X.env := by rfl) : DA X (a :: es) (wCons wa wr) :=
  ⟨PA.imp (pa_cons ha.pe hr.pe hs) fun σ H Q ⟨g, cs, env, s, l, h⟩ => lowE.go ha.mo s l h fun d1 cs1 g1 H1 v1 h1 e1 s1 r1 => lowA.go hr.mo s1 (l.mono e1) h1 fun ds cs2 g2 H2 vs h2 e2 s2 r2 => h2 g2 H2 _ (e1.trans e2) s2 (.cons (r1.mono e2) r2),
    fun env cs Q Q' h q => ha.mo env cs _ _ (fun d1 cs1 q1 => hr.mo env cs1 _ _ (fun _ _ q2 => h _ _ q2) q1) q⟩
def wTup (w : WA) : WE := fun env cs Q => w env cs fun ds cs' => ds.length ≤ sizeLine ∧ Q (.tup ds) cs'
def wLst (w : WA) : WE := fun env cs Q => w env cs fun ds cs' => ds.length ≤ sizeLine ∧ Q (.lst ds) cs'
theorem de_tup {es : List Expr} {x1} {w : WA} (h : DA X es w) : DE X (.Tuple es x1 pos) (wTup w) :=
  ⟨PE.imp (pe_tup h.pe) fun σ H Q ⟨g, cs, env, s, l, hw⟩ => lowA.go h.mo s l hw fun ds cs1 g1 H1 vs ⟨hz, h1⟩ e1 s1 r1 => ⟨by rw [← r1.length]; exact hz, new_tup s1 r1 (upV.mono e1 h1)⟩,
    fun env cs Q Q' hq q => h.mo env cs _ _ (fun ds cs1 ⟨z, q1⟩ => ⟨z, hq _ _ q1⟩) q⟩
theorem de_lst {es : List Expr} {w : WA} (h : DA X es w) : DE X (.List es pos) (wLst w) :=
  ⟨PE.imp (pe_lst h.pe) fun σ H Q ⟨g, cs, env, s, l, hw⟩ => lowA.go h.mo s l hw fun ds cs1 g1 H1 vs ⟨hz, h1⟩ e1 s1 r1 => ⟨by rw [← r1.length]; exact hz, new_lst s1 r1 (upV.mono e1 h1)⟩,
    fun env cs Q Q' hq q => h.mo env cs _ _ (fun ds cs1 ⟨z, q1⟩ => ⟨z, hq _ _ q1⟩) q⟩
/-- a list that will change -/
def wCel (w : WA) : WE := fun env cs Q => w env cs fun ds cs' => ds.length ≤ sizeLine ∧ Q (.cell cs'.length) (cs' ++ [.lst ds])
theorem de_cel {es : List Expr} {w : WA} (h : DA X es w) : DE X (.List es pos) (wCel w) :=
  ⟨PE.imp (pe_lst h.pe) fun σ H Q ⟨g, cs, env, s, l, hw⟩ => lowA.go h.mo s l hw fun ds cs1 g1 H1 vs ⟨hz, h1⟩ e1 s1 r1 => ⟨by rw [← r1.length]; exact hz, fun p hp => h1 (g1.cel p) _ _ (e1.trans (Ext.cel p)) (s1.cel hp ⟨vs, upd_same, r1.mono (Ext.cel p), s1.free hp⟩) ⟨p, rfl, by
      rw [← s1.len]
      show (g1.as ++ [p])[g1.as.length]? = some p
      simp⟩⟩,
    fun env cs Q Q' hq q => h.mo env cs _ _ (fun ds cs1 ⟨z, q1⟩ => ⟨z, hq _ _ q1⟩) q⟩
/-! ### truth, and, or, not -/
def truOf (cs : Sto) : D → Option Bool
  | .non => some false
  | .bl b => some b
  | .int i => some (i != 0)
  | .str y => some ((y.length : Int) != 0)
  | .dic kvs => some (!kvs.isEmpty)
  | d => (seqOf cs d).map fun ds => !ds.isEmpty
def truSz : D → Prop
  | .str y => y.length ≤ sizeLine
  | _ => True
def oTru (d : D) (cs : Sto) (Q : Bool → Sto → Prop) : Prop := ∃ b, truOf cs d = some b ∧ truSz d ∧ Q b cs
section
variable {K : PySem.W.Frag} {g : G} {cs : Sto} {H : Hp}
theorem RepL.isEmpty {ds : List D} {vs : List V} (r : RepL K g ds vs) : ds.isEmpty = vs.isEmpty := by
  have := r.length
  cases ds <;> cases vs <;> simp_all
theorem tru_of (s : Sr K g cs H) {d : D} {v : V} {b : Bool} (h : truOf cs d = some b) (hz : truSz d) (r : Rep K g d v) : TruV K v H b := by
  have sq : ∀ {d : D}, (∀ v, Rep K g d v → Rep K g d v) → (seqOf cs d).map (fun ds => !ds.isEmpty) = some b → Rep K g d v → TruV K v H b := fun {d} _ h r => by
    cases e : seqOf cs d with
    | none => rw [e] at h; cases h
    | some ds =>
      rw [e] at h
      simp only [Option.map_some, Option.some.injEq] at h
      obtain ⟨a, vs, e1, h1, h2⟩ := seq_of s e r
      subst e1
      rcases h1 with h1 | h1
      · exact .inl ⟨vs, h1, by rw [← h, h2.isEmpty]⟩
      · exact .inr (.inl ⟨vs, h1, by rw [← h, h2.isEmpty]⟩)
  unfold truOf at h
  cases d with
  | non => cases r; cases h; rfl
  | bl b => cases r; cases h; rfl
  | int i => cases r; cases h; rfl
  | str y => cases r; cases h; exact ⟨hz, rfl⟩
  | dic kvs =>
    obtain ⟨a, vs, e1, h1, h2⟩ := r
    subst e1
    cases h
    refine .inr (.inr ⟨vs, s.le _ _ h1, ?_⟩)
    cases kvs with
    | nil =>
      have : vs = [] := h2
      subst this
      rfl
    | cons p r =>
      obtain ⟨k, d⟩ := p
      obtain ⟨v, r', e, _⟩ := h2
      subst e
      rfl
  | tup ds => exact sq (fun _ h => h) h r
  | lst ds => exact sq (fun _ h => h) h r
  | cell i => exact sq (fun _ h => h) h r
  | ty n => cases h
  | ref a => cases h
  | obj C fs => cases h
  | scr ns => cases h
  | err C fs => cases h
end
def wTruD (w : WE) : WT := fun env cs Q => w env cs fun d cs' => oTru d cs' Q
theorem wTruD.mo {w : WE} (h : MonoE w) : MonoT (wTruD w) := fun env cs Q Q' hq q => h env cs _ _ (fun d cs' ⟨b, e, z, q⟩ => ⟨b, e, z, hq _ _ q⟩) q
theorem low_tru {w : WE} (m : MonoE w) {K : PySem.W.Frag} {σ : L2.St} {H : Hp} {Q : Bool → Hp → Prop} (h : lowT K (wTruD w) σ H Q) : lowE K w σ H fun x H' => ∃ k, TruV K x H' k ∧ Q k H' := by
  obtain ⟨g, cs, env, s, l, h⟩ := h
  refine lowE.go m s l h fun d cs1 g1 H1 v1 ⟨b, e, z, h1⟩ e1 s1 r1 => ⟨b, tru_of s1 e z r1, h1 g1 H1 e1 s1⟩
theorem dt_tru {w : WE} (ha : DE X a w) (he : ∀ whole, isTrue a X.env whole = (do let v ← whole; standAt a.pos; holding [v] (truthy v)) := by intro _; rfl) : DT X a (wTruD w) :=
  ⟨PT.imp (pt_truth ha.pe he) fun σ H Q h => low_tru ha.mo h, wTruD.mo ha.mo⟩
def wAnd (t u : WT) : WT := fun env cs Q => t env cs fun c cs1 => if c = true then u env cs1 Q else Q false cs1
def wOr (t u : WT) : WT := fun env cs Q => t env cs fun c cs1 => if c = true then Q true cs1 else u env cs1 Q
def wNotD (t : WT) : WT := fun env cs Q => t env cs fun c cs1 => Q (!c) cs1
theorem ite_mono {c : Prop} [Decidable c] {A B A' B' : Prop} (h1 : A → A') (h2 : B → B') (h : if c then A else B) : if c then A' else B' := by
  by_cases hc : c
  · rw [if_pos hc] at h ⊢
    exact h1 h
  · rw [if_neg hc] at h ⊢
    exact h2 h
section
variable {t u : WT} {rest : List Expr}
theorem dw_and1 (ha : DT X a t) : DW X (.BoolOp .And [a] pos) t := ⟨pw_and1 ha.pe, ha.mo⟩
theorem dw_or1 (ha : DT X a t) : DW X (.BoolOp .Or [a] pos) t := ⟨pw_or1 ha.pe, ha.mo⟩
theorem dw_and (ha : DT X a t) (hb : DW X (.BoolOp .And (b :: rest) pos) u) : DW X (.BoolOp .And (a :: b :: rest) pos) (wAnd t u) :=
  ⟨PW.imp (pw_and ha.pe hb.pe) fun σ H Q ⟨g, cs, env, s, l, h⟩ => lowT.go ha.mo s l h fun c cs1 g1 H1 h1 e1 s1 => ite_mono (fun h1 => lowT.go hb.mo s1 (l.mono e1) h1 fun c2 cs2 g2 H2 h2 e2 s2 => h2 g2 H2 (e1.trans e2) s2) (fun h1 => h1 g1 H1 e1 s1) h1,
    fun env cs Q Q' h q => ha.mo env cs _ _ (fun c cs1 q1 => ite_mono (fun q1 => hb.mo env cs1 _ _ h q1) (fun q1 => h _ _ q1) q1) q⟩
theorem dw_or (ha : DT X a t) (hb : DW X (.BoolOp .Or (b :: rest) pos) u) : DW X (.BoolOp .Or (a :: b :: rest) pos) (wOr t u) :=
  ⟨PW.imp (pw_or ha.pe hb.pe) fun σ H Q ⟨g, cs, env, s, l, h⟩ => lowT.go ha.mo s l h fun c cs1 g1 H1 h1 e1 s1 => ite_mono (fun h1 => h1 g1 H1 e1 s1) (fun h1 => lowT.go hb.mo s1 (l.mono e1) h1 fun c2 cs2 g2 H2 h2 e2 s2 => h2 g2 H2 (e1.trans e2) s2) h1,
    fun env cs Q Q' h q => ha.mo env cs _ _ (fun c cs1 q1 => ite_mono (fun q1 => h _ _ q1) (fun q1 => hb.mo env cs1 _ _ h q1) q1) q⟩
theorem dt_of (h : DW X a t) : DT X a t := ⟨h.pe.pt, h.mo⟩
theorem dt_not (ha : DT X a t) : DT X (.UnaryOp .Not a pos) (wNotD t) :=
  ⟨PT.imp (pt_not ha.pe) fun σ H Q ⟨g, cs, env, s, l, h⟩ => lowT.go ha.mo s l h fun c cs1 g1 H1 h1 e1 s1 => h1 g1 H1 e1 s1,
    fun env cs Q Q' h q => ha.mo env cs _ _ (fun c cs1 q1 => h _ _ q1) q⟩
/-- .. as values -/
def wAndV (wa wb : WE) : WE := fun env cs Q => wa env cs fun d cs1 => oTru d cs1 fun c cs2 => if c = true then wb env cs2 Q else Q d cs2
def wOrV (wa wb : WE) : WE := fun env cs Q => wa env cs fun d cs1 => oTru d cs1 fun c cs2 => if c = true then Q d cs2 else wb env cs2 Q
def wNotV (wa : WE) : WE := fun env cs Q => wa env cs fun d cs1 => oTru d cs1 fun c cs2 => Q (.bl (!c)) cs2
theorem de_one {op} (h : DE X a wa) : DE X (.BoolOp op [a] pos) wa := ⟨pe_one h.pe, h.mo⟩
theorem de_and (ha : DE X a wa) (hb : DE X (.BoolOp .And (b :: rest) pos) wb) : DE X (.BoolOp .And (a :: b :: rest) pos) (wAndV wa wb) :=
  ⟨PE.imp (pe_andT ha.pe hb.pe) fun σ H Q ⟨g, cs, env, s, l, h⟩ => lowE.go ha.mo s l h fun d1 cs1 g1 H1 v1 ⟨k, q1, z, h1⟩ e1 s1 r1 => ⟨k, tru_of s1 q1 z r1, ite_mono (fun h1 => lowE.go hb.mo s1 (l.mono e1) h1 fun d2 cs2 g2 H2 v2 h2 e2 s2 r2 => h2 g2 H2 v2 (e1.trans e2) s2 r2) (fun h1 => h1 g1 H1 v1 e1 s1 r1) h1⟩,
    fun env cs Q Q' h q => ha.mo env cs _ _ (fun d cs1 ⟨k, q1, z, q2⟩ => ⟨k, q1, z, ite_mono (fun q => hb.mo env cs1 _ _ h q) (fun q => h _ _ q) q2⟩) q⟩
theorem de_or (ha : DE X a wa) (hb : DE X (.BoolOp .Or (b :: rest) pos) wb) : DE X (.BoolOp .Or (a :: b :: rest) pos) (wOrV wa wb) :=
  ⟨PE.imp (pe_orT ha.pe hb.pe) fun σ H Q ⟨g, cs, env, s, l, h⟩ => lowE.go ha.mo s l h fun d1 cs1 g1 H1 v1 ⟨k, q1, z, h1⟩ e1 s1 r1 => ⟨k, tru_of s1 q1 z r1, ite_mono (fun h1 => h1 g1 H1 v1 e1 s1 r1) (fun h1 => lowE.go hb.mo s1 (l.mono e1) h1 fun d2 cs2 g2 H2 v2 h2 e2 s2 r2 => h2 g2 H2 v2 (e1.trans e2) s2 r2) h1⟩,
    fun env cs Q Q' h q => ha.mo env cs _ _ (fun d cs1 ⟨k, q1, z, q2⟩ => ⟨k, q1, z, ite_mono (fun q => h _ _ q) (fun q => hb.mo env cs1 _ _ h q) q2⟩) q⟩
theorem de_not (ha : DE X a wa) : DE X (.UnaryOp .Not a pos) (wNotV wa) :=
  ⟨PE.imp (pe_notT ha.pe) fun σ H Q ⟨g, cs, env, s, l, h⟩ => lowE.go ha.mo s l h fun d1 cs1 g1 H1 v1 ⟨k, q1, z, h1⟩ e1 s1 r1 => ⟨k, tru_of s1 q1 z r1, h1 g1 H1 _ e1 s1 rfl⟩,
    fun env cs Q Q' h q => ha.mo env cs _ _ (fun d cs1 ⟨k, q1, z, q2⟩ => ⟨k, q1, z, h _ _ q2⟩) q⟩
def wIf (t : WT) (wa wb : WE) : WE := fun env cs Q => t env cs fun c cs1 => if c = true then wa env cs1 Q else wb env cs1 Q
theorem de_if (hc : DT X c t) (ha : DE X a wa) (hb : DE X b wb) : DE X (.IfExp c a b pos) (wIf t wa wb) :=
  ⟨PE.imp (pe_ifExp hc.pe ha.pe hb.pe) fun σ H Q ⟨g, cs, env, s, l, h⟩ => lowT.go hc.mo s l h fun c cs1 g1 H1 h1 e1 s1 => ite_mono (fun h1 => lowE.go ha.mo s1 (l.mono e1) h1 fun d2 cs2 g2 H2 v2 h2 e2 s2 r2 => h2 g2 H2 v2 (e1.trans e2) s2 r2) (fun h1 => lowE.go hb.mo s1 (l.mono e1) h1 fun d2 cs2 g2 H2 v2 h2 e2 s2 r2 => h2 g2 H2 v2 (e1.trans e2) s2 r2) h1,
    fun env cs Q Q' h q => hc.mo env cs _ _ (fun c cs1 q1 => ite_mono (fun q1 => ha.mo env cs1 _ _ h q1) (fun q1 => hb.mo env cs1 _ _ h q1) q1) q⟩
end
end
end DL

/-! DStmts: statements, targets, loops, comprehensions, defs, over data. -/
namespace DL
open PySem PySem.Spec L2
variable [Tbs]

section
variable {X : Cx} {a b c : Expr} {wa wb wc : WE} {pos : Pos} {st : Stmt} {rest : List Stmt} {w u : WS}
/-! ### blocks -/
def wNext : WS := fun E env cs => E.nx env cs
def wSeq (w u : WS) : WS := fun E env cs => w { E with nx := fun env' cs' => u E env' cs' } env cs
theorem wNext.mo : MonoS wNext := fun E E' env cs h q => h.nx _ _ q
theorem wSeq.mo (hw : MonoS w) (hu : MonoS u) : MonoS (wSeq w u) := fun E E' env cs h q => hw { E with nx := fun env' cs' => u E env' cs' } { E' with nx := fun env' cs' => u E' env' cs' } env cs ⟨fun env cs q => hu E E' env cs h q, h.rt, h.bk, h.ct⟩ q
theorem dss_nil : DSs X [] wNext := ⟨PSs.imp pss_nil fun D σ H ⟨g, cs, env, s, l, h⟩ => h g H σ (Ext.refl g) s l, wNext.mo⟩
theorem low_seq (hw : MonoS w) (hu : MonoS u) {K : PySem.W.Frag} {D : Ends} {σ : L2.St} {H : Hp} (h : lowS K (wSeq w u) D σ H) : lowS K w { D with nx := fun σ H => lowS K u D σ H } σ H := by
  obtain ⟨g, cs, env, s, l, h⟩ := h
  refine lowS.go hw s l h ⟨fun env' cs' q g' H' σ' e s' l' => ?_, fun _ _ q => q, fun _ _ q => q, fun _ _ q => q⟩
  exact lowS.go hu s' l' q (upN.mono e D)
theorem dss_cons (h1 : DS X st w) (h2 : DSs X rest u) : DSs X (st :: rest) (wSeq w u) := ⟨PSs.imp (pss_cons h1.pe h2.pe) fun D σ H h => low_seq h1.mo h2.mo h, wSeq.mo h1.mo h2.mo⟩
theorem dss_one (h1 : DS X st w) : DSs X [st] w := ⟨pss_one h1.pe, h1.mo⟩
def wBreak : WS := fun E env cs => E.bk env cs
def wCont : WS := fun E env cs => E.ct env cs
theorem ds_pass : DS X (.Pass pos) wNext := ⟨PS.imp ps_pass fun D σ H ⟨g, cs, env, s, l, h⟩ => h g H σ (Ext.refl g) s l, wNext.mo⟩
theorem ds_doc {x j pos'} : DS X (.Expr (.Constant (.str x) j pos) pos') wNext := ⟨PS.imp ps_doc fun D σ H ⟨g, cs, env, s, l, h⟩ => h g H σ (Ext.refl g) s l, wNext.mo⟩
theorem ds_break : DS X (.Break pos) wBreak := ⟨PS.imp ps_break fun D σ H ⟨g, cs, env, s, l, h⟩ => h g H σ (Ext.refl g) s l, fun E E' env cs h q => h.bk _ _ q⟩
theorem ds_continue : DS X (.Continue pos) wCont := ⟨PS.imp ps_continue fun D σ H ⟨g, cs, env, s, l, h⟩ => h g H σ (Ext.refl g) s l, fun E E' env cs h q => h.ct _ _ q⟩
def wDrop (we : WE) : WS := fun E env cs => we env cs fun _ cs' => E.nx env cs'
theorem ds_expr (he : DE X a wa) (hs : swapsWith a none pos.line X.env = pure false := by rfl) : DS X (.Expr a pos) (wDrop wa) :=
  ⟨PS.imp (ps_expr he.pe hs) fun D σ H ⟨g, cs, env, s, l, h⟩ => lowE.go he.mo s l h fun d cs1 g1 H1 v1 h1 e1 s1 r1 => h1 g1 H1 σ e1 s1 (l.mono e1),
    fun E E' env cs h q => he.mo env cs _ _ (fun _ _ q => h.nx _ _ q) q⟩
def wRet (we : WE) : WS := fun E env cs => we env cs E.rt
theorem ds_ret (he : DE X a wa) : DS X (.Return (some a) pos) (wRet wa) :=
  ⟨PS.imp (ps_ret he.pe) fun D σ H ⟨g, cs, env, s, l, h⟩ => lowE.go he.mo s l h fun d cs1 g1 H1 v1 h1 e1 s1 r1 => h1 g1 H1 v1 e1 s1 r1,
    fun E E' env cs h q => he.mo env cs _ _ (fun _ _ q => h.rt _ _ q) q⟩
def wRetN : WS := fun E _ cs => E.rt .non cs
theorem ds_retN : DS X (.Return none pos) wRetN := ⟨PS.imp ps_retN fun D σ H ⟨g, cs, env, s, l, h⟩ => h g H _ (Ext.refl g) s rfl, fun E E' env cs h q => h.rt _ _ q⟩
def wIfS (t : WT) (w u : WS) : WS := fun E env cs => t env cs fun b cs1 => if b = true then w E env cs1 else u E env cs1
theorem ds_if {t : WT} {p q : List Stmt} (hc : DT X c t) (hp : DSs X p w) (hq : DSs X q u) : DS X (.If c p q pos) (wIfS t w u) :=
  ⟨PS.imp (ps_if hc.pe hp.pe hq.pe) fun D σ H ⟨g, cs, env, s, l, h⟩ => lowT.go hc.mo s l h fun k cs1 g1 H1 h1 e1 s1 => ite_mono (fun h1 => lowS.go hp.mo s1 (l.mono e1) h1 (upN.mono e1 D)) (fun h1 => lowS.go hq.mo s1 (l.mono e1) h1 (upN.mono e1 D)) h1,
    fun E E' env cs h x => hc.mo env cs _ _ (fun k cs1 q1 => ite_mono (fun y => hp.mo _ _ _ _ h y) (fun y => hq.mo _ _ _ _ h y) q1) x⟩
def wNever : WS := fun _ _ _ => False
theorem ds_never : DS X st wNever := ⟨PS.imp ps_never fun D σ H ⟨g, cs, env, s, l, h⟩ => h, fun _ _ _ _ _ h => h⟩
theorem dss_never {sts : List Stmt} : DSs X sts wNever := ⟨PSs.imp pss_never fun D σ H ⟨g, cs, env, s, l, h⟩ => h, fun _ _ _ _ _ h => h⟩
/-! ### names stored -/
def wSet (i : Nat) (we : WE) : WS := fun E env cs => we env cs fun d cs' => E.nx (env.set i (some d)) cs'
theorem wSet.mo {i : Nat} (h : MonoE wa) : MonoS (wSet i wa) := fun E E' env cs hE q => h env cs _ _ (fun _ _ q => hE.nx _ _ q) q
theorem low_set {i : Nat} (m : MonoE wa) {K : PySem.W.Frag} {D : Ends} {σ : L2.St} {H : Hp} (h : lowS K (wSet i wa) D σ H) : lowE K wa σ H fun x H1 => gName i x σ H1 D.nx := by
  obtain ⟨g, cs, env, s, l, h⟩ := h
  exact lowE.go m s l h fun d cs1 g1 H1 v1 h1 e1 s1 r1 => h1 g1 H1 _ e1 s1 ((l.mono e1).set r1)
theorem ds_set {i : Nat} {x : Str} {pos' : Pos} (hN : X.N.Nodup) (he : DE X a wa) (hi : X.N[i]? = some x := by rfl) (hx : Loc X.env.scope x := by first | exact Or.inl rfl | exact Or.inr rfl) (hs : swapsWith a (some (.Name x pos')) pos.line X.env = pure false := by rfl) (hf : X.fn x = true ∨ X.env.scope.names.lookup x = some .local := by first | exact .inl rfl | exact .inr rfl | assumption) :
    DS X (.Assign [.Name x pos'] a pos) (wSet i wa) := ⟨PS.imp (ps_set hN hi hx he.pe hs hf) fun D σ H h => low_set he.mo h, wSet.mo he.mo⟩
def wPar (i j : Nat) (w : WA) : WS := fun E env cs => w env cs fun ds cs' => match ds with
  | [d, e] => E.nx ((env.set i (some d)).set j (some e)) cs'
  | _ => False
theorem ds_par {i j : Nat} {x y : Str} {wA : WA} {px py pt : Pos} {kt k2 pt2} (hc : X.calm = true) (hN : X.N.Nodup) (ha : DA X [a, b] wA) (hi : X.N[i]? = some x := by rfl) (hj : X.N[j]? = some y := by rfl) (hij : i ≠ j := by decide)
    (hx : X.env.scope.names.lookup x = some .local := by rfl) (hy : X.env.scope.names.lookup y = some .local := by rfl)
    (hw : swappedStores [.Tuple [.Name x px, .Name y py] kt pt] (.Tuple [a, b] k2 pt2) X.env = pure (some [x, y]) := by rfl)
    (hs : swapsWithSole [.Tuple [.Name x px, .Name y py] kt pt] (.Tuple [a, b] k2 pt2) pos.line X.env = pure false := by rfl) :
    DS X (.Assign [.Tuple [.Name x px, .Name y py] kt pt] (.Tuple [a, b] k2 pt2) pos) (wPar i j wA) := by
  refine ⟨PS.imp (ps_par hc hN hi hj hij hx hy ha.pe hw hs) fun D σ H ⟨g, cs, env, s, l, h⟩ => lowA.go ha.mo s l h fun ds cs1 g1 H1 vs h1 e1 s1 r1 => ?_, fun E E' env cs h q => ha.mo env cs _ _ (fun ds cs' q => ?_) q⟩
  · match ds, h1, r1 with
    | [d, e], h1, r1 =>
      obtain ⟨v, r, ev, q1, v2, r', ev2, q2, q3⟩ := r1
      have q3' : r' = [] := q3
      subst ev ev2 q3'
      exact ⟨v, v2, rfl, h1 g1 H1 _ e1 s1 (((l.mono e1).set q1).set q2)⟩
  · match ds, q with
    | [d, e], q => exact h.nx _ _ q
def wPar3 (i j k : Nat) (w : WA) : WS := fun E env cs => w env cs fun ds cs' => match ds with
  | [d, e, f] => E.nx (((env.set i (some d)).set j (some e)).set k (some f)) cs'
  | _ => False
theorem ds_par3 {i j k : Nat} {x y z : Str} {d : Expr} {wA : WA} {px py pz pt : Pos} {kt k2 pt2} (hc : X.calm = true) (hN : X.N.Nodup) (ha : DA X [a, b, d] wA) (hi : X.N[i]? = some x := by rfl) (hj : X.N[j]? = some y := by rfl) (hk : X.N[k]? = some z := by rfl) (hij : i ≠ j := by decide) (hik : i ≠ k := by decide) (hjk : j ≠ k := by decide)
    (hx : X.env.scope.names.lookup x = some .local := by rfl) (hy : X.env.scope.names.lookup y = some .local := by rfl) (hz : X.env.scope.names.lookup z = some .local := by rfl)
    (hw : swappedStores [.Tuple [.Name x px, .Name y py, .Name z pz] kt pt] (.Tuple [a, b, d] k2 pt2) X.env = pure (some [x, y, z]) := by rfl)
    (hs : swapsWithSole [.Tuple [.Name x px, .Name y py, .Name z pz] kt pt] (.Tuple [a, b, d] k2 pt2) pos.line X.env = pure false := by rfl) :
    DS X (.Assign [.Tuple [.Name x px, .Name y py, .Name z pz] kt pt] (.Tuple [a, b, d] k2 pt2) pos) (wPar3 i j k wA) := by
  refine ⟨PS.imp (ps_par3 hc hN hi hj hk hij hik hjk hx hy hz ha.pe hw hs) fun D σ H ⟨g, cs, env, s, l, h⟩ => lowA.go ha.mo s l h fun ds cs1 g1 H1 vs h1 e1 s1 r1 => ?_, fun E E' env cs h q => ha.mo env cs _ _ (fun ds cs' q => ?_) q⟩
  · match ds, h1, r1 with
    | [d, e, f], h1, r1 =>
      obtain ⟨v, r, ev, q1, v2, r', ev2, q2, v3, r'', ev3, q3, q4⟩ := r1
      have q4' : r'' = [] := q4
      subst ev ev2 ev3 q4'
      exact ⟨v, v2, v3, rfl, h1 g1 H1 _ e1 s1 ((((l.mono e1).set q1).set q2).set q3)⟩
  · match ds, q with
    | [d, e, f], q => exact h.nx _ _ q
/-! ### patterns -/
inductive Pat where
  | nm (i : Nat) | tp (ps : List Pat)
mutual
def gOf (K : PySem.W.Frag) : Pat → TG
  | .nm i => gName i
  | .tp ps => fun v σ H Q => ∃ a xs, v = .ref a ∧ (SqT K H a xs ∨ SqL K H a xs) ∧ xs.length = ps.length ∧ gsOf K ps xs σ H Q
def gsOf (K : PySem.W.Frag) : List Pat → TGs
  | [] => gNil
  | p :: ps => gCons (gOf K p) (gsOf K ps)
end
/-! what a pattern stores -/
mutual
def patSet (cs : Sto) : Pat → D → En → Option En
  | .nm i, d, env => some (env.set i (some d))
  | .tp ps, d, env => match seqOf cs d with
    | some ds => if ds.length = ps.length then patSets cs ps ds env else none
    | none => none
def patSets (cs : Sto) : List Pat → List D → En → Option En
  | [], _, env => some env
  | p :: ps, d :: ds, env => match patSet cs p d env with
    | some env' => patSets cs ps ds env'
    | none => none
  | _ :: _, [], _ => none
end
mutual
def slots : Pat → List Nat
  | .nm i => [i]
  | .tp ps => slotsAll ps
def slotsAll : List Pat → List Nat
  | [] => []
  | p :: ps => slots p ++ slotsAll ps
end
structure DG (X : Cx) (tg : Expr) (p : Pat) : Prop where
  pg : PG X tg (gOf X.K p)
structure DGs (X : Cx) (tg : List Expr) (ps : List Pat) : Prop where
  pg : PGs X tg (gsOf X.K ps)
theorem dg_nm (i : Nat) {x : Str} (hN : X.N.Nodup) (hi : X.N[i]? = some x := by rfl) (hx : Loc X.env.scope x := by first | exact Or.inl rfl | exact Or.inr rfl) (hf : X.fn x = true ∨ X.env.scope.names.lookup x = some .local := by first | exact .inl rfl | exact .inr rfl | assumption) : DG X (.Name x pos) (.nm i) := ⟨pg_name hN hi hx hf⟩
theorem dgs_nil : DGs X [] [] := ⟨pgs_nil⟩
theorem dgs_cons {e : Expr} {es : List Expr} {p : Pat} {ps : List Pat} (h1 : DG X e p) (h2 : DGs X es ps) (hs : (assignEach (e :: es) X.env).map (·.2) = assign e X.env :: (assignEach es X.env).map (·.2) := by rfl) : DGs X (e :: es) (p :: ps) := ⟨pgs_cons h1.pg h2.pg hs⟩
theorem dg_tp {es : List Expr} {k : Nat} {ps : List Pat} (hc : X.calm = true) (h : DGs X es ps) (hn : (assignEach es X.env).length = ps.length := by rfl) (hst : (assignEach es X.env).findIdx? (·.1) = none := by rfl) : DG X (.Tuple es k pos) (.tp ps) := by
  refine ⟨⟨fun pins s σ H v u Q I r hw => ?_⟩⟩
  obtain ⟨a, xs, e1, hq, hl, hw⟩ := hw
  rcases hq with hq | hq
  · exact (pg_tup (n := ps.length) hc h.pg hn hst).run pins s σ H v u Q I r ⟨a, xs, e1, hq, hl, hw⟩
  · exact (pg_unl (n := ps.length) hc h.pg hn hst).run pins s σ H v u Q I r ⟨a, xs, e1, hq, hl, hw⟩
theorem wipe_set (σ : L2.St) (i : Nat) (x : Option V) : ∀ {vs : List Nat}, i ∈ vs → wipe (σ.set i x) vs = wipe σ vs
  | [], h => by cases h
  | v :: vs, h => by
    unfold wipe
    by_cases hv : i ∈ vs
    · rw [wipe_set σ i x hv]
    · have e : i = v := by
        rcases List.mem_cons.mp h with e | e
        · exact e
        · exact absurd e hv
      subst e
      have c : ∀ us : List Nat, i ∉ us → wipe (σ.set i x) us = (wipe σ us).set i x := by
        intro us
        induction us with
        | nil => intro _; rfl
        | cons k ks ih =>
          intro hk
          unfold wipe
          rw [ih (fun z => hk (List.mem_cons_of_mem _ z))]
          rw [List.set_comm _ _ (fun z => hk (by rw [z]; exact List.mem_cons_self))]
      rw [c vs hv, List.set_set]
section
variable {K : PySem.W.Frag} {g : G} {cs : Sto} {H : Hp}
mutual
theorem gOf_ok (s : Sr K g cs H) : ∀ (p : Pat) (d : D) (v : V) (env env' : En) (σ : L2.St) (Q : L2.St → Hp → Prop), Rep K g d v → Lr K g env σ → patSet cs p d env = some env' →
    (∀ σ', Lr K g env' σ' → (∀ vs, (∀ i ∈ slots p, i ∈ vs) → wipe σ' vs = wipe σ vs) → Q σ' H) → gOf K p v σ H Q
  | .nm i, d, v, env, env', σ, Q, r, l, h, k => by
    simp only [patSet, Option.some.injEq] at h
    subst h
    exact k _ (l.set r) fun vs hv => wipe_set σ i _ (hv i (by simp [slots]))
  | .tp ps, d, v, env, env', σ, Q, r, l, h, k => by
    unfold patSet at h
    cases e : seqOf cs d with
    | none => rw [e] at h; cases h
    | some ds =>
      rw [e] at h
      simp only at h
      split at h
      · rename_i hl
        obtain ⟨a, vs, e1, h1, h2⟩ := seq_of s e r
        refine ⟨a, vs, e1, ?_, by rw [← h2.length]; exact hl, gsOf_ok s ps ds vs env env' σ Q h2 hl l h fun σ' l' hw => k σ' l' fun us hu => hw us (by simpa [slots] using hu)⟩
        rcases h1 with h1 | h1
        · exact .inr h1
        · exact .inl h1
      · cases h
theorem gsOf_ok (s : Sr K g cs H) : ∀ (ps : List Pat) (ds : List D) (vs : List V) (env env' : En) (σ : L2.St) (Q : L2.St → Hp → Prop), RepL K g ds vs → ds.length = ps.length → Lr K g env σ → patSets cs ps ds env = some env' →
    (∀ σ', Lr K g env' σ' → (∀ us, (∀ i ∈ slotsAll ps, i ∈ us) → wipe σ' us = wipe σ us) → Q σ' H) → gsOf K ps vs σ H Q
  | [], ds, vs, env, env', σ, Q, r, hl, l, h, k => by
    have e : ds = [] := by cases ds <;> simp_all
    subst e
    have e2 : vs = [] := r
    subst e2
    simp only [patSets, Option.some.injEq] at h
    subst h
    exact ⟨rfl, k σ l fun _ _ => rfl⟩
  | p :: ps, [], vs, env, env', σ, Q, r, hl, l, h, k => by simp at hl
  | p :: ps, d :: ds, vs, env, env', σ, Q, r, hl, l, h, k => by
    obtain ⟨v, vr, e1, q1, q2⟩ := r
    subst e1
    unfold patSets at h
    cases e : patSet cs p d env with
    | none => rw [e] at h; cases h
    | some env1 =>
      rw [e] at h
      simp only at h
      refine ⟨v, vr, rfl, gOf_ok s p d v env env1 σ _ q1 l e fun σ1 l1 hw1 => ?_⟩
      exact gsOf_ok s ps ds vr env1 env' σ1 Q q2 (by simpa using hl) l1 h fun σ2 l2 hw2 => k σ2 l2 fun us hu => by
        rw [hw2 us (fun i hi => hu i (by simp [slotsAll, hi])), hw1 us (fun i hi => hu i (by simp [slotsAll, hi]))]
end
end
def wPat (p : Pat) (we : WE) : WS := fun E env cs => we env cs fun d cs' => match patSet cs' p d env with
  | some env' => E.nx env' cs'
  | none => False
theorem ds_pat {tg : Expr} {p : Pat} (hg : DG X tg p) (he : DE X a wa) (hs : swapsWithSole [tg] a pos.line X.env = pure false := by rfl) (hw : swappedStores [tg] a X.env = pure none := by rfl)
    (h1 : (assignEach [tg] X.env).map (·.2) = [assign tg X.env] := by rfl) : DS X (.Assign [tg] a pos) (wPat p wa) := by
  refine ⟨PS.imp (ps_asg he.pe hg.pg hs hw h1) fun D σ H ⟨g, cs, env, s, l, h⟩ => lowE.go he.mo s l h fun d cs1 g1 H1 v1 h1 e1 s1 r1 => ?_, fun E E' env cs h q => he.mo env cs _ _ (fun d cs' q => ?_) q⟩
  · split at h1
    · rename_i env' hp
      exact gOf_ok s1 p d v1 env env' σ _ r1 (l.mono e1) hp fun σ' l' _ => h1 g1 H1 σ' e1 s1 l'
    · exact h1.elim
  · split at q
    · exact h.nx _ _ q
    · exact q.elim
/-! ### x op= e -/
def wAug (i : Nat) (o : O2) (we : WE) : WS := fun E env cs => match env[i]? with
  | some (some x) => we env cs fun d cs1 => o x d cs1 fun z cs2 => E.nx (env.set i (some z)) cs2
  | _ => False
theorem ds_aug {i : Nat} {x : Str} {op : Operator} {o : O2} {pos' : Pos} (hN : X.N.Nodup) (ho : OpD X (inplaceOp op) o) (he : DE X a wa) (hi : X.N[i]? = some x := by rfl) (hx : Loc X.env.scope x := by first | exact Or.inl rfl | exact Or.inr rfl) (hf : X.fn x = true ∨ X.env.scope.names.lookup x = some .local := by first | exact .inl rfl | exact .inr rfl | assumption) :
    DS X (.AugAssign (.Name x pos') op a pos) (wAug i o wa) := by
  refine ⟨PS.imp (ps_aug hN hi hx he.pe (ti := lowO X.K o) (fun pins s σ H x y v u Q I r1 r2 h => ho.op pins s σ H x y v u Q I r1 r2 h) hf) fun D σ H ⟨g, cs, env, s, l, h⟩ => ?_, fun E E' env cs h q => ?_⟩
  · unfold wAug at h
    split at h
    · rename_i d e
      obtain ⟨v, q1, q2⟩ := l.ok i d e
      refine ⟨v, q1, lowE.go he.mo s l h fun d1 cs1 g1 H1 v1 h1 e1 s1 r1 => ⟨g1, cs1, d, d1, s1, q2.mono e1, r1, ho.mo _ _ _ _ _ (fun z cs2 q g2 H2 v2 e2 s2 r2 => ?_) h1⟩⟩
      exact q g2 H2 _ (e1.trans e2) s2 ((l.mono (e1.trans e2)).set r2)
    · exact h.elim
  · unfold wAug at q ⊢
    split at q
    · exact he.mo env cs _ _ (fun d cs1 q => ho.mo _ _ _ _ _ (fun z cs2 q => h.nx _ _ q) q) q
    · exact q
/-! ### what is walked -/
abbrev WI := En → Sto → (List D → (Sto → Prop) → Sto → Prop) → Prop
/-- J goes through ds, while what is known stays -/
def ItD (K : PySem.W.Frag) (g : G) (W : Sto → Prop) (J : It) (ds : List D) : Prop :=
  ∀ g' cs H, Sub g g' → Sr K g' cs H → W cs → (∀ i, ds.length ≤ i → J.stop i H) ∧
    ∀ i d, ds[i]? = some d → J.go i H ∧ ∀ x H', J.yld i H x H' → ∃ g2, Ext g' g2 ∧ Sr K g2 cs H' ∧ Rep K g2 d x
def lowI (K : PySem.W.Frag) (w : WI) : TI := fun σ H R => ∃ g cs env, Sr K g cs H ∧ Lr K g env σ ∧ w env cs fun ds W cs1 => ∀ g' H' J, Ext g g' → Sr K g' cs1 H' → ItD K g' W J ds → R J H'
abbrev MonoI (w : WI) : Prop := ∀ env cs Q Q', (∀ ds W cs, Q ds W cs → Q' ds W cs) → w env cs Q → w env cs Q'
structure DI (X : Cx) (tg e : Expr) (w : WI) : Prop where
  pe : PI X tg e (lowI X.K w)
  mo : MonoI w
section
variable {K : PySem.W.Frag}
theorem lowI.go {w : WI} (m : MonoI w) {g : G} {cs : Sto} {H : Hp} {env : En} {σ : L2.St} {P : List D → (Sto → Prop) → Sto → Prop} {R : It → Hp → Prop} (s : Sr K g cs H) (l : Lr K g env σ) (h : w env cs P)
    (k : ∀ ds W cs' g' H' J, P ds W cs' → Ext g g' → Sr K g' cs' H' → ItD K g' W J ds → R J H') : lowI K w σ H R :=
  ⟨g, cs, env, s, l, m env cs P _ (fun ds W cs' p g' H' J e s' i => k ds W cs' g' H' J p e s' i) h⟩
theorem itd_list {g : G} {W : Sto → Prop} {a : Addr} {ds : List D} {vs : List V} (h : g.Z a = some (.lst vs)) (r : RepL K g ds vs) : ItD K g W (Itl K a) ds := by
  intro g' cs' H e s _
  have h' : SqL K H a vs := .of (s.le _ _ (e.z _ _ h))
  refine ⟨fun i hi => ⟨vs, h', by rw [← r.length]; exact hi⟩, fun i d hd => ?_⟩
  obtain ⟨v, q1, q2⟩ := r.get hd
  refine ⟨⟨vs, v, h', q1⟩, fun x H' ⟨e1, q⟩ => ?_⟩
  subst e1
  have := q vs h'
  rw [q1] at this
  cases this
  exact ⟨g', Ext.refl _, s, Rep.sub e _ _ q2⟩
theorem itd_tup {g : G} {W : Sto → Prop} {a : Addr} {ds : List D} {vs : List V} (h : SqT K g.Z a vs) (r : RepL K g ds vs) : ItD K g W (Itt K a) ds := by
  intro g' cs' H e s _
  have h' : SqT K H a vs := sqT_mono s.le (sqT_mono e.z h)
  refine ⟨fun i hi => ⟨vs, h', by rw [← r.length]; exact hi⟩, fun i d hd => ?_⟩
  obtain ⟨v, q1, q2⟩ := r.get hd
  refine ⟨⟨vs, v, h', q1⟩, fun x H' ⟨e1, q⟩ => ?_⟩
  subst e1
  have := q vs h'
  rw [q1] at this
  cases this
  exact ⟨g', Ext.refl _, s, Rep.sub e _ _ q2⟩
/-- a changing list, as long as it stands as it is -/
theorem itd_cell {g : G} {n : Nat} {a : Addr} {ds : List D} (h : g.as[n]? = some a) : ItD K g (fun cs => cs[n]? = some (.lst ds)) (Itl K a) ds := by
  intro g' cs' H e s hw
  obtain ⟨vs, q1, r, q3⟩ := s.ok n a _ (e.at h) hw
  have h' : SqL K H a vs := .of q1
  refine ⟨fun i hi => ⟨vs, h', by rw [← r.length]; exact hi⟩, fun i d hd => ?_⟩
  obtain ⟨v, k1, k2⟩ := r.get hd
  refine ⟨⟨vs, v, h', k1⟩, fun x H' ⟨e1, q⟩ => ?_⟩
  subst e1
  have := q vs h'
  rw [k1] at this
  cases this
  exact ⟨g', Ext.refl _, s, k2⟩
def rngD (lo : Int) (n : Nat) : List D := (List.range n).map fun i => D.int (lo + (i : Nat))
theorem itd_range {g : G} {W : Sto → Prop} {lo : Int} {n : Nat} : ItD K g W (Itr lo n) (rngD lo n) := by
  intro g' cs' H e s _
  refine ⟨fun i hi => (show n ≤ i by simpa [rngD] using hi), fun i d hd => ?_⟩
  have hi : i < n := by
    have := (List.getElem?_eq_some_iff.mp hd).1
    simpa [rngD] using this
  have hd' : d = D.int (lo + (i : Nat)) := by
    have h2 : (rngD lo n)[i]? = some (D.int (lo + (i : Nat))) := by simp [rngD, hi]
    rw [h2] at hd
    cases hd
    rfl
  subst hd'
  refine ⟨hi, fun x H' ⟨e1, e2⟩ => ?_⟩
  subst e1 e2
  exact ⟨g', Ext.refl _, s, rfl⟩
end
/-- a list, a tuple that stays -/
def wAll : Sto → Prop := fun _ => True
def wCl (n : Nat) (ds : List D) : Sto → Prop := fun cs => cs[n]? = some (.lst ds)
def wSeqI (we : WE) : WI := fun env cs Q => we env cs fun d cs' => match d with
  | .lst ds => Q ds wAll cs'
  | .tup ds => Q ds wAll cs'
  | .cell n => ∃ ds, cs'[n]? = some (.lst ds) ∧ Q ds (wCl n ds) cs'
  | _ => False
theorem di_seq {tg : Expr} (he : DE X a wa) : DI X tg a (wSeqI wa) := by
  refine ⟨⟨fun pins s σ H R I h => ?_⟩, fun env cs Q Q' hq q => he.mo env cs _ _ (fun d cs' q => ?_) q⟩
  · obtain ⟨g, cs, env, sr, l, h⟩ := h
    -- the iterator of a list at p, of a tuple at p
    have goL : ∀ {s1 : Shared} {H1 : Hp} {p : Addr} {vs : List V}, Inv X pins σ H1 s1 → SqL X.K H1 p vs → R (Itl X.K p) H1 → wpAny (model X.prog X.w) X.A (pyIter (.ref p)) (PIE X pins σ tg R) X.xe s1 := fun {s1 H1 p vs} I1 hq hR => by
      obtain ⟨its, rv, pq, hz⟩ := I1.list hq
      refine wpAny_pyIter_list pq.isList ⟨_, [s1.heap.objs.size], _, _, H1, rfl, I1.kept (t' := s1.toks) fun b o e => Heap.get?_push_of_some _ e, turn_list p _, ⟨_, Heap.get?_push_size _ rfl, rfl, rfl⟩, fun b hb => ?_, hR⟩
      rw [List.mem_singleton.mp hb]
      exact I1.fpOk (Nat.le_refl _) (I1.hok.fresh (Nat.le_refl _))
    have goT : ∀ {s1 : Shared} {H1 : Hp} {p : Addr} {vs : List V}, Inv X pins σ H1 s1 → SqT X.K H1 p vs → R (Itt X.K p) H1 → wpAny (model X.prog X.w) X.A (pyIter (.ref p)) (PIE X pins σ tg R) X.xe s1 := fun {s1 H1 p vs} I1 hq hR => by
      obtain ⟨its, rv, pq, hz⟩ := I1.tuple hq
      refine wpAny_pyIter_tuple (show s1.heap.IsTuple p its.toArray from pq) ⟨_, [s1.heap.objs.size], _, _, H1, rfl, I1.kept (t' := s1.toks) fun b o e => Heap.get?_push_of_some _ e, turn_tuple p _, ⟨_, Heap.get?_push_size _ rfl, rfl, rfl⟩, fun b hb => ?_, hR⟩
      rw [List.mem_singleton.mp hb]
      exact I1.fpOk (Nat.le_refl _) (I1.hok.fresh (Nat.le_refl _))
    refine thn (he.pe.run pins s σ H (fun v H' => ∃ g' cs' d, Ext g g' ∧ Sr X.K g' cs' H' ∧ Rep X.K g' d v ∧ (match d with
        | .lst ds => (∀ g2 H2 J, Ext g g2 → Sr X.K g2 cs' H2 → ItD X.K g2 wAll J ds → R J H2)
        | .tup ds => (∀ g2 H2 J, Ext g g2 → Sr X.K g2 cs' H2 → ItD X.K g2 wAll J ds → R J H2)
        | .cell n => ∃ ds, cs'[n]? = some (.lst ds) ∧ (∀ g2 H2 J, Ext g g2 → Sr X.K g2 cs' H2 → ItD X.K g2 (wCl n ds) J ds → R J H2)
        | _ => False)) I
      (lowE.go he.mo sr l h fun d cs1 g1 H1 v1 h1 e1 s1 r1 => ⟨g1, cs1, d, e1, s1, r1, h1⟩)) fun u s1 ⟨v, H1, I1, r1, g1, cs1, d, e1, sr1, rd, h1⟩ => ?_
    cases d with
    | lst ds =>
      obtain ⟨p, vs, ev, q1, q2⟩ := rd
      subst ev
      cases (show u = Value.ref p from r1)
      exact goL I1 (.of (sr1.le _ _ q1)) (h1 g1 H1 _ e1 sr1 (itd_list q1 q2))
    | tup ds =>
      obtain ⟨p, vs, ev, q1, q2⟩ := rd
      subst ev
      cases (show u = Value.ref p from r1)
      exact goT I1 (sqT_mono sr1.le q1) (h1 g1 H1 _ e1 sr1 (itd_tup q1 q2))
    | cell n =>
      obtain ⟨p, ev, q1⟩ := rd
      subst ev
      cases (show u = Value.ref p from r1)
      obtain ⟨ds, hc, h1⟩ := h1
      obtain ⟨vs, k1, k2, k3⟩ := sr1.ok n p _ q1 hc
      exact goL I1 (.of k1) (h1 g1 H1 _ e1 sr1 (itd_cell q1))
    | _ => exact h1.elim
  · cases d <;> first | exact hq _ _ _ q | exact q | (obtain ⟨ds, hc, q⟩ := q; exact ⟨ds, hc, hq _ _ _ q⟩)
def wRng1 (w : WA) : WI := fun env cs Q => w env cs fun ds cs' => ∃ j : Int, ds = [.int j] ∧ -(2 ^ 62) ≤ j ∧ j < 2 ^ 62 ∧ Q (rngD 0 j.toNat) wAll cs'
def wRng2 (w : WA) : WI := fun env cs Q => w env cs fun ds cs' => ∃ i j : Int, ds = [.int i, .int j] ∧ (-(2 ^ 62) ≤ i ∧ i < 2 ^ 62 ∧ -(2 ^ 62) ≤ j ∧ j < 2 ^ 62) ∧ Q (rngD i (j - i).toNat) wAll cs'
theorem di_range1 {tg : Expr} {wA : WA} {p : Pos} (hm : X.mg "range" = none) (ha : DA X [a] wA) (hg : Gl X "range" := by rfl) (hs : starEach [a] X.env = [(false, eval a X.env)] := by rfl) : DI X tg (.Call (.Name "range" p) [a] [] pos) (wRng1 wA) := by
  refine ⟨⟨fun pins s σ H R I h => (pi_range1 hg hm ha.pe hs).run pins s σ H R I ?_⟩, fun env cs Q Q' hq q => ha.mo env cs _ _ (fun ds cs' ⟨j, q1, q2, q3, q4⟩ => ⟨j, q1, q2, q3, hq _ _ _ q4⟩) q⟩
  obtain ⟨g, cs, env, sr, l, h⟩ := h
  refine lowA.go ha.mo sr l h fun ds cs1 g1 H1 vs ⟨j, q1, q2, q3, q4⟩ e1 s1 r1 => ⟨j, ?_, q2, q3, q4 g1 H1 _ e1 s1 itd_range⟩
  subst q1
  exact RepL.ints (ns := [j]) r1
theorem di_range2 {tg : Expr} {wA : WA} {p : Pos} (hm : X.mg "range" = none) (ha : DA X [a, b] wA) (hg : Gl X "range" := by rfl) (hs : starEach [a, b] X.env = [(false, eval a X.env), (false, eval b X.env)] := by rfl) (hs2 : starEach [b] X.env = [(false, eval b X.env)] := by rfl) : DI X tg (.Call (.Name "range" p) [a, b] [] pos) (wRng2 wA) := by
  refine ⟨⟨fun pins s σ H R I h => (pi_range2 hg hm ha.pe hs hs2).run pins s σ H R I ?_⟩, fun env cs Q Q' hq q => ha.mo env cs _ _ (fun ds cs' ⟨i, j, q1, q2, q4⟩ => ⟨i, j, q1, q2, hq _ _ _ q4⟩) q⟩
  obtain ⟨g, cs, env, sr, l, h⟩ := h
  refine lowA.go ha.mo sr l h fun ds cs1 g1 H1 vs ⟨i, j, q1, q2, q4⟩ e1 s1 r1 => ⟨i, j, ?_, q2, q4 g1 H1 _ e1 s1 itd_range⟩
  subst q1
  exact RepL.ints (ns := [i, j]) r1
/-! ### for -/
/-- W: what must hold at each turn, and at the end -/
def floop (p : Pat) (wb : WS) (E : DN) (W : Sto → Prop) : List D → En → Sto → Prop
  | [], env, cs => W cs ∧ E.nx env cs
  | d :: ds, env, cs => W cs ∧ match patSet cs p d env with
    | some env' => wb { E with nx := floop p wb E W ds, ct := floop p wb E W ds, bk := E.nx } env' cs
    | none => False
theorem floop.mo {p : Pat} {wb : WS} {W : Sto → Prop} (hb : MonoS wb) {E E' : DN} (h : DN.le E E') : ∀ (ds : List D) (env : En) (cs : Sto), floop p wb E W ds env cs → floop p wb E' W ds env cs
  | [], env, cs, q => ⟨q.1, h.nx _ _ q.2⟩
  | d :: ds, env, cs, q => by
    unfold floop at q ⊢
    obtain ⟨q0, q⟩ := q
    refine ⟨q0, ?_⟩
    split at q
    · exact hb { E with nx := floop p wb E W ds, ct := floop p wb E W ds, bk := E.nx } { E' with nx := floop p wb E' W ds, ct := floop p wb E' W ds, bk := E'.nx } _ _ ⟨fun env cs q => floop.mo hb h ds env cs q, h.rt, h.nx, fun env cs q => floop.mo hb h ds env cs q⟩ q
    · exact q
def wFor (wi : WI) (p : Pat) (wb : WS) : WS := fun E env cs => wi env cs fun ds W cs1 => floop p wb E W ds env cs1
theorem ds_for {tg : Expr} {body : List Stmt} {wi : WI} {p : Pat} {wb : WS} (hp : PassesOwn (model X.prog X.w) X.A X.env X.xe) (hc : X.calm = true) (hi : DI X tg a wi) (hg : DG X tg p) (hb : DSs X body wb)
    (hs : ∀ x, foldedSetIterable a X.env x = pure x := by intro _; rfl) : DS X (.For tg a body [] pos) (wFor wi p wb) := by
  refine ⟨PS.imp (ps_for hp hc hi.pe hg.pg hb.pe hs) fun D σ H ⟨g, cs, env, s, l, h⟩ => lowI.go hi.mo s l h fun ds W cs1 g1 H1 J h1 e1 s1 hJ => ?_, fun E E' env cs h q => hi.mo env cs _ _ (fun ds W cs1 q => floop.mo hb.mo h ds env cs1 q) q⟩
  refine ⟨fun i m σ H => m = ds.length - i ∧ i ≤ ds.length ∧ ∃ g2 cs2 env2, Ext g1 g2 ∧ Sr X.K g2 cs2 H ∧ Lr X.K g2 env2 σ ∧ floop p wb (upN X.K g D) W (ds.drop i) env2 cs2,
    ⟨ds.length, by simp, Nat.zero_le _, g1, cs1, env, Ext.refl _, s1, l.mono e1, by simpa using h1⟩, ?_⟩
  rintro i m σ2 H2 ⟨rfl, hi', g2, cs2, env2, e2, s2, l2, hf⟩
  by_cases hlt : i < ds.length
  · rw [List.drop_eq_getElem_cons hlt] at hf
    unfold floop at hf
    obtain ⟨hw, hf⟩ := hf
    obtain ⟨stop, go⟩ := hJ g2 cs2 H2 e2.sub s2 hw
    obtain ⟨hgo, hy⟩ := go i ds[i] (by simp [hlt])
    refine .inr ⟨hgo, fun σ' H' => ∃ g3 cs3 env3, Ext g1 g3 ∧ Sr X.K g3 cs3 H' ∧ Lr X.K g3 env3 σ' ∧ floop p wb (upN X.K g D) W (ds.drop (i + 1)) env3 cs3,
      fun σ' H' ⟨g3, cs3, env3, e3, s3, l3, q3⟩ => ⟨ds.length - (i + 1), by omega, rfl, hlt, g3, cs3, env3, e3, s3, l3, q3⟩, fun x H' y => ?_⟩
    obtain ⟨g3, e3, s3, r3⟩ := hy x H' y
    split at hf
    · rename_i env' hp'
      refine gOf_ok s3 p _ x env2 env' σ2 _ r3 (l2.mono e3) hp' fun σ' l' _ => lowS.go hb.mo s3 l' hf ⟨?_, ?_, ?_, ?_⟩
      · intro env4 cs4 q g4 H4 σ4 e4 s4 l4
        exact ⟨g4, cs4, env4, (e2.trans e3).trans e4, s4, l4, q⟩
      · exact fun _ _ q => upV.mono ((e1.trans e2).trans e3) q
      · exact fun _ _ q => upE.mono ((e1.trans e2).trans e3) q
      · intro env4 cs4 q g4 H4 σ4 e4 s4 l4
        exact ⟨g4, cs4, env4, (e2.trans e3).trans e4, s4, l4, q⟩
    · exact hf.elim
  · have e : i = ds.length := by omega
    subst e
    rw [List.drop_length] at hf
    obtain ⟨hw, hf⟩ := hf
    obtain ⟨stop, go⟩ := hJ g2 cs2 H2 e2.sub s2 hw
    exact .inl ⟨stop _ (Nat.le_refl _), hf g2 H2 σ2 (e1.trans e2) s2 l2⟩
/-! ### while: some turns suffice -/
def wloop (t : WT) (wb : WS) (E : DN) : Nat → En → Sto → Prop
  | 0, _, _ => False
  | n + 1, env, cs => t env cs fun b cs1 => if b = true then wb { E with nx := wloop t wb E n, ct := wloop t wb E n, bk := E.nx } env cs1 else E.nx env cs1
theorem wloop.mo {t : WT} {wb : WS} (ht : MonoT t) (hb : MonoS wb) {E E' : DN} (h : DN.le E E') : ∀ (n : Nat) (env : En) (cs : Sto), wloop t wb E n env cs → wloop t wb E' n env cs
  | 0, env, cs, q => q
  | n + 1, env, cs, q => ht env cs _ _ (fun b cs1 q1 => ite_mono (fun q => hb { E with nx := wloop t wb E n, ct := wloop t wb E n, bk := E.nx } { E' with nx := wloop t wb E' n, ct := wloop t wb E' n, bk := E'.nx } _ _ ⟨fun env cs q => wloop.mo ht hb h n env cs q, h.rt, h.nx, fun env cs q => wloop.mo ht hb h n env cs q⟩ q) (fun q => h.nx _ _ q) q1) q
def wWhile (t : WT) (wb : WS) : WS := fun E env cs => ∃ n, wloop t wb E n env cs
theorem ds_while {body : List Stmt} {t : WT} {wb : WS} (hp : PassesOwn (model X.prog X.w) X.A X.env X.xe) (ht : DT X c t) (hb : DSs X body wb) : DS X (.While c body [] pos) (wWhile t wb) := by
  refine ⟨PS.imp (ps_while hp ht.pe hb.pe) fun D σ H ⟨g, cs, env, s, l, n, h⟩ => ?_, fun E E' env cs h ⟨n, q⟩ => ⟨n, wloop.mo ht.mo hb.mo h n env cs q⟩⟩
  refine ⟨fun m σ H => ∃ g2 cs2 env2, Ext g g2 ∧ Sr X.K g2 cs2 H ∧ Lr X.K g2 env2 σ ∧ wloop t wb (upN X.K g D) m env2 cs2, ⟨n, g, cs, env, Ext.refl _, s, l, h⟩, ?_⟩
  rintro m σ2 H2 ⟨g2, cs2, env2, e2, s2, l2, q⟩
  cases m with
  | zero => exact q.elim
  | succ m =>
    refine lowT.go ht.mo s2 l2 q fun b cs3 g3 H3 h3 e3 s3 => ite_mono (fun h3 => ?_) (fun h3 => ?_) h3
    · refine ⟨fun σ' H' => ∃ g4 cs4 env4, Ext g g4 ∧ Sr X.K g4 cs4 H' ∧ Lr X.K g4 env4 σ' ∧ wloop t wb (upN X.K g D) m env4 cs4, fun σ' H' q => ⟨m, Nat.lt_succ_self _, q⟩, lowS.go hb.mo s3 (l2.mono e3) h3 ⟨?_, ?_, ?_, ?_⟩⟩
      · intro env4 cs4 q g4 H4 σ4 e4 s4 l4
        exact ⟨g4, cs4, env4, (e2.trans e3).trans e4, s4, l4, q⟩
      · exact fun _ _ q => upV.mono (e2.trans e3) q
      · exact fun _ _ q => upE.mono (e2.trans e3) q
      · intro env4 cs4 q g4 H4 σ4 e4 s4 l4
        exact ⟨g4, cs4, env4, (e2.trans e3).trans e4, s4, l4, q⟩
    · exact h3 g3 H3 σ2 (e2.trans e3) s3 (l2.mono e3)
end
end DL

/-! DCalls: comprehensions, defs and their contracts, calls. -/
namespace DL
open PySem PySem.Spec L2
open PyProof.Rows (envOfC)
variable [Tbs]

section
variable {X : Cx} {a b c : Expr} {wa wb wc : WE} {pos : Pos}
/-! ### comprehensions -/
structure DTs (X : Cx) (ifs : List Expr) (w : WT) : Prop where
  pe : PTs X ifs (lowT X.K w)
  mo : MonoT w
def wYes : WT := fun _ cs Q => Q true cs
theorem dts_nil : DTs X [] wYes := ⟨⟨fun pins s σ H Q I ⟨g, cs, env, sr, l, h⟩ => pts_nil.run pins s σ H Q I (h g H (Ext.refl g) sr)⟩, fun _ _ _ _ h q => h _ _ q⟩
theorem dts_one {t : WT} (h : DT X c t) : DTs X [c] t := ⟨pts_one h.pe, h.mo⟩
def wipeE (env : En) : List Nat → En
  | [] => env
  | v :: vs => (wipeE env vs).set v none
theorem Lr.wiped {K : PySem.W.Frag} {g : G} {env : En} {σ : L2.St} (l : Lr K g env σ) : ∀ vs : List Nat, Lr K g (wipeE env vs) (wipe σ vs)
  | [] => l
  | v :: vs => by
    have h := Lr.wiped l vs
    unfold wipeE L2.wipe
    refine ⟨by simp [h.len], fun i d e => ?_⟩
    by_cases hv : v = i
    · subst hv
      by_cases hl : v < (wipeE env vs).length
      · rw [List.getElem?_set_self hl] at e
        cases e
      · rw [List.getElem?_eq_none (by simpa using hl)] at e
        cases e
    · rw [List.getElem?_set_ne hv] at e
      obtain ⟨u, q1, q2⟩ := h.ok i d e
      exact ⟨u, by rw [List.getElem?_set_ne hv]; exact q1, q2⟩
theorem wipe_wipe (σ : L2.St) : ∀ {us vs : List Nat}, (∀ i ∈ us, i ∈ vs) → wipe (wipe σ us) vs = wipe σ vs
  | [], _, _ => rfl
  | u :: us, vs, h => by
    show wipe ((wipe σ us).set u none) vs = wipe σ vs
    rw [wipe_set _ _ _ (h u (by simp)), wipe_wipe σ (fun i hi => h i (List.mem_cons_of_mem _ hi))]
def lcloop (p : Pat) (tt : WT) (we : WE) (env : En) (W : Sto → Prop) (Q : PD) : List D → List D → Sto → Prop
  | [], acc, cs => W cs ∧ Q (.lst acc) cs
  | d :: ds, acc, cs => W cs ∧ match patSet cs p d env with
    | some env' => tt env' cs fun b cs2 => if b = true then we env' cs2 fun y cs3 => lcloop p tt we env W Q ds (acc ++ [y]) cs3 else lcloop p tt we env W Q ds acc cs2
    | none => False
theorem lcloop.mo {p : Pat} {tt : WT} {we : WE} {env : En} {W : Sto → Prop} {Q Q' : PD} (mt : MonoT tt) (me : MonoE we) (h : ∀ d cs, Q d cs → Q' d cs) : ∀ (ds acc : List D) (cs : Sto), lcloop p tt we env W Q ds acc cs → lcloop p tt we env W Q' ds acc cs
  | [], acc, cs, q => ⟨q.1, h _ _ q.2⟩
  | d :: ds, acc, cs, q => by
    unfold lcloop at q ⊢
    obtain ⟨q0, q⟩ := q
    refine ⟨q0, ?_⟩
    split at q
    · exact mt _ _ _ _ (fun b cs2 q => ite_mono (fun q => me _ _ _ _ (fun y cs3 q => lcloop.mo mt me h ds _ cs3 q) q) (fun q => lcloop.mo mt me h ds _ cs2 q) q) q
    · exact q
def wLc (wi : WI) (p : Pat) (tt : WT) (we : WE) (vs : List Nat) : WE := fun env cs Q => wi env cs fun ds W cs1 => ds.length ≤ sizeLine ∧ lcloop p tt we (wipeE env vs) W Q ds [] cs1
theorem wLc.mo {wi : WI} {p : Pat} {tt : WT} {we : WE} {vs : List Nat} (mi : MonoI wi) (mt : MonoT tt) (me : MonoE we) : MonoE (wLc wi p tt we vs) := fun env cs Q Q' h q =>
  mi env cs _ _ (fun ds W cs1 ⟨z, q⟩ => ⟨z, lcloop.mo mt me h ds [] cs1 q⟩) q
theorem low_lc {K : PySem.W.Frag} {wi : WI} {p : Pat} {tt : WT} {we : WE} {vs : List Nat} (mi : MonoI wi) (mt : MonoT tt) (me : MonoE we) (hsl : ∀ i ∈ slots p, i ∈ vs) {σ : L2.St} {H : Hp} {Q : VK}
    (h : lowE K (wLc wi p tt we vs) σ H Q) : tLc (lowI K wi) (gOf K p) (lowT K tt) (lowE K we) vs σ H Q := by
  obtain ⟨g, cs, env, s, l, h⟩ := h
  refine lowI.go mi s l h fun ds W cs1 g1 H1 J ⟨hz, h1⟩ e1 s1 hJ => ?_
  intro Dd hD
  refine ⟨fun i m H => m = ds.length - i ∧ i ≤ ds.length ∧ ∃ g2 cs2 acc vacc, Sub g1 g2 ∧ g2.rs = (Dd, .lst vacc) :: g1.rs ∧ Sr K g2 cs2 H ∧ RepL K g2 acc vacc ∧ acc.length ≤ i ∧ lcloop p tt we (wipeE env vs) W (upV K g Q) (ds.drop i) acc cs2,
    ⟨ds.length, by simp, Nat.zero_le _, g1.hold Dd (.lst []), cs1, [], [], ⟨fun _ _ h => h, ⟨[], by simp [G.hold]⟩⟩, rfl, s1.hold hD _, rfl, Nat.le_refl _, by simpa using h1⟩, ?_⟩
  rintro i m H2 ⟨rfl, hi', g2, cs2, acc, vacc, sb, er, s2, ra, hla, hf⟩
  by_cases hlt : i < ds.length
  · rw [List.drop_eq_getElem_cons hlt] at hf
    unfold lcloop at hf
    obtain ⟨hw, hf⟩ := hf
    obtain ⟨stop, go⟩ := hJ g2 cs2 H2 sb s2 hw
    obtain ⟨hgo, hy⟩ := go i ds[i] (by simp [hlt])
    refine .inr ⟨hgo, fun H' => ∃ g3 cs3 acc3 vacc3, Sub g1 g3 ∧ g3.rs = (Dd, .lst vacc3) :: g1.rs ∧ Sr K g3 cs3 H' ∧ RepL K g3 acc3 vacc3 ∧ acc3.length ≤ i + 1 ∧ lcloop p tt we (wipeE env vs) W (upV K g Q) (ds.drop (i + 1)) acc3 cs3,
      fun H' ⟨g3, cs3, acc3, vacc3, q⟩ => ⟨ds.length - (i + 1), by omega, rfl, hlt, g3, cs3, acc3, vacc3, q⟩, fun x H' y => ?_⟩
    obtain ⟨g3, e3, s3, r3⟩ := hy x H' y
    split at hf
    · rename_i env' hp'
      have lw : Lr K g3 (wipeE env vs) (wipe σ vs) := ⟨((l.mono e1).wiped vs).len, fun i d h => by
        obtain ⟨v, q1, q2⟩ := ((l.mono e1).wiped vs).ok i d h
        exact ⟨v, q1, Rep.sub e3.sub _ _ (Rep.sub sb _ _ q2)⟩⟩
      refine gOf_ok s3 p _ x (wipeE env vs) env' (wipe σ vs) _ r3 lw hp' fun σ' l' hwp => ⟨(hwp vs hsl).trans (wipe_wipe σ (fun i h => h)), ?_⟩
      refine lowT.go mt s3 l' hf fun b cs4 g4 H4 h4 e4 s4 => ?_
      have sb4 : Sub g1 g4 := ⟨fun a o h => e4.z _ _ (e3.z _ _ (sb.z a o h)), by
        obtain ⟨t, q⟩ := sb.a
        obtain ⟨t3, q3⟩ := e3.a
        obtain ⟨t4, q4⟩ := e4.a
        exact ⟨t ++ (t3 ++ t4), by rw [q4, q3, q]; simp⟩⟩
      have er4 : g4.rs = (Dd, .lst vacc) :: g1.rs := by rw [e4.r, e3.r, er]
      refine ite_mono (fun h4 => ?_) (fun h4 => ?_) h4
      · refine lowE.go me s4 (l'.mono e4) h4 fun y' cs5 g5 H5 v5 h5 e5 s5 r5 => ?_
        have er5 : g5.rs = (Dd, .lst vacc) :: g1.rs := by rw [e5.r, er4]
        obtain ⟨q1, q2, q3⟩ := s5.rs (Dd, .lst vacc) (by rw [er5]; exact List.mem_cons_self)
        have ra5 : RepL K g5 acc vacc := ((ra.mono e3).mono e4).mono e5
        have l5 : vacc.length = acc.length := ra.length.symm
        have sb5 : Sub g5 { g5 with rs := (Dd, .lst (vacc ++ [v5])) :: g1.rs } := ⟨fun _ _ h => h, ⟨[], by simp⟩⟩
        refine ⟨vacc, q1, by omega, { g5 with rs := (Dd, .lst (vacc ++ [v5])) :: g1.rs }, cs5, acc ++ [y'], vacc ++ [v5], ⟨fun a o h => e5.z _ _ (sb4.z a o h), ?_⟩, rfl, s5.rehold er5, (ra5.append (.cons r5 .nil)).sub' sb5, by simp; omega, h5⟩
        obtain ⟨t, q⟩ := sb4.a
        obtain ⟨t3, q3⟩ := e5.a
        exact ⟨t ++ t3, by show g5.as = _; rw [q3, q]; simp⟩
      · exact ⟨g4, cs4, acc, vacc, sb4, er4, s4, (ra.mono e3).mono e4, by omega, h4⟩
    · exact hf.elim
  · have e : i = ds.length := by omega
    subst e
    rw [List.drop_length] at hf
    obtain ⟨hw, hf⟩ := hf
    obtain ⟨stop, go⟩ := hJ g2 cs2 H2 sb s2 hw
    refine .inl ⟨stop _ (Nat.le_refl _), ?_⟩
    have s3 := s2.unhold er
    have e3 : Ext g1 { g2 with Z := upd g2.Z Dd (.lst vacc), rs := g1.rs } := by
      obtain ⟨q1, q2, q3⟩ := s2.rs (Dd, .lst vacc) (by rw [er]; exact List.mem_cons_self)
      refine ⟨fun a o h => ?_, sb.a, rfl⟩
      show upd g2.Z Dd _ a = some o
      rw [upd_ne (ne_of_none (sb.z a o h) q2)]
      exact sb.z a o h
    have sb3 : Sub g2 { g2 with Z := upd g2.Z Dd (.lst vacc), rs := g1.rs } := by
      obtain ⟨q1, q2, q3⟩ := s2.rs (Dd, .lst vacc) (by rw [er]; exact List.mem_cons_self)
      refine ⟨fun a o h => ?_, ⟨[], by simp⟩⟩
      show upd g2.Z Dd _ a = some o
      rw [upd_ne (ne_of_none h q2)]
      exact h
    exact hf _ H2 _ (e1.trans e3) s3 ⟨Dd, vacc, rfl, upd_same, ra.sub' sb3⟩
theorem de_lc {elt tg iter : Expr} {ifs : List Expr} {scope : Scope} {own : List (Str × Nat)} {wi : WI} {p : Pat} {tt : WT} {we : WE} (hc : X.calm = true) (hN : X.N.Nodup) (hi : DI X tg iter wi) (ok : BlkOk X.N X.env.scope scope own)
    (hg : ∀ (s : Shared) (H : Hp) (C : Addr) (cl : List (Str × Addr)) (fp : List Addr), DG (X.blk s H scope (compEnvC scope cl C X.env) fp) tg p) (ht : ∀ (s : Shared) (H : Hp) (C : Addr) (cl : List (Str × Addr)) (fp : List Addr), DTs (X.blk s H scope (compEnvC scope cl C X.env) fp) ifs tt)
    (he : ∀ (s : Shared) (H : Hp) (C : Addr) (cl : List (Str × Addr)) (fp : List Addr), DE (X.blk s H scope (compEnvC scope cl C X.env) fp) elt we) (hs : ∀ x, foldedSetIterable iter X.env x = pure x := by intro _; rfl) (hsl : ∀ i ∈ slots p, i ∈ own.map (·.2) := by decide) :
    DE X (.ListComp elt [⟨tg, iter, ifs, 0⟩] scope pos) (wLc wi p tt we (own.map (·.2))) := by
  have mt : MonoT tt := (ht {} (fun _ => none) 0 [] []).mo
  have me : MonoE we := (he {} (fun _ => none) 0 [] []).mo
  exact ⟨PE.imp (pe_lc (wi := lowI X.K wi) (g := gOf X.K p) (tt := lowT X.K tt) (te := lowE X.K we) hc hN hi.pe ok (fun s H C cl fp => (hg s H C cl fp).pg) (fun s H C cl fp => (ht s H C cl fp).pe) (fun s H C cl fp => (he s H C cl fp).pe) hs) fun σ H Q h => low_lc hi.mo mt me hsl h, wLc.mo hi.mo mt me⟩
theorem ds_setLc {i : Nat} {y : Str} {py : Pos} {spos : Pos} {elt tg iter : Expr} {ifs : List Expr} {scope : Scope} {own : List (Str × Nat)} {wi : WI} {p : Pat} {tt : WT} {we : WE} (hc : X.calm = true) (hN : X.N.Nodup)
    (hsw : swapsWith (.ListComp elt [⟨tg, iter, ifs, 0⟩] scope pos) (some (.Name y py)) spos.line X.env = pure true) (hi : DI X tg iter wi) (ok : BlkOk X.N X.env.scope scope own)
    (hg : ∀ (s : Shared) (H : Hp) (C : Addr) (cl : List (Str × Addr)) (fp : List Addr), DG (X.blk s H scope (compEnvC scope cl C X.env) fp) tg p) (ht : ∀ (s : Shared) (H : Hp) (C : Addr) (cl : List (Str × Addr)) (fp : List Addr), DTs (X.blk s H scope (compEnvC scope cl C X.env) fp) ifs tt)
    (he : ∀ (s : Shared) (H : Hp) (C : Addr) (cl : List (Str × Addr)) (fp : List Addr), DE (X.blk s H scope (compEnvC scope cl C X.env) fp) elt we) (hy : X.N[i]? = some y := by rfl) (hyl : X.env.scope.names.lookup y = some .local := by rfl) (hs : ∀ x, foldedSetIterable iter X.env x = pure x := by intro _; rfl) (hsl : ∀ i ∈ slots p, i ∈ own.map (·.2) := by decide) :
    DS X (.Assign [.Name y py] (.ListComp elt [⟨tg, iter, ifs, 0⟩] scope pos) spos) (wSet i (wLc wi p tt we (own.map (·.2)))) := by
  have mt : MonoT tt := (ht {} (fun _ => none) 0 [] []).mo
  have me : MonoE we := (he {} (fun _ => none) 0 [] []).mo
  refine ⟨PS.imp (ps_setLc (wi := lowI X.K wi) (g := gOf X.K p) (tt := lowT X.K tt) (te := lowE X.K we) hc hN hy hyl hsw hi.pe ok (fun s H C cl fp => (hg s H C cl fp).pg) (fun s H C cl fp => (ht s H C cl fp).pe) (fun s H C cl fp => (he s H C cl fp).pe) hs) fun D σ H h => ?_, wSet.mo (wLc.mo hi.mo mt me)⟩
  obtain ⟨g, cs, env, s, l, h⟩ := h
  refine low_lc hi.mo mt me hsl ⟨g, cs, env, s, l, wLc.mo hi.mo mt me _ _ _ _ (fun d cs1 q => ?_) h⟩
  exact fun g1 H1 v e1 s1 r1 => q g1 H1 _ e1 s1 ((l.mono e1).set r1)
end

/-! ### defs: room on the stack, and no display under way -/
structure RoomG (k : Nat) (A : Around) : Prop where
  r : Room k A
  gd : A.guards = some []
theorem RoomG.mono {j k : Nat} {A : Around} (h : RoomG k A) (l : j ≤ k) : RoomG j A := ⟨h.r.mono l, h.gd⟩
/-- a def keeps a promise, wherever no display is under way -/
structure FnG (P : Program) (w : World) (K : PySem.W.Frag) (mg : Str → Option Value) (base : Heap) (CX : CXT) (k : Nat) (f : Addr) (fd : FuncData) (ps : List Str) (sp : Sp) : Prop where
  len : ∀ vs H Q E, sp vs H Q E → vs.length = ps.length
  run : ∀ (A : Around) (outer : List PySem.Env) (s : Shared) (H : Hp) (args : Args) (us : List Value) (vs : List V) (Q : VK) (E : XK),
    RoomG k A → Env0 P w K mg base A outer s H → BindsTo s fd args (ps.zip us) → Vals vs us → sp vs H Q E → codeAny (model P w) A (.call (.ref f) args) (CR CX outer P w H s Q E) s
theorem FnG.mono {P : Program} {w : World} {K : PySem.W.Frag} {mg : Str → Option Value} {base : Heap} {CX : CXT} {j k : Nat} {f : Addr} {fd : FuncData} {ps : List Str} {sp : Sp} (F : FnG P w K mg base CX j f fd ps sp) (h : j ≤ k) : FnG P w K mg base CX k f fd ps sp :=
  ⟨F.len, fun A outer s H args us vs Q E hr e0 => F.run A outer s H args us vs Q E (hr.mono h) e0⟩
section
variable {P : Program} {w : World} {K : PySem.W.Frag} {mg : Str → Option Value} {base : Heap} {CX : CXT}
/-- by its body -/
theorem fnG_ex {k : Nat} {f : Addr} {name qual : Str} {params : Arguments} {body : List Stmt} {scope : Scope} {fd : FuncData} {N ps : List Str} {sp : Sp}
    (ex : ∃ (oc : Value) (od : Option Addr) (dV kV doc pm : Value) (an : Option Addr) (cdv ct : Value) (osl : Array (Option Value)), fd = PySem.W.fnOf name qual params body scope dV kV doc pm an cdv ct ∧ K.lookup f = some ⟨oc, od, .func fd, osl⟩ ∧ PySem.W.codeIn K cdv qual = true)
    (S : FnScope N ps scope) (len : ∀ vs H Q E, sp vs H Q E → vs.length = ps.length)
    (hbody : ∀ (cdv : Value) (A : Around) (outer : List PySem.Env) (s : Shared) (H : Hp) (vs : List V) (Q : VK) (E : XK), RoomG k (A.deeper (envOfC qual scope s.heap.objs.size f cdv)) → sp vs H Q E →
      ∃ t, PSs (cxOf CX P w K mg base N qual scope f cdv A outer s H E) body t ∧ t { nx := fun _ H' => Q .non H', rt := Q } (start N vs) H) : FnG P w K mg base CX (k + 1) f fd ps sp := by
  obtain ⟨oc, od, dV, kV, doc, pm, an, cdv, ct, osl, rfl, lk, hcd⟩ := ex
  refine ⟨len, ?_⟩
  intro A outer s H args us vs Q E hr e0 hb r hsp
  have stays : ∀ b o, base.get? b = some o → s.heap.get? b = some o := fun b o e => (e0.bs b o e).1
  have KX : K.In s.heap := e0.mod.kin.keeps stays
  refine codeAny_call_function hr.r.depth (KX _ _ lk) rfl S.co S.gen rfl (PySem.W.codeRec_of KX hcd) (hb _ _ _ _ ?_)
  have kinds : ∀ y ∈ ps.zip us, scope.names.lookup y.1 = some .local ∨ (scope.names.lookup y.1 = some .cell ∧ ((cellsFrom (s.heap.objs.size + 1) scope.names []).lookup y.1).isSome = true) := by
    intro y hy
    cases S.par y.1 (List.of_mem_zip hy).1 with
    | inl q => exact .inl q
    | inr q => exact .inr ⟨q, PySem.W.cellsFrom_some _ _ _ (.inl q)⟩
  refine wpAny_newFunctionEnv_cells S.kind kinds fun env he s1 x => ?_
  subst he
  refine ⟨(e0.mod.nolimit.keeps stays).keeps x.toInCall.keep, codeAny_func ?_⟩
  obtain ⟨t, ht, hq⟩ := hbody cdv A outer s H vs Q E ⟨hr.r.deeper _, hr.gd⟩ hsp
  refine wpAny_mono (ht.run [] s1 (start N vs) H _ (inv_start S hr.r.hd e0 (len _ _ _ _ hsp) r x) hq) ?_ (fun _ _ z => z)
  intro fl s' hs
  cases fl with
  | ret u => obtain ⟨v, σ', H', J, rv, q⟩ := hs; exact ⟨v, H', J.os, J.bare, J.base, J.hok, rv, q⟩
  | next => obtain ⟨σ', H', J, q⟩ := hs; exact ⟨.non, H', J.os, J.bare, J.base, J.hok, rfl, q⟩
  | brk => obtain ⟨_, _, _, q⟩ := hs; exact q.elim
  | cont => obtain ⟨_, _, _, q⟩ := hs; exact q.elim
theorem fnG_of {k : Nat} {f : Addr} {name qual : Str} {st : Stmt} {fd : FuncData} {N ps : List Str} {sp : Sp} (F : Fun K name qual st f fd) (S : FnScope N ps (defScope st)) (len : ∀ vs H Q E, sp vs H Q E → vs.length = ps.length)
    (hbody : ∀ (cdv : Value) (A : Around) (outer : List PySem.Env) (s : Shared) (H : Hp) (vs : List V) (Q : VK) (E : XK), RoomG k (A.deeper (envOfC qual (defScope st) s.heap.objs.size f cdv)) → sp vs H Q E →
      ∃ t, PSs (cxOf CX P w K mg base N qual (defScope st) f cdv A outer s H E) (defBody st) t ∧ t { nx := fun _ H' => Q .non H', rt := Q } (start N vs) H) : FnG P w K mg base CX (k + 1) f fd ps sp := by
  obtain ⟨oc, od, kV, doc, pm, an, cdv, ct, osl, h1, h2, h3⟩ := F.ex
  exact fnG_ex ⟨oc, od, .none, kV, doc, pm, an, cdv, ct, osl, h1, h2, h3⟩ S len hbody
variable {X : Cx}
/-- a call of it, however its arguments are bound -/
theorem run_G {k : Nat} {f : Addr} {fd : FuncData} {ps : List Str} {sp : Sp} {E : XK} {pins : List (Addr × Obj)} {σ : L2.St} {H : Hp} {s : Shared} {Q : VK} {us ws : List Value} {kw : List (Str × Value)} {vs : List V}
    (F : FnG X.prog X.w X.K X.mg X.base CX k f fd ps sp) (hr : RoomG k X.A) (hb : BindsTo s fd ⟨us, kw⟩ (ps.zip ws)) (hx : Passes CX X E) (I : Inv X pins σ H s) (r : Vals vs ws) (h : sp vs H Q E) : wpAny (model X.prog X.w) X.A (call (.ref f) us kw) (EP X pins σ Q) X.xe s := by
  refine wpAny_call (codeAny_mono (F.run X.A X.stack s H ⟨us, kw⟩ ws vs Q E hr I.env0 hb r h) ?_)
  intro res s' hq
  cases res with
  | error e => exact hx pins σ H s e s' I hq
  | ok fl =>
    cases fl with
    | ret u => exact I.after hq
    | next => exact hq.elim
    | brk => exact hq.elim
    | cont => exact hq.elim
theorem peG_call {k : Nat} {f : Addr} {fd : FuncData} {ps : List Str} {sp : Sp} {E : XK} {x : Str} {p pos : Pos} {e : Expr} {es : List Expr} {t : TA} (F : FnG X.prog X.w X.K X.mg X.base CX k f fd ps sp) (hr : RoomG k X.A) (hg : Gl X x) (hm : X.mg x = some (.ref f)) (hk : PySem.W.keepIn X.K (.ref f) = true) (hb : Binds X.K fd ps []) (hx : Passes CX X E)
    (ha : PA X (e :: es) t) (hdb : (x == ("__debug__" : Str)) = false := by decide) (he : starEach (e :: es) X.env = (false, eval e X.env) :: starEach es X.env := by rfl) (hpl : (backTo pos (starEach es X.env)).any (·.1) = false := by rfl) :
    PE X (.Call (.Name x p) (e :: es) [] pos) (tCall sp [] E t) := by
  refine ⟨fun pins s σ H Q I h => ?_⟩
  refine wpAny_Call_Name_kw (ld_glob I hg hm (PySem.W.callWith_K (h₀ := X.base) I.ok.mod.kin hk (thn (ha.run pos pins s σ H _ I h) fun us s1 ⟨vs, H1, I1, r, q⟩ => ⟨I1.kIn, ?_⟩) he hpl) hdb)
  have q' : sp vs H1 Q E := by simpa using q
  have hl : us.length = ps.length := r.length.symm.trans (F.len _ _ _ _ q')
  have hb' := hb s1 us I1.kIn (by simpa using hl)
  rw [List.append_nil] at hb'
  exact run_G F hr hb' hx I1 r q'
theorem peG_call0 {k : Nat} {f : Addr} {fd : FuncData} {ps : List Str} {sp : Sp} {E : XK} {x : Str} {p pos : Pos} (F : FnG X.prog X.w X.K X.mg X.base CX k f fd ps sp) (hr : RoomG k X.A) (hg : Gl X x) (hm : X.mg x = some (.ref f)) (hk : PySem.W.keepIn X.K (.ref f) = true) (hb : Binds X.K fd ps []) (hx : Passes CX X E)
    (hdb : (x == ("__debug__" : Str)) = false := by decide) : PE X (.Call (.Name x p) [] [] pos) (tCall sp [] E tNil) := by
  refine ⟨fun pins s σ H Q I h => ?_⟩
  refine wpAny_Call_Name_kw (ld_glob I hg hm (PySem.W.callWith_K0 I.kIn hk ?_) hdb)
  have q' : sp [] H Q E := h
  have hl : ([] : List Value).length = ps.length := F.len _ _ _ _ q'
  have hb' := hb s [] I.kIn (by simpa using hl)
  exact run_G F hr hb' hx I .nil q'
/-- how keywords bind: all values, positional ones first, taken in the order perm -/
def gP {α : Type} (perm : List Nat) (l : List α) : List α := perm.filterMap fun i => l[i]?
theorem gP_rel {vs : List V} {us : List Value} (r : Vals vs us) : ∀ perm : List Nat, Vals (gP perm vs) (gP perm us)
  | [] => .nil
  | i :: perm => by
    unfold gP
    rw [List.filterMap_cons, List.filterMap_cons]
    cases e : vs[i]? with
    | none =>
      rw [r.none_of e]
      exact gP_rel r perm
    | some v =>
      obtain ⟨u, h1, h2⟩ := r.get e
      rw [h1]
      exact .cons h2 (gP_rel r perm)
theorem gP_repl {g : G} {ds : List D} {vs : List V} (r : RepL K g ds vs) : ∀ perm : List Nat, RepL K g (gP perm ds) (gP perm vs)
  | [] => .nil
  | i :: perm => by
    unfold gP
    rw [List.filterMap_cons, List.filterMap_cons]
    cases e : ds[i]? with
    | none =>
      have h2 : vs[i]? = none := by
        rw [List.getElem?_eq_none_iff] at e ⊢
        rw [← r.length]
        exact e
      rw [h2]
      exact gP_repl r perm
    | some d =>
      obtain ⟨v, h1, h2⟩ := r.get e
      rw [h1]
      exact .cons h2 (gP_repl r perm)
/-- a call with n values and the keywords ks -/
def KwB (K : PySem.W.Frag) (fd : FuncData) (ps : List Str) (n : Nat) (ks : List Str) (perm : List Nat) : Prop :=
  ∀ (s : Shared) (us ws : List Value), K.In s.heap → us.length = n → ws.length = ks.length → BindsTo s fd ⟨us, ks.zip ws⟩ (ps.zip (gP perm (us ++ ws)))
theorem Fun.kwb {x qual : Str} {st : Stmt} {f : Addr} {fd : FuncData} {ps : List Str} (F : Fun K x qual st f fd) (n : Nat) (ks : List Str) (perm : List Nat)
    (h : ∀ (kV doc pm : Value) (an : Option Addr) (cdv ct : Value) (us ws : List Value), us.length = n → ws.length = ks.length → bindArgs (PySem.W.fnOf x qual (defArgs st) (defBody st) (defScope st) .none kV doc pm an cdv ct) ⟨us, ks.zip ws⟩ = pure (ps.zip (gP perm (us ++ ws)))) : KwB K fd ps n ks perm := by
  obtain ⟨oc, od, kV, doc, pm, an, cdv, ct, osl, rfl, lk, hcd⟩ := F.ex
  exact fun s us ws _ h1 h2 => .of_eq (h kV doc pm an cdv ct us ws h1 h2)
def tCallG (n m : Nat) (perm : List Nat) (sp : Sp) (E : XK) (t tk : TA) : TE := fun σ H Q => t σ H fun vs H1 => tk σ H1 fun zs H2 => vs.length = n ∧ zs.length = m ∧ sp (gP perm (vs ++ zs)) H2 Q E
theorem peG_callK {k n : Nat} {perm : List Nat} {f : Addr} {fd : FuncData} {ps ks : List Str} {sp : Sp} {E : XK} {x : Str} {p pos : Pos} {e : Expr} {es : List Expr} {kws : List Keyword} {t tk : TA} (F : FnG X.prog X.w X.K X.mg X.base CX k f fd ps sp) (hr : RoomG k X.A) (hg : Gl X x) (hm : X.mg x = some (.ref f)) (hk : PySem.W.keepIn X.K (.ref f) = true) (hb : KwB X.K fd ps n ks perm) (hx : Passes CX X E)
    (ha : PA X (e :: es) t) (hkw : PK X kws tk) (hall : (backToKw pos (keywordEach kws X.env)).all (·.1.isSome) = true := by rfl) (hks : (backToKw pos (keywordEach kws X.env)).filterMap (·.1) = ks := by rfl)
    (hdb : (x == ("__debug__" : Str)) = false := by decide) (he : starEach (e :: es) X.env = (false, eval e X.env) :: starEach es X.env := by rfl)
    (hpl : ((backTo pos (starEach (e :: es) X.env)).any (·.1) || (backToKw pos (keywordEach kws X.env)).any (·.1.isNone)) = false := by rfl) :
    PE X (.Call (.Name x p) (e :: es) kws pos) (tCallG n ks.length perm sp E t tk) := by
  refine ⟨fun pins s σ H Q I h => wpAny_Call_Name_kw (ld_glob I hg hm ?_ hdb)⟩
  refine PySem.W.callWith_KW (h₀ := X.base) I.ok.mod.kin hk hall (thn (ha.run pos pins s σ H _ I h) fun us s1 ⟨vs, H1, I1, r, q⟩ => thn (hkw.run pos pins s1 σ H1 _ I1 q) fun ws s2 ⟨zs, H2, I2, rz, l1, l2, q2⟩ => ⟨I2.kIn, ?_⟩) hpl he
  rw [hks]
  exact run_G F hr (hb s2 us ws I2.kIn (r.length.symm.trans l1) (rz.length.symm.trans l2)) hx I2 (gP_rel (r.append rz) perm) q2
theorem peG_callK0 {k : Nat} {perm : List Nat} {f : Addr} {fd : FuncData} {ps ks : List Str} {sp : Sp} {E : XK} {x : Str} {p pos : Pos} {kws : List Keyword} {tk : TA} (F : FnG X.prog X.w X.K X.mg X.base CX k f fd ps sp) (hr : RoomG k X.A) (hg : Gl X x) (hm : X.mg x = some (.ref f)) (hk : PySem.W.keepIn X.K (.ref f) = true) (hb : KwB X.K fd ps 0 ks perm) (hx : Passes CX X E)
    (hkw : PK X kws tk) (hall : (backToKw pos (keywordEach kws X.env)).all (·.1.isSome) = true := by rfl) (hks : (backToKw pos (keywordEach kws X.env)).filterMap (·.1) = ks := by rfl)
    (hdb : (x == ("__debug__" : Str)) = false := by decide)
    (hpl : ((backTo pos (starEach [] X.env)).any (·.1) || (backToKw pos (keywordEach kws X.env)).any (·.1.isNone)) = false := by rfl) :
    PE X (.Call (.Name x p) [] kws pos) (tCallG 0 ks.length perm sp E tNil tk) := by
  refine ⟨fun pins s σ H Q I h => wpAny_Call_Name_kw (ld_glob I hg hm ?_ hdb)⟩
  refine PySem.W.callWith_KW0 (h₀ := X.base) I.ok.mod.kin hk hall (thn (hkw.run pos pins s σ H _ I h) fun ws s2 ⟨zs, H2, I2, rz, l1, l2, q2⟩ => ⟨I2.kIn, ?_⟩) hpl
  rw [hks]
  exact run_G F hr (hb s2 [] ws I2.kIn rfl (rz.length.symm.trans l2)) hx I2 (gP_rel rz perm) q2
end

/-! ### contracts over data -/
/-- an error: its class, its fields -/
structure XD where
  C : Addr
  fs : List (Str × D)
/-- what a def is worth: for each case i its arguments, what must hold ahead, what may come back -/
structure FSpec where
  ι : Type
  args : ι → List D
  pre : ι → Sto → Prop
  res : ι → Sto → D → Sto → Prop
  exc : ι → Sto → XD → Sto → Prop := fun _ _ _ _ => False
def upX (K : PySem.W.Frag) (g : G) (E : XK) : XD → Sto → Prop := fun x cs => ∀ g' H d ws, Ext g g' → Sr K g' cs H → g'.Z d = some (.xd ws) → RepF K g' x.fs ws → E (.ref x.C) (some d) H
def dSp (K : PySem.W.Frag) (s : FSpec) : Sp := fun vs H Q E => ∃ g cs i, Sr K g cs H ∧ RepL K g (s.args i) vs ∧ s.pre i cs ∧ (∀ d cs', s.res i cs d cs' → upV K g Q d cs') ∧ ∀ x cs', s.exc i cs x cs' → upX K g E x cs'
/-- a def that never raises -/
structure Calm (s : FSpec) : Prop where
  no : ∀ i cs x cs', ¬ s.exc i cs x cs'
def startE (n : Nat) (ds : List D) : En := ds.map some ++ List.replicate (n - ds.length) none
theorem Lr.start {K : PySem.W.Frag} {g : G} {N : List Str} {ds : List D} {vs : List V} (r : RepL K g ds vs) : Lr K g (startE N.length ds) (start N vs) := by
  have hl := r.length
  refine ⟨by simp [startE, L2.start, hl], fun i d h => ?_⟩
  unfold startE at h
  unfold L2.start
  by_cases hi : i < ds.length
  · rw [List.getElem?_append_left (by simpa using hi), List.getElem?_map] at h
    cases e : ds[i]? with
    | none => rw [e] at h; cases h
    | some d' =>
      rw [e] at h
      cases h
      obtain ⟨v, h1, h2⟩ := r.get e
      exact ⟨v, by rw [List.getElem?_append_left (by simpa [← hl] using hi), List.getElem?_map, h1]; rfl, h2⟩
  · rw [List.getElem?_append_right (by simpa using hi), List.getElem?_replicate] at h
    split at h <;> cases h
section
variable {P : Program} {w : World} {K : PySem.W.Frag} {mg : Str → Option Value} {base : Heap}
theorem dfun_ex {k : Nat} {f : Addr} {name qual : Str} {params : Arguments} {body : List Stmt} {scope : Scope} {fd : FuncData} {N ps : List Str} {sp : FSpec}
    (ex : ∃ (oc : Value) (od : Option Addr) (dV kV doc pm : Value) (an : Option Addr) (cdv ct : Value) (osl : Array (Option Value)), fd = PySem.W.fnOf name qual params body scope dV kV doc pm an cdv ct ∧ K.lookup f = some ⟨oc, od, .func fd, osl⟩ ∧ PySem.W.codeIn K cdv qual = true)
    (S : FnScope N ps scope) (len : ∀ i, (sp.args i).length = ps.length)
    (h : ∀ (cdv : Value) (A : Around) (outer : List PySem.Env) (s : Shared) (H : Hp) (E : XK), RoomG k (A.deeper (envOfC qual scope s.heap.objs.size f cdv)) → ∃ wS, DSs (cxOf CX0 P w K mg base N qual scope f cdv A outer s H E).nox body wS ∧
      ∀ i cs, sp.pre i cs → wS { nx := fun _ cs' => sp.res i cs .non cs', rt := fun d cs' => sp.res i cs d cs' } (startE N.length (sp.args i)) cs) : FnG P w K mg base CX0 (k + 1) f fd ps (dSp K sp) := by
  refine fnG_ex ex S (fun vs H Q E ⟨g, cs, i, _, r, _⟩ => r.length.symm.trans (len i)) fun cdv A outer s H vs Q E hr ⟨g, cs, i, sr, r, hp, hq, _⟩ => ?_
  obtain ⟨wS, hd, hw⟩ := h cdv A outer s H E hr
  refine ⟨_, hd.pe.nox, g, cs, startE N.length (sp.args i), sr, Lr.start r, hd.mo { nx := fun _ cs' => sp.res i cs .non cs', rt := fun d cs' => sp.res i cs d cs' } _ _ _ ⟨fun env cs' q g' H' σ e s' l => ?_, fun d cs' q => hq d cs' q, fun _ _ z => (show False from z).elim, fun _ _ z => (show False from z).elim⟩ (hw i cs hp)⟩
  exact hq .non cs' q g' H' .non e s' rfl
/-- the contract of a def by its body over data -/
theorem dfun {k : Nat} {f : Addr} {name qual : Str} {st : Stmt} {fd : FuncData} {N ps : List Str} {sp : FSpec} (F : Fun K name qual st f fd) (S : FnScope N ps (defScope st)) (len : ∀ i, (sp.args i).length = ps.length)
    (h : ∀ (cdv : Value) (A : Around) (outer : List PySem.Env) (s : Shared) (H : Hp) (E : XK), RoomG k (A.deeper (envOfC qual (defScope st) s.heap.objs.size f cdv)) → ∃ wS, DSs (cxOf CX0 P w K mg base N qual (defScope st) f cdv A outer s H E).nox (defBody st) wS ∧
      ∀ i cs, sp.pre i cs → wS { nx := fun _ cs' => sp.res i cs .non cs', rt := fun d cs' => sp.res i cs d cs' } (startE N.length (sp.args i)) cs) : FnG P w K mg base CX0 (k + 1) f fd ps (dSp K sp) := by
  obtain ⟨oc, od, kV, doc, pm, an, cdv, ct, osl, h1, h2, h3⟩ := F.ex
  exact dfun_ex ⟨oc, od, .none, kV, doc, pm, an, cdv, ct, osl, h1, h2, h3⟩ S len h
end
section
variable {X : Cx} {a : Expr} {pos : Pos}
def wCall (s : FSpec) (wa : WA) : WE := fun env cs Q => wa env cs fun ds cs1 => ∃ i, ds = s.args i ∧ s.pre i cs1 ∧ ∀ d cs', s.res i cs1 d cs' → Q d cs'
theorem wCall.mo {s : FSpec} {wa : WA} (h : MonoA wa) : MonoE (wCall s wa) := fun env cs Q Q' hq q => h env cs _ _ (fun ds cs1 ⟨i, e, p, q⟩ => ⟨i, e, p, fun d cs' z => hq _ _ (q d cs' z)⟩) q
theorem low_spec {K : PySem.W.Frag} {s : FSpec} (c : Calm s) {g g1 : G} {cs1 : Sto} {H1 : Hp} {vs : List V} {Q : VK} {i : s.ι} (e1 : Ext g g1) (s1 : Sr K g1 cs1 H1) (r1 : RepL K g1 (s.args i) vs) (hp : s.pre i cs1) (q : ∀ d cs', s.res i cs1 d cs' → upV K g Q d cs') : dSp K s vs H1 Q E0 :=
  ⟨g1, cs1, i, s1, r1, hp, fun d cs' z => upV.mono e1 (q d cs' z), fun x cs' z => (c.no _ _ _ _ z).elim⟩
theorem de_call {k : Nat} {f : Addr} {fd : FuncData} {ps : List Str} {s : FSpec} {x : Str} {p : Pos} {e : Expr} {es : List Expr} {wa : WA} (c : Calm s) (F : FnG X.prog X.w X.K X.mg X.base CX0 k f fd ps (dSp X.K s)) (hr : RoomG k X.A) (hm : X.mg x = some (.ref f)) (hk : PySem.W.keepIn X.K (.ref f) = true) (hb : Binds X.K fd ps []) (ha : DA X (e :: es) wa)
    (hg : Gl X x := by rfl) (hdb : (x == ("__debug__" : Str)) = false := by decide) (he : starEach (e :: es) X.env = (false, eval e X.env) :: starEach es X.env := by rfl) (hpl : (backTo pos (starEach es X.env)).any (·.1) = false := by rfl) : DE X (.Call (.Name x p) (e :: es) [] pos) (wCall s wa) :=
  ⟨PE.imp (peG_call F hr hg hm hk hb pass0 ha.pe hdb he hpl) fun σ H Q ⟨g, cs, env, sr, l, h⟩ => lowA.go ha.mo sr l h fun ds cs1 g1 H1 vs ⟨i, e2, hp, q⟩ e1 s1 r1 => by
    subst e2
    show dSp X.K s (vs ++ []) H1 Q E0
    rw [List.append_nil]
    exact low_spec c e1 s1 r1 hp q, wCall.mo ha.mo⟩
def wCall0 (s : FSpec) : WE := fun env cs Q => ∃ i, s.args i = [] ∧ s.pre i cs ∧ ∀ d cs', s.res i cs d cs' → Q d cs'
theorem de_call0 {k : Nat} {f : Addr} {fd : FuncData} {ps : List Str} {s : FSpec} {x : Str} {p : Pos} (c : Calm s) (F : FnG X.prog X.w X.K X.mg X.base CX0 k f fd ps (dSp X.K s)) (hr : RoomG k X.A) (hm : X.mg x = some (.ref f)) (hk : PySem.W.keepIn X.K (.ref f) = true) (hb : Binds X.K fd ps []) (hg : Gl X x := by rfl) (hdb : (x == ("__debug__" : Str)) = false := by decide) : DE X (.Call (.Name x p) [] [] pos) (wCall0 s) :=
  ⟨PE.imp (peG_call0 F hr hg hm hk hb pass0 hdb) fun σ H Q ⟨g, cs, env, sr, l, i, e2, hp, q⟩ => by
    show dSp X.K s ([] ++ []) H Q E0
    exact low_spec c (Ext.refl g) sr (by rw [e2]; exact .nil) hp q, fun env cs Q Q' hq ⟨i, e, p, q⟩ => ⟨i, e, p, fun d cs' z => hq _ _ (q d cs' z)⟩⟩
/-- keywords -/
structure DK (X : Cx) (kws : List Keyword) (w : WA) : Prop where
  pe : PK X kws (lowA X.K w)
  mo : MonoA w
theorem dk_nil : DK X [] wNil := ⟨⟨fun pos pins s σ H Q I ⟨g, cs, env, sr, l, h⟩ => pk_nil.run pos pins s σ H Q I (h g H [] (Ext.refl g) sr rfl)⟩, fun _ cs _ _ h q => h _ _ q⟩
theorem dk_cons {nm : Option Str} {kpos : Pos} {kws : List Keyword} {wa : WE} {wr : WA} (ha : DE X a wa) (hr : DK X kws wr) : DK X (⟨nm, a, kpos⟩ :: kws) (wCons wa wr) :=
  ⟨⟨fun pos pins s σ H Q I ⟨g, cs, env, sr, l, h⟩ => (pk_cons ha.pe hr.pe).run pos pins s σ H Q I (lowE.go ha.mo sr l h fun d1 cs1 g1 H1 v1 h1 e1 s1 r1 => lowA.go hr.mo s1 (l.mono e1) h1 fun ds cs2 g2 H2 vs h2 e2 s2 r2 => h2 g2 H2 _ (e1.trans e2) s2 (.cons (r1.mono e2) r2))⟩,
    fun env cs Q Q' h q => ha.mo env cs _ _ (fun d1 cs1 q1 => hr.mo env cs1 _ _ (fun _ _ q2 => h _ _ q2) q1) q⟩
def wCallK (s : FSpec) (n m : Nat) (perm : List Nat) (wa wk : WA) : WE := fun env cs Q => wa env cs fun ds cs1 => wk env cs1 fun es cs2 => ds.length = n ∧ es.length = m ∧ ∃ i, gP perm (ds ++ es) = s.args i ∧ s.pre i cs2 ∧ ∀ d cs', s.res i cs2 d cs' → Q d cs'
theorem wCallK.mo {s : FSpec} {n m : Nat} {perm : List Nat} {wa wk : WA} (h : MonoA wa) (h2 : MonoA wk) : MonoE (wCallK s n m perm wa wk) := fun env cs Q Q' hq q =>
  h env cs _ _ (fun ds cs1 q => h2 env cs1 _ _ (fun es cs2 ⟨l1, l2, i, e, p, q⟩ => ⟨l1, l2, i, e, p, fun d cs' z => hq _ _ (q d cs' z)⟩) q) q
theorem low_callK {s : FSpec} (c : Calm s) {n m : Nat} {perm : List Nat} {wa wk : WA} {ta tk : TA} {K : PySem.W.Frag} (ma : MonoA wa) (mk : MonoA wk) {σ : L2.St} {H : Hp} {Q : VK} (h : lowE K (wCallK s n m perm wa wk) σ H Q) : tCallG n m perm (dSp K s) E0 (lowA K wa) (lowA K wk) σ H Q := by
  obtain ⟨g, cs, env, sr, l, h⟩ := h
  refine lowA.go ma sr l h fun ds cs1 g1 H1 vs h1 e1 s1 r1 => lowA.go mk s1 (l.mono e1) h1 fun es cs2 g2 H2 zs ⟨l1, l2, i, e, hp, q⟩ e2 s2 r2 => ⟨by rw [← r1.length]; exact l1, by rw [← r2.length]; exact l2, ?_⟩
  have r3 := gP_repl ((r1.mono e2).append r2) perm
  rw [e] at r3
  exact low_spec c (e1.trans e2) s2 r3 hp q
theorem de_callK {k n : Nat} {perm : List Nat} {f : Addr} {fd : FuncData} {ps ks : List Str} {s : FSpec} {x : Str} {p : Pos} {e : Expr} {es : List Expr} {kws : List Keyword} {wa wk : WA} (c : Calm s) (F : FnG X.prog X.w X.K X.mg X.base CX0 k f fd ps (dSp X.K s)) (hr : RoomG k X.A) (hm : X.mg x = some (.ref f)) (hk : PySem.W.keepIn X.K (.ref f) = true) (hb : KwB X.K fd ps n ks perm)
    (ha : DA X (e :: es) wa) (hkw : DK X kws wk) (hg : Gl X x := by rfl) (hall : (backToKw pos (keywordEach kws X.env)).all (·.1.isSome) = true := by rfl) (hks : (backToKw pos (keywordEach kws X.env)).filterMap (·.1) = ks := by rfl)
    (hdb : (x == ("__debug__" : Str)) = false := by decide) (he : starEach (e :: es) X.env = (false, eval e X.env) :: starEach es X.env := by rfl)
    (hpl : ((backTo pos (starEach (e :: es) X.env)).any (·.1) || (backToKw pos (keywordEach kws X.env)).any (·.1.isNone)) = false := by rfl) : DE X (.Call (.Name x p) (e :: es) kws pos) (wCallK s n ks.length perm wa wk) :=
  ⟨PE.imp (peG_callK F hr hg hm hk hb pass0 ha.pe hkw.pe hall hks hdb he hpl) fun σ H Q h => low_callK (ta := lowA X.K wa) (tk := lowA X.K wk) c ha.mo hkw.mo h, wCallK.mo ha.mo hkw.mo⟩
theorem de_callK0 {k : Nat} {perm : List Nat} {f : Addr} {fd : FuncData} {ps ks : List Str} {s : FSpec} {x : Str} {p : Pos} {kws : List Keyword} {wk : WA} (c : Calm s) (F : FnG X.prog X.w X.K X.mg X.base CX0 k f fd ps (dSp X.K s)) (hr : RoomG k X.A) (hm : X.mg x = some (.ref f)) (hk : PySem.W.keepIn X.K (.ref f) = true) (hb : KwB X.K fd ps 0 ks perm)
    (hkw : DK X kws wk) (hg : Gl X x := by rfl) (hall : (backToKw pos (keywordEach kws X.env)).all (·.1.isSome) = true := by rfl) (hks : (backToKw pos (keywordEach kws X.env)).filterMap (·.1) = ks := by rfl)
    (hdb : (x == ("__debug__" : Str)) = false := by decide)
    (hpl : ((backTo pos (starEach [] X.env)).any (·.1) || (backToKw pos (keywordEach kws X.env)).any (·.1.isNone)) = false := by rfl) : DE X (.Call (.Name x p) [] kws pos) (wCallK s 0 ks.length perm wNil wk) := by
  refine ⟨PE.imp (peG_callK0 F hr hg hm hk hb pass0 hkw.pe hall hks hdb hpl) fun σ H Q h => ?_, wCallK.mo (fun _ cs _ _ h q => h _ _ q) hkw.mo⟩
  obtain ⟨g, cs, env, sr, l, h⟩ := h
  show lowA X.K wk σ H fun zs H2 => ([] : List V).length = 0 ∧ zs.length = ks.length ∧ dSp X.K s (gP perm ([] ++ zs)) H2 Q E0
  refine lowA.go hkw.mo sr l h fun es cs2 g2 H2 zs ⟨l1, l2, i, e, hp, q⟩ e2 s2 r2 => ⟨rfl, by rw [← r2.length]; exact l2, ?_⟩
  have r3 := gP_repl r2 perm
  rw [show es = [] ++ es from rfl, e] at r3
  exact low_spec c e2 s2 r3 hp q
end
end DL

/-! DOps: operators, built-ins, subscripts, methods, over data. -/
namespace DL
open PySem PySem.Spec L2
open PyProof.Rows (b2i)
variable [Tbs]

section
variable {X : Cx} {a b c : Expr} {wa wb wc : WE} {pos : Pos}
/-- an operator's rule over data, from rules by values -/
theorem OpD.mk' {f : Value → Value → Sem Value} {o : O2} (mo : ∀ d1 d2 cs Q Q', (∀ d cs, Q d cs → Q' d cs) → o d1 d2 cs Q → o d1 d2 cs Q')
    (h : ∀ (pins : List (Addr × Obj)) (s : Shared) (σ : L2.St) (H : Hp) (x y : V) (v u : Value) (Q : VK) (g : G) (cs : Sto) (d1 d2 : D), Inv X pins σ H s → RelV x v → RelV y u → Sr X.K g cs H → Rep X.K g d1 x → Rep X.K g d2 y → o d1 d2 cs (upV X.K g Q) →
      wpAny (model X.prog X.w) X.A (f v u) (EP X pins σ Q) X.xe s) : OpD X f o :=
  ⟨fun pins s σ H x y v u Q I rx ry ⟨g, cs, d1, d2, sr, r1, r2, q⟩ => h pins s σ H x y v u Q g cs d1 d2 I rx ry sr r1 r2 q, mo⟩
/-! ### ints -/
def oI (C : Int → Int → Prop) (f : Int → Int → D) : O2 := fun d1 d2 cs Q => match d1, d2 with
  | .int i, .int j => C i j ∧ Q (f i j) cs
  | _, _ => False
theorem oI.mo {C : Int → Int → Prop} {f : Int → Int → D} : ∀ d1 d2 cs Q Q', (∀ d cs, Q d cs → Q' d cs) → oI C f d1 d2 cs Q → oI C f d1 d2 cs Q' := by
  intro d1 d2 cs Q Q' h q
  unfold oI at q ⊢
  split at q
  · exact ⟨q.1, h _ _ q.2⟩
  · exact q
theorem opd_int {f : Value → Value → Sem Value} {C : Int → Int → Prop} {k : Int → Int → D} {kv : Int → Int → V} (rk : ∀ i j g, Rep X.K g (k i j) (kv i j)) (h : OpR X f (rI C kv)) : OpD X f (oI C k) :=
  .mk' oI.mo fun pins s σ H x y v u Q g cs d1 d2 I rx ry sr r1 r2 q => by
    unfold oI at q
    split at q
    · cases r1
      cases r2
      exact h pins s σ H _ _ v u Q I rx ry ⟨_, _, rfl, rfl, q.1, q.2 g H _ (Ext.refl g) sr (rk _ _ _)⟩
    · exact q.elim
theorem rI_of0 {f : Value → Value → Sem Value} {kv : Int → Int → V} (h : OpR X f (rI0 kv)) : OpR X f (rI (fun _ _ => True) kv) := fun pins s σ H x y v u Q I rx ry ⟨i, j, e1, e2, _, q⟩ => h pins s σ H x y v u Q I rx ry ⟨i, j, e1, e2, q⟩
def cT : Int → Int → Prop := fun _ _ => True
def cMul (i j : Int) : Prop := CMul i j ∨ CMulW i j
theorem opd_sub : OpD X (binaryOp .Sub) (oI cT fun i j => .int (i - j)) := opd_int (fun _ _ _ => rfl) (rI_of0 op_sub)
theorem opd_fdiv : OpD X (binaryOp .FloorDiv) (oI CDivW fun i j => .int (i / j)) := opd_int (fun _ _ _ => rfl) op_fdivW
theorem opd_mod : OpD X (binaryOp .Mod) (oI (fun _ j => 0 < j) fun i j => .int (i % j)) := opd_int (fun _ _ _ => rfl) op_mod
theorem opd_pow : OpD X (binaryOp .Pow) (oI CPow fun i j => .int (i ^ j.toNat)) := opd_int (fun _ _ _ => rfl) op_pow
theorem opd_shl : OpD X (binaryOp .LShift) (oI CPow fun i j => .int (i * 2 ^ j.toNat)) := opd_int (fun _ _ _ => rfl) op_shl
theorem opd_shr : OpD X (binaryOp .RShift) (oI (fun _ j => 0 ≤ j) fun i j => .int (i / 2 ^ j.toNat)) := opd_int (fun _ _ _ => rfl) op_shr
theorem opd_band : OpD X (binaryOp .BitAnd) (oI cT fun i j => .int (Builtin.bitAnd i j)) := opd_int (fun _ _ _ => rfl) (rI_of0 op_and)
theorem opd_bor : OpD X (binaryOp .BitOr) (oI cT fun i j => .int (Builtin.bitOr i j)) := opd_int (fun _ _ _ => rfl) (rI_of0 op_or)
theorem opd_bxor : OpD X (binaryOp .BitXor) (oI cT fun i j => .int (Builtin.bitXor i j)) := opd_int (fun _ _ _ => rfl) (rI_of0 op_xor)
theorem opd_lt : OpD X (compareOp .Lt) (oI cT fun i j => .bl (decide (i < j))) := opd_int (fun _ _ _ => rfl) (rI_of0 op_lt)
theorem opd_le : OpD X (compareOp .LtE) (oI cT fun i j => .bl (decide (i ≤ j))) := opd_int (fun _ _ _ => rfl) (rI_of0 op_le)
theorem opd_gt : OpD X (compareOp .Gt) (oI cT fun i j => .bl (decide (j < i))) := opd_int (fun _ _ _ => rfl) (rI_of0 op_gt)
theorem opd_ge : OpD X (compareOp .GtE) (oI cT fun i j => .bl (decide (j ≤ i))) := opd_int (fun _ _ _ => rfl) (rI_of0 op_ge)
theorem opd_isub : OpD X (inplaceOp .Sub) (oI cT fun i j => .int (i - j)) := opd_int (fun _ _ _ => rfl) (rI_of0 iop_sub)
/-- a + b: ints, an int and a bool, texts, lists, tuples -/
def oAdd : O2 := fun d1 d2 cs Q => match d1, d2 with
  | .int i, .int j => Q (.int (i + j)) cs
  | .int i, .bl k => Q (.int (i + b2i k)) cs
  | .str x, .str y => x.length + y.length ≤ sizeLine ∧ Q (.str (x ++ y)) cs
  | .tup xs, .tup ys => xs.length + ys.length ≤ sizeLine ∧ Q (.tup (xs ++ ys)) cs
  | d1, d2 => ∃ xs ys, lstOf cs d1 = some xs ∧ lstOf cs d2 = some ys ∧ xs.length + ys.length ≤ sizeLine ∧ Q (.lst (xs ++ ys)) cs
theorem opd_add : OpD X (binaryOp .Add) oAdd := by
  refine .mk' (fun d1 d2 cs Q Q' h q => ?_) fun pins s σ H x y v u Q g cs d1 d2 I rx ry sr r1 r2 q => ?_
  · unfold oAdd at q ⊢
    split at q
    · exact h _ _ q
    · exact h _ _ q
    · exact ⟨q.1, h _ _ q.2⟩
    · exact ⟨q.1, h _ _ q.2⟩
    · obtain ⟨xs, ys, e1, e2, z, q⟩ := q
      exact ⟨xs, ys, e1, e2, z, h _ _ q⟩
  · unfold oAdd at q
    split at q
    · cases r1; cases r2
      exact op_add pins s σ H _ _ v u Q I rx ry ⟨_, _, rfl, rfl, q g H _ (Ext.refl g) sr rfl⟩
    · cases r1; cases r2
      exact op_add_ib pins s σ H _ _ v u Q I rx ry ⟨_, _, rfl, rfl, q g H _ (Ext.refl g) sr rfl⟩
    · cases r1; cases r2
      exact op_add_str pins s σ H _ _ v u Q I rx ry ⟨_, _, rfl, rfl, q.1, q.2 g H _ (Ext.refl g) sr rfl⟩
    · rename_i xs ys
      obtain ⟨p, vs, e1, h1, h2⟩ := r1
      obtain ⟨p', us, e2, h3, h4⟩ := r2
      subst e1 e2
      have l1 := h2.length
      have l2 := h4.length
      refine op_catA pins s σ H _ _ v u Q I rx ry ⟨p, p', vs, us, rfl, rfl, sqT_mono sr.le h1, sqT_mono sr.le h3, by omega, fun e => ?_, fun e e' => ?_, fun _ _ => new_tup sr (h2.append h4) q.2⟩
      · subst e
        have : xs = [] := List.length_eq_zero_iff.mp (by simpa using l1)
        subst this
        exact q.2 g H _ (Ext.refl g) sr ⟨p', us, rfl, h3, h4⟩
      · subst e'
        have : ys = [] := List.length_eq_zero_iff.mp (by simpa using l2)
        subst this
        refine q.2 g H _ (Ext.refl g) sr ⟨p, vs, rfl, h1, ?_⟩
        rw [List.append_nil]
        exact h2
    · obtain ⟨xs, ys, e1, e2, z, q⟩ := q
      obtain ⟨p, vs, f1, h1, h2⟩ := rd_of sr e1 r1
      obtain ⟨p', us, f2, h3, h4⟩ := rd_of sr e2 r2
      subst f1 f2
      cases (show v = Value.ref p from rx)
      cases (show u = Value.ref p' from ry)
      obtain ⟨z1, its, n, rv, hl⟩ := I.hok _ _ h1
      obtain ⟨z2, its2, n2, rv2, hl2⟩ := I.hok _ _ h3
      have ez : vs.length + us.length ≤ sizeLine := by rw [← h2.length, ← h4.length]; exact z
      have k1 := rv.length
      have k2 := rv2.length
      refine PySem.P.add_list hl hl2 ?_ (by simp only [List.size_toArray]; omega)
      rw [show its.toArray ++ its2.toArray = (its ++ its2).toArray by simp]
      exact ⟨.ref _, _, I.lnew (t' := s.toks) (rv.append rv2) (by rw [List.length_append]; exact ez), rfl, new_lst sr (h2.append h4) q _ I.fresh⟩
def oMul : O2 := fun d1 d2 cs Q => match d1, d2 with
  | .int i, .int j => cMul i j ∧ Q (.int (i * j)) cs
  | .tup xs, .int k => (xs ≠ [] ∧ 1 ≤ k ∧ xs.length * k.toNat ≤ sizeLine) ∧ Q (.tup (List.replicate k.toNat xs).flatten) cs
  | d1, .int k => ∃ xs, lstOf cs d1 = some xs ∧ -(2 ^ 63) ≤ k ∧ k < 2 ^ 63 ∧ xs.length * k.toNat ≤ sizeLine ∧ Q (.lst (List.replicate k.toNat xs).flatten) cs
  | _, _ => False
theorem RepL.rep {K : PySem.W.Frag} {g : G} {ds : List D} {vs : List V} (r : RepL K g ds vs) : ∀ n : Nat, RepL K g (List.replicate n ds).flatten (List.replicate n vs).flatten
  | 0 => rfl
  | n + 1 => by
    rw [List.replicate_succ, List.replicate_succ, List.flatten_cons, List.flatten_cons]
    exact r.append (RepL.rep r n)
theorem tuple_mul1 (l : Addr) (items : Array Value) (n : Nat) (dd : Option Addr) (sl : Array (Option Value)) (u : Tok) :
    Meets (Builtin.«tuple.__mul__» ⟨[.ref l, .int 1 u], []⟩) (fun _ R s => s.heap.get? l = some { cls := .type "tuple", dict := dd, data := .seq items n, slots := sl } ∧ R (.ok (.ret (Value.ref l))) s) :=
  .of_wp fun prog w A R s h => by
    obtain ⟨hp, g, d, tk, os⟩ := s
    obtain ⟨hl, h⟩ := h
    have f1 := PySem.AutoSeq1.idx_int
    have c1 : (items.isEmpty || (1 : Int) == 1) = true := by simp
    wp_walk using wpAny_loadPart' hl
    repeat (first
      | (refine wpAny_ite_true (decide_eq_true (by rw [c1])) ?_; wp_walk using wpAny_loadPart' hl)
      | (refine wpAny_ite_false (decide_eq_false (by simp)) ?_; wp_walk using wpAny_loadPart' hl))
    exact ⟨_, rfl, h⟩
theorem op_repT1 : OpR X (binaryOp .Mult) (fun x y H Q => ∃ l k xs, x = .ref l ∧ y = .int k ∧ SqT X.K H l xs ∧ xs ≠ [] ∧ 1 ≤ k ∧ xs.length * k.toNat ≤ sizeLine ∧ (k = 1 → Q (.ref l) H) ∧ ∀ p, H p = none → Q (.ref p) (upd H p (.tup (List.replicate k.toNat xs).flatten))) := by
  intro pins s σ H x y v u Q I rx ry h
  obtain ⟨l, k, xs, rfl, rfl, hT, hne, h1, hz, q1, q⟩ := h
  cases rx
  obtain ⟨t, rfl⟩ := ry
  obtain ⟨its, r, ⟨⟨cls, dd, data, sl⟩, ho, hc, n, hd⟩, hs⟩ := I.tuple hT
  simp only at hc hd
  subst hc hd
  have hle : its.length = xs.length := r.length.symm
  by_cases hk : k = 1
  · subst hk
    refine wpAny_binaryOp_repeat_ref (T := "tuple") (U := "int") (by decide) ⟨_, ho, rfl⟩ (fun s' => typeIs_int s' _ t) noFill_tuple_mul F.fills_int_mul F.slot_int_rmul repeat_tuple F.slot_int_index.lookup
      (call_meets F.slot_int_rmul (typeIs_int s _ t) F.entry_int_rmul (F.args_int_rmul_2 _ _) (int_rmul_tuple _ t l its.toArray n dd sl)
        ⟨ho, rfl, ⟨_, ho, rfl⟩, call_meets F.slot_tuple_mul ⟨_, ho, rfl⟩ F.entry_tuple_mul (F.args_tuple_mul_2 _ _) (tuple_mul1 l its.toArray n dd sl t) ⟨ho, ?_⟩⟩)
    exact ⟨.ref l, H, I, rfl, q1 rfl⟩
  have hn : its ≠ [] := fun e => hne (by
    rw [e] at hle
    exact List.eq_nil_of_length_eq_zero hle.symm)
  have hi : its.toArray.isEmpty = false := by
    cases its with
    | nil => exact absurd rfl hn
    | cons a b => rfl
  have hsz0 : its.toArray.size = xs.length := by rw [List.size_toArray, hle]
  have hx0 : 0 < xs.length := List.length_pos_iff.mpr hne
  have hzz := sizeLine_eq
  have hk2 : k.toNat ≤ sizeLine := Nat.le_trans (Nat.le_mul_of_pos_left _ hx0) hz
  have hm0 : ((its.toArray.size : Nat) : Int) * k = ((xs.length * k.toNat : Nat) : Int) := by
    rw [hsz0, Int.natCast_mul, Int.toNat_of_nonneg (by omega)]
  have hm : ((its.toArray.size : Nat) : Int) * k ≤ (sizeLine : Nat) := by
    rw [hm0]
    omega
  have flen : (List.replicate k.toNat its).flatten.length ≤ sizeLine := by
    rw [PyProof.Rows.lm_len_rep_flat, hle, Nat.mul_comm]
    exact hz
  have c0 : (decide (k < -(2 ^ 63)) || decide (k ≥ 2 ^ 63)) = false := by
    rw [decide_eq_false (by omega), decide_eq_false (by omega)] <;> rfl
  have c1 : (its.toArray.isEmpty || k == 1) = false := by
    rw [hi, Bool.false_or]
    exact beq_eq_false_iff_ne.mpr hk
  have c2 : (decide (k ≤ 0) || its.toArray.isEmpty) = false := by
    rw [hi, Bool.or_false]
    exact decide_eq_false (by omega)
  have c4 : Builtin.Tuple.tupleTooMany (((its.toArray.size : Nat) : Int) * k) = false := by
    unfold Builtin.Tuple.tupleTooMany
    exact decide_eq_false (by omega)
  refine wpAny_binaryOp_repeat_ref (T := "tuple") (U := "int") (by decide) ⟨_, ho, rfl⟩ (fun s' => typeIs_int s' k t) noFill_tuple_mul F.fills_int_mul F.slot_int_rmul repeat_tuple F.slot_int_index.lookup
    (call_meets F.slot_int_rmul (typeIs_int s k t) F.entry_int_rmul (F.args_int_rmul_2 _ _) (int_rmul_tuple k t l its.toArray n dd sl)
      ⟨ho, rfl, ⟨_, ho, rfl⟩, call_meets F.slot_tuple_mul ⟨_, ho, rfl⟩ F.entry_tuple_mul (F.args_tuple_mul_2 _ _) (tuple_mulW l its.toArray n dd sl k t c0 c1 c2 (by omega) c4 (by rw [size_rep, List.size_toArray]; exact flen)) ⟨ho, ?_⟩⟩)
  rw [size_rep]
  refine ⟨.ref s.heap.objs.size, _, I.laid (t' := s.toks) (o := .tup (List.replicate k.toNat xs).flatten) (fun b ob q => Heap.get?_push_of_some _ q) (Nat.le_refl _) ?_, rfl, q _ (I.hok.fresh (Nat.le_refl _))⟩
  exact ⟨by rw [PyProof.Rows.lm_len_rep_flat, Nat.mul_comm]; exact hz, _, r.rep k.toNat, PyProof.Rows.IsTup.new _ _⟩
theorem opd_mul : OpD X (binaryOp .Mult) oMul := by
  refine .mk' (fun d1 d2 cs Q Q' h q => ?_) fun pins s σ H x y v u Q g cs d1 d2 I rx ry sr r1 r2 q => ?_
  · unfold oMul at q ⊢
    split at q
    · exact ⟨q.1, h _ _ q.2⟩
    · exact ⟨q.1, h _ _ q.2⟩
    · obtain ⟨xs, e1, z1, z2, z3, q⟩ := q
      exact ⟨xs, e1, z1, z2, z3, h _ _ q⟩
    · exact q
  · unfold oMul at q
    split at q
    · cases r1; cases r2
      obtain ⟨c, q⟩ := q
      rcases c with c | c
      · exact op_mul pins s σ H _ _ v u Q I rx ry ⟨_, _, rfl, rfl, c, q g H _ (Ext.refl g) sr rfl⟩
      · exact op_mulW pins s σ H _ _ v u Q I rx ry ⟨_, _, rfl, rfl, c, q g H _ (Ext.refl g) sr rfl⟩
    · obtain ⟨⟨z1, z2, z3⟩, q⟩ := q
      cases r2
      obtain ⟨p, vs, f1, h1, h2⟩ := r1
      subst f1
      refine op_repT1 pins s σ H _ _ v u Q I rx ry ⟨p, _, vs, rfl, rfl, sqT_mono sr.le h1, fun e => z1 ?_, z2, by rw [← h2.length]; exact z3, fun e => ?_, new_tup sr (h2.rep _) q⟩
      · subst e
        exact List.length_eq_zero_iff.mp h2.length
      · subst e
        refine q g H _ (Ext.refl g) sr ⟨p, vs, rfl, h1, ?_⟩
        simpa using h2
    · obtain ⟨xs, e1, z1, z2, z3, q⟩ := q
      cases r2
      obtain ⟨p, vs, f1, h1, h2⟩ := rd_of sr e1 r1
      subst f1
      exact op_rep pins s σ H _ _ v u Q I rx ry ⟨p, _, vs, rfl, rfl, h1, z1, z2, by rw [← h2.length]; exact z3, new_lst sr (h2.rep _) q⟩
    · exact q.elim
theorem opd_iadd_i : OpD X (inplaceOp .Add) (oI cT fun i j => .int (i + j)) := opd_int (fun _ _ _ => rfl) (rI_of0 iop_add)
/-! ### one value -/
def oU (f : Int → D) : O1 := fun d cs Q => match d with
  | .int i => Q (f i) cs
  | _ => False
theorem und_int {f : Value → Sem Value} {k : Int → D} {kv : Int → V} (rk : ∀ i g, Rep X.K g (k i) (kv i)) (h : UnR X f (rU kv)) : UnD X f (oU k) := by
  refine ⟨fun pins s σ H x v Q I rx ⟨g, cs, d, sr, r, q⟩ => ?_, fun d cs Q Q' hq q => ?_⟩
  · unfold oU at q
    split at q
    · cases r
      exact h pins s σ H _ v Q I rx ⟨_, rfl, q g H _ (Ext.refl g) sr (rk _ _)⟩
    · exact q.elim
  · unfold oU at q ⊢
    split at q
    · exact hq _ _ q
    · exact q
theorem und_neg : UnD X (unaryOp .USub) (oU fun i => .int (-i)) := und_int (fun _ _ => rfl) un_neg
theorem und_inv : UnD X (unaryOp .Invert) (oU fun i => .int (Builtin.bitNot i)) := und_int (fun _ _ => rfl) un_inv
/-! ### data compared -/
mutual
def toPy : D → Option PyData
  | .non => some .none
  | .bl b => some (.bool b)
  | .int i => some (.int i)
  | .str x => some (.str x)
  | .tup ds => match toPyL ds with
    | some ps => some (.tuple ps)
    | none => none
  | .lst ds => match toPyL ds with
    | some ps => some (.list ps)
    | none => none
  | _ => none
def toPyL : List D → Option (List PyData)
  | [] => some []
  | d :: ds => match toPy d with
    | some p => match toPyL ds with
      | some ps => some (p :: ps)
      | none => none
    | none => none
end
def pyOf (cs : Sto) : D → Option PyData
  | .cell i => match cs[i]? with
    | some (.lst ds) => match toPyL ds with
      | some ps => some (.list ps)
      | none => none
    | _ => none
  | d => toPy d
section
variable {K : PySem.W.Frag} {g : G} {cs : Sto} {H : Hp}
mutual
theorem dp_toPy (s : Sr K g cs H) : ∀ (d : D) (v : V) (p : PyData), toPy d = some p → Rep K g d v → Dp K H v p
  | .non, v, p, e, r => by cases r; simp only [toPy, Option.some.injEq] at e; subst e; exact .non
  | .bl b, v, p, e, r => by cases r; simp only [toPy, Option.some.injEq] at e; subst e; exact .bl b
  | .int i, v, p, e, r => by cases r; simp only [toPy, Option.some.injEq] at e; subst e; exact .int i
  | .str x, v, p, e, r => by cases r; simp only [toPy, Option.some.injEq] at e; subst e; exact .str x
  | .tup ds, v, p, e, r => by
    unfold toPy at e
    split at e
    · rename_i ps hp
      cases e
      obtain ⟨a, vs, e1, h1, h2⟩ := r
      subst e1
      exact .tup (sqT_mono s.le h1) (dp_toPyL s ds vs ps hp h2)
    · cases e
  | .lst ds, v, p, e, r => by
    unfold toPy at e
    split at e
    · rename_i ps hp
      cases e
      obtain ⟨a, vs, e1, h1, h2⟩ := r
      subst e1
      exact .lst (.of (s.le _ _ h1)) (dp_toPyL s ds vs ps hp h2)
    · cases e
  | .ty _, _, _, e, _ => by simp [toPy] at e
  | .ref _, _, _, e, _ => by simp [toPy] at e
  | .dic _, _, _, e, _ => by simp [toPy] at e
  | .obj _ _, _, _, e, _ => by simp [toPy] at e
  | .cell _, _, _, e, _ => by simp [toPy] at e
  | .scr _, _, _, e, _ => by simp [toPy] at e
  | .err _ _, _, _, e, _ => by simp [toPy] at e
theorem dp_toPyL (s : Sr K g cs H) : ∀ (ds : List D) (vs : List V) (ps : List PyData), toPyL ds = some ps → RepL K g ds vs → DpAll K H vs ps
  | [], vs, ps, e, r => by
    have r' : vs = [] := r
    subst r'
    simp only [toPyL, Option.some.injEq] at e
    subst e
    exact .nil
  | d :: ds, vs, ps, e, r => by
    obtain ⟨v, vr, e1, h1, h2⟩ := r
    subst e1
    unfold toPyL at e
    split at e
    · rename_i p hp
      split at e
      · rename_i qs hq
        cases e
        exact .cons (dp_toPy s d v p hp h1) (dp_toPyL s ds vr qs hq h2)
      · cases e
    · cases e
end
theorem dp_pyOf (s : Sr K g cs H) {d : D} {v : V} {p : PyData} (e : pyOf cs d = some p) (r : Rep K g d v) : Dp K H v p := by
  unfold pyOf at e
  split at e
  · rename_i i
    split at e
    · rename_i ds hc
      split at e
      · rename_i ps hp
        cases e
        obtain ⟨a, vs, e1, h1, h2⟩ := lst_of s (d := .cell i) (ds := ds) (by simp [lstOf, hc]) r
        subst e1
        exact .lst h1 (dp_toPyL s ds vs ps hp h2)
      · cases e
    · cases e
  · exact dp_toPy s _ v p e r
end
def oEq (neg : Bool) : O2 := fun d1 d2 cs Q => match d1, d2 with
  | .str x, .str y => Q (.bl (if neg = true then !decide (x = y) else decide (x = y))) cs
  | d1, d2 => ∃ p q, pyOf cs d1 = some p ∧ pyOf cs d2 = some q ∧ SeqAt.shaped p = true ∧ SeqAt.shaped q = true ∧ Q (.bl (if neg = true then !PyData.eqv p q else PyData.eqv p q)) cs
theorem oEq.mo {neg : Bool} : ∀ d1 d2 cs Q Q', (∀ d cs, Q d cs → Q' d cs) → oEq neg d1 d2 cs Q → oEq neg d1 d2 cs Q' := fun d1 d2 cs Q Q' h z => by
  unfold oEq at z ⊢
  split at z
  · exact h _ _ z
  · obtain ⟨p, q, e1, e2, e3, e4, z⟩ := z
    exact ⟨p, q, e1, e2, e3, e4, h _ _ z⟩
theorem dec_strV {x y : Str} : decide (V.str x = V.str y) = decide (x = y) := by
  rw [Bool.eq_iff_iff]
  simp
theorem opd_eq (hu : X.A.units + 64 < cLine) : OpD X (compareOp .Eq) (oEq false) := .mk' oEq.mo fun pins s σ H x y v u Q g cs d1 d2 I rx ry sr r1 r2 z => by
  unfold oEq at z
  split at z
  · cases r1
    cases r2
    exact op_eq pins s σ H _ _ v u Q I rx ry ⟨rfl, by rw [dec_strV]; exact z g H _ (Ext.refl g) sr rfl⟩
  · obtain ⟨p, q, e1, e2, e3, e4, z⟩ := z
    exact op_eqD hu pins s σ H x y v u Q I rx ry ⟨p, q, dp_pyOf sr e1 r1, dp_pyOf sr e2 r2, e3, e4, z g H _ (Ext.refl g) sr rfl⟩
theorem opd_ne (hu : X.A.units + 64 < cLine) : OpD X (compareOp .NotEq) (oEq true) := .mk' oEq.mo fun pins s σ H x y v u Q g cs d1 d2 I rx ry sr r1 r2 z => by
  unfold oEq at z
  split at z
  · cases r1
    cases r2
    exact op_ne pins s σ H _ _ v u Q I rx ry ⟨rfl, by rw [dec_strV]; exact z g H _ (Ext.refl g) sr rfl⟩
  · obtain ⟨p, q, e1, e2, e3, e4, z⟩ := z
    exact op_neD hu pins s σ H x y v u Q I rx ry ⟨p, q, dp_pyOf sr e1 r1, dp_pyOf sr e2 r2, e3, e4, z g H _ (Ext.refl g) sr rfl⟩
/-- is None -/
def isNon : D → Bool
  | .non => true
  | _ => false
def oIsN (neg : Bool) : O2 := fun d1 d2 cs Q => match d2, d1 with
  | .non, d1 => Q (.bl (if neg = true then !isNon d1 else isNon d1)) cs
  | .bl b, .bl a => Q (.bl (if neg = true then !(decide (a = b)) else decide (a = b))) cs
  | _, _ => False
theorem isNon_rep {K : PySem.W.Frag} {g : G} : ∀ {d : D} {v : V}, Rep K g d v → decide (v = .non) = isNon d
  | .non, _, r => by cases r; rfl
  | .bl _, _, r => by cases r; rfl
  | .int _, _, r => by cases r; rfl
  | .str _, _, r => by cases r; rfl
  | .ty _, _, r => by cases r; rfl
  | .ref _, _, r => by cases r; rfl
  | .tup _, _, r => by obtain ⟨a, vs, e, _⟩ := r; subst e; rfl
  | .lst _, _, r => by obtain ⟨a, vs, e, _⟩ := r; subst e; rfl
  | .dic _, _, r => by obtain ⟨a, vs, e, _⟩ := r; subst e; rfl
  | .obj _ _, _, r => by obtain ⟨a, dx, vs, e, _⟩ := r; subst e; rfl
  | .cell _, _, r => by obtain ⟨a, e, _⟩ := r; subst e; rfl
  | .scr _, _, r => by obtain ⟨a, e, _⟩ := r; subst e; rfl
  | .err _ _, _, r => by obtain ⟨a, dx, vs, e, _⟩ := r; subst e; rfl
theorem oIsN.mo {neg : Bool} : ∀ d1 d2 cs Q Q', (∀ d cs, Q d cs → Q' d cs) → oIsN neg d1 d2 cs Q → oIsN neg d1 d2 cs Q' := fun d1 d2 cs Q Q' h q => by
  unfold oIsN at q ⊢
  split at q
  · exact h _ _ q
  · exact h _ _ q
  · exact q.elim
theorem opd_is : OpD X (compareOp .Is) (oIsN false) := .mk' oIsN.mo fun pins s σ H x y v u Q g cs d1 d2 I rx ry sr r1 r2 q => by
  unfold oIsN at q
  split at q
  · cases r2
    exact op_isN pins s σ H _ _ v u Q I rx ry ⟨rfl, by rw [isNon_rep r1]; exact q g H _ (Ext.refl g) sr rfl⟩
  · cases r1; cases r2
    exact op_isBl pins s σ H _ _ v u Q I rx ry ⟨_, _, rfl, rfl, q g H _ (Ext.refl g) sr rfl⟩
  · exact q.elim
theorem opd_isnot : OpD X (compareOp .IsNot) (oIsN true) := .mk' oIsN.mo fun pins s σ H x y v u Q g cs d1 d2 I rx ry sr r1 r2 q => by
  unfold oIsN at q
  split at q
  · cases r2
    exact op_notN pins s σ H _ _ v u Q I rx ry ⟨rfl, by rw [isNon_rep r1]; exact q g H _ (Ext.refl g) sr rfl⟩
  · cases r1; cases r2
    exact op_notBl pins s σ H _ _ v u Q I rx ry ⟨_, _, rfl, rfl, q g H _ (Ext.refl g) sr rfl⟩
  · exact q.elim
/-! ### subscripts -/
theorem atI_rep {K : PySem.W.Frag} {g : G} {ds : List D} {vs : List V} {i : Int} {d : D} (r : RepL K g ds vs) (h : atI ds i = some d) : ∃ v, atI vs i = some v ∧ Rep K g d v := by
  unfold atI at h ⊢
  rw [← r.length]
  cases e : ixN ds.length i with
  | none => rw [e] at h; cases h
  | some j =>
    rw [e] at h
    exact r.get h
def oIx : O2 := fun d1 d2 cs Q => match d2 with
  | .int i => match d1 with
    | .str z => ∃ c, z.length ≤ sizeLine ∧ atI z.cps.toList i = some c ∧ Q (.str ⟨#[c]⟩) cs
    | d1 => ∃ ds d, seqOf cs d1 = some ds ∧ atI ds i = some d ∧ Q d cs
  | _ => False
theorem oIx.mo : ∀ d1 d2 cs Q Q', (∀ d cs, Q d cs → Q' d cs) → oIx d1 d2 cs Q → oIx d1 d2 cs Q' := fun d1 d2 cs Q Q' h q => by
  unfold oIx at q ⊢
  split at q
  · split at q
    · obtain ⟨c, e, e2, q⟩ := q
      exact ⟨c, e, e2, h _ _ q⟩
    · obtain ⟨ds, d, e, e2, q⟩ := q
      exact ⟨ds, d, e, e2, h _ _ q⟩
  · exact q
theorem de_ix (ha : DE X a wa) (hb : DE X b wb) (hs : PlainIx b := by exact fun _ _ => rfl) : DE X (.Subscript a b pos) (wOp oIx wa wb) := by
  refine ⟨⟨fun pins s σ H Q I h => ?_⟩, wOp.mo oIx.mo ha.mo hb.mo⟩
  refine (pe_ix (r := lowO X.K oIx) (fun value slice pins s σ H x y v u Q I rx ry ⟨g, cs, d1, d2, sr, r1, r2, q⟩ hsub => ?_) ha.pe hb.pe hs).run pins s σ H Q I (low_op oIx.mo ha hb h)
  unfold oIx at q
  split at q
  · cases r2
    split at q
    · obtain ⟨c, e, e2, q⟩ := q
      cases r1
      exact ix_seq value slice pins s σ H _ _ v u Q I rx ry (.inr (.inr ⟨_, _, c, rfl, rfl, e, e2, q g H _ (Ext.refl g) sr rfl⟩)) hsub
    · obtain ⟨ds, d, e, e2, q⟩ := q
      obtain ⟨p, vs, f1, h1, h2⟩ := seq_of sr e r1
      subst f1
      obtain ⟨w', q1, q2⟩ := atI_rep h2 e2
      rcases h1 with h1 | h1
      · exact ix_seq value slice pins s σ H _ _ v u Q I rx ry (.inl ⟨p, vs, _, w', rfl, rfl, h1, q1, q g H _ (Ext.refl g) sr q2⟩) hsub
      · exact ix_seq value slice pins s σ H _ _ v u Q I rx ry (.inr (.inl ⟨p, vs, _, w', rfl, rfl, h1, q1, q g H _ (Ext.refl g) sr q2⟩)) hsub
  · exact q.elim
/-- a part of a slice -/
abbrev WO := En → Sto → (Option Int → Sto → Prop) → Prop
def lowP (K : PySem.W.Frag) (w : WO) : TO := fun σ H Q => ∃ g cs env, Sr K g cs H ∧ Lr K g env σ ∧ w env cs fun o cs' => ∀ g' H', Ext g g' → Sr K g' cs' H' → Q o H'
structure DP (X : Cx) (e : Option Expr) (w : WO) : Prop where
  pe : PO X e (lowP X.K w)
  mo : ∀ env cs Q Q', (∀ o cs, Q o cs → Q' o cs) → w env cs Q → w env cs Q'
def wPn : WO := fun _ cs Q => Q none cs
def wPs (we : WE) : WO := fun env cs Q => we env cs fun d cs' => match d with
  | .int i => Q (some i) cs'
  | _ => False
theorem dp_none : DP X none wPn := ⟨⟨fun pins s σ H Q I ⟨g, cs, env, sr, l, h⟩ => po_none.run pins s σ H Q I (h g H (Ext.refl g) sr)⟩, fun _ _ _ _ h q => h _ _ q⟩
theorem dp_some (ha : DE X a wa) : DP X (some a) (wPs wa) := by
  refine ⟨⟨fun pins s σ H Q I ⟨g, cs, env, sr, l, h⟩ => (po_some ha.pe).run pins s σ H Q I (lowE.go ha.mo sr l h fun d cs1 g1 H1 v1 h1 e1 s1 r1 => ?_)⟩, fun env cs Q Q' h q => ha.mo env cs _ _ (fun d cs' q => ?_) q⟩
  · cases d with
    | int i => exact ⟨i, r1, h1 g1 H1 e1 s1⟩
    | _ => exact False.elim h1
  · cases d <;> first | exact h _ _ q | exact q
def cutD (ds : List D) (lo hi : Option Int) : List D := (ds.drop (HT.sIx ds.length 0 lo)).take (HT.sIx ds.length ds.length hi - HT.sIx ds.length 0 lo)
theorem cutD_rep {K : PySem.W.Frag} {g : G} {ds : List D} {vs : List V} (r : RepL K g ds vs) (lo hi : Option Int) : RepL K g (cutD ds lo hi) (cutV vs lo hi) := by
  unfold cutD cutV
  rw [r.length]
  exact (r.drop _).take _
def oSl (d : D) (lo hi : Option Int) (cs : Sto) (Q : PD) : Prop := match d with
  | .scr ns => Q (.lst (cutD (ns.map .int) lo hi)) cs
  | .tup ds => Q (.tup (cutD ds lo hi)) cs
  | .str z => z.length ≤ sizeLine ∧ Q (.str (cutS z lo hi)) cs
  | d => ∃ ds, lstOf cs d = some ds ∧ Q (.lst (cutD ds lo hi)) cs
theorem oSl.mo {d : D} {lo hi : Option Int} {cs : Sto} {Q Q' : PD} (h : ∀ d cs, Q d cs → Q' d cs) (q : oSl d lo hi cs Q) : oSl d lo hi cs Q' := by
  unfold oSl at q ⊢
  split at q
  · exact h _ _ q
  · exact h _ _ q
  · exact ⟨q.1, h _ _ q.2⟩
  · obtain ⟨ds, e, q⟩ := q
    exact ⟨ds, e, h _ _ q⟩
def wSl (we : WE) (wl wh : WO) : WE := fun env cs Q => we env cs fun d cs1 => wl env cs1 fun lo cs2 => wh env cs2 fun hi cs3 => oSl d lo hi cs3 Q
def lowSl (K : PySem.W.Frag) : V → Option Int → Option Int → Hp → VK → Prop := fun x lo hi H Q => ∃ g cs d, Sr K g cs H ∧ Rep K g d x ∧ oSl d lo hi cs (upV K g Q)
theorem slr_d : SlR X (lowSl X.K) := by
  intro pins s σ H x v vl vu lo hi sl Q I rx hs pl pu ⟨g, cs, d, sr, r, q⟩
  unfold oSl at q
  split at q
  · obtain ⟨p, e1, h1⟩ := r
    subst e1
    exact sl_list pins s σ H _ v vl vu lo hi sl Q I rx hs pl pu ⟨p, _, rfl, sqL_mono sr.le h1, new_lst sr (cutD_rep (.of_ints _) lo hi) q⟩
  · rename_i ds
    obtain ⟨p, vs, e1, h1, h2⟩ := r
    subst e1
    refine sl_tupA pins s σ H _ v vl vu lo hi sl Q I rx hs pl pu ⟨p, vs, rfl, sqT_mono sr.le h1, fun ⟨z1, z2⟩ => ?_, fun _ => new_tup sr (cutD_rep h2 lo hi) q⟩
    refine q g H _ (Ext.refl g) sr ⟨p, vs, rfl, h1, ?_⟩
    unfold cutD
    rw [h2.length, z1, z2]
    have : (List.take (vs.length - 0) (List.drop 0 ds)) = ds := by
      rw [List.drop_zero, Nat.sub_zero, ← h2.length, List.take_length]
    rw [this]
    exact h2
  · cases r
    exact sl_str pins s σ H _ v vl vu lo hi sl Q I rx hs pl pu ⟨_, rfl, q.1, q.2 g H _ (Ext.refl g) sr rfl⟩
  · obtain ⟨ds, e, q⟩ := q
    obtain ⟨p, vs, e1, h1, h2⟩ := lst_of sr e r
    subst e1
    exact sl_list pins s σ H _ v vl vu lo hi sl Q I rx hs pl pu ⟨p, vs, rfl, h1, new_lst sr (cutD_rep h2 lo hi) q⟩
theorem de_slice {lo hi : Option Expr} {wl wh : WO} {p2 : Pos} (ha : DE X a wa) (hl : DP X lo wl) (hh : DP X hi wh) : DE X (.Subscript a (.Slice lo hi none p2) pos) (wSl wa wl wh) := by
  refine ⟨PE.imp (pe_slice slr_d ha.pe hl.pe hh.pe) fun σ H Q ⟨g, cs, env, sr, l, h⟩ => ?_, fun env cs Q Q' h q => ha.mo env cs _ _ (fun d cs1 q => hl.mo env cs1 _ _ (fun o cs2 q => hh.mo env cs2 _ _ (fun o2 cs3 q => oSl.mo h q) q) q) q⟩
  refine lowE.go ha.mo sr l h fun d cs1 g1 H1 v1 h1 e1 s1 r1 => ?_
  refine ⟨g1, cs1, env, s1, l.mono e1, hl.mo _ _ _ _ (fun o cs2 h2 g2 H2 e2 s2 => ?_) h1⟩
  refine ⟨g2, cs2, env, s2, (l.mono e1).mono e2, hh.mo _ _ _ _ (fun o2 cs3 h3 g3 H3 e3 s3 => ?_) h2⟩
  exact ⟨g3, cs3, d, s3, (r1.mono e2).mono e3, oSl.mo (fun _ _ q => upV.mono ((e1.trans e2).trans e3) q) h3⟩
/-- xs[i] = e -/
def wStore (we wo wi : WE) : WS := fun E env cs => we env cs fun d cs1 => wo env cs1 fun o cs2 => wi env cs2 fun k cs3 => match o, k with
  | .cell n, .int i => ∃ ds j, cs3[n]? = some (.lst ds) ∧ ixN ds.length i = some j ∧ E.nx env (cs3.set n (.lst (ds.set j d)))
  | _, _ => False
theorem ds_store {e o i : Expr} {we wo wi : WE} {tpos : Pos} (he : DE X e we) (ho : DE X o wo) (hi : DE X i wi)
    (ha : ∀ v, assign (.Subscript o i tpos) X.env v = (do
      let ov ← holding [v] (eval o X.env)
      let iv ← holding [v, ov] (eval i X.env)
      standAt tpos
      holding [v, ov, iv] (setItem ov iv v)
      release [v, ov, iv] []) := by intro _; rfl)
    (hs : swapsWithSole [.Subscript o i tpos] e pos.line X.env = pure false := by rfl) (hw : swappedStores [.Subscript o i tpos] e X.env = pure none := by rfl) (h1 : (assignEach [.Subscript o i tpos] X.env).map (·.2) = [assign (.Subscript o i tpos) X.env] := by rfl) :
    DS X (.Assign [.Subscript o i tpos] e pos) (wStore we wo wi) := by
  refine ⟨PS.imp (ps_asg he.pe (pg_sub ho.pe hi.pe set_list ha) hs hw h1) fun D σ H ⟨g, cs, env, sr, l, h⟩ => ?_, fun E E' env cs h q => he.mo _ _ _ _ (fun d cs1 q => ho.mo _ _ _ _ (fun o cs2 q => hi.mo _ _ _ _ (fun k cs3 q => ?_) q) q) q⟩
  · refine lowE.go he.mo sr l h fun d cs1 g1 H1 v1 h1 e1 s1 r1 => ?_
    refine lowE.go ho.mo s1 (l.mono e1) h1 fun od cs2 g2 H2 v2 h2 e2 s2 r2 => ?_
    refine lowE.go hi.mo s2 ((l.mono e1).mono e2) h2 fun kd cs3 g3 H3 v3 h3 e3 s3 r3 => ?_
    split at h3
    · rename_i n i
      obtain ⟨ds, j, hc, hj, q⟩ := h3
      cases r3
      obtain ⟨p, e4, h4⟩ := r2.mono e3
      subst e4
      obtain ⟨vs, q1, q2, q3⟩ := s3.ok n p _ h4 hc
      refine ⟨p, vs, _, j, rfl, rfl, q1, by rw [← q2.length]; exact hj, ?_⟩
      exact q g3 _ σ ((e1.trans e2).trans e3) (s3.put h4 hc (by simp) ⟨_, upd_same, q2.set ((r1.mono e2).mono e3) j, q3⟩) (l.mono ((e1.trans e2).trans e3))
    · exact h3.elim
  · split at q
    · obtain ⟨ds, j, hc, hj, q⟩ := q
      exact ⟨ds, j, hc, hj, h.nx _ _ q⟩
    · exact q
end
end DL

/-! DBlt: built-in functions and types, walks of pairs, methods of lists, over data. -/
namespace DL
open PySem PySem.Spec L2
variable [Tbs]
abbrev OC := List D → Sto → PD → Prop
def lowC (K : PySem.W.Frag) (o : OC) : List V → Hp → VK → Prop := fun xs H Q => ∃ g cs ds, Sr K g cs H ∧ RepL K g ds xs ∧ o ds cs (upV K g Q)
structure CallD (X : Cx) (f : Value) (o : OC) : Prop where
  op : CallR X f (lowC X.K o)
  mo : ∀ ds cs Q Q', (∀ d cs, Q d cs → Q' d cs) → o ds cs Q → o ds cs Q'
section
variable {X : Cx} {a b c : Expr} {wa wb wc : WE} {pos : Pos}
theorem CallD.mk' {f : Value} {o : OC} (mo : ∀ ds cs Q Q', (∀ d cs, Q d cs → Q' d cs) → o ds cs Q → o ds cs Q')
    (h : ∀ (pins : List (Addr × Obj)) (s : Shared) (σ : L2.St) (H : Hp) (xs : List V) (us : List Value) (Q : VK) (g : G) (cs : Sto) (ds : List D), Inv X pins σ H s → Vals xs us → Sr X.K g cs H → RepL X.K g ds xs → o ds cs (upV X.K g Q) →
      wpAny (model X.prog X.w) X.A (call f us) (EP X pins σ Q) X.xe s) : CallD X f o :=
  ⟨fun pins s σ H xs us Q I r ⟨g, cs, ds, sr, r1, q⟩ => h pins s σ H xs us Q g cs ds I r sr r1 q, mo⟩
def wB (o : OC) (w : WA) : WE := fun env cs Q => w env cs fun ds cs1 => o ds cs1 Q
theorem wB.mo {o : OC} {w : WA} (mo : ∀ ds cs Q Q', (∀ d cs, Q d cs → Q' d cs) → o ds cs Q → o ds cs Q') (h : MonoA w) : MonoE (wB o w) := fun env cs Q Q' hq q => h _ _ _ _ (fun ds cs1 q => mo _ _ _ _ hq q) q
theorem de_callB {id : String} {o : OC} {x : Str} {p : Pos} {e : Expr} {es : List Expr} {w : WA} (hc : CallD X (.builtin id) o) (hm : X.mg x = none) (hv : bootBuiltins x = some (.builtin id)) (ha : DA X (e :: es) w) (hg : Gl X x := by rfl) (hn : x ≠ "__name__" := by decide) (hdb : (x == ("__debug__" : Str)) = false := by decide)
    (he : starEach (e :: es) X.env = (false, eval e X.env) :: starEach es X.env := by rfl) (hpl : (backTo pos (starEach es X.env)).any (·.1) = false := by rfl) : DE X (.Call (.Name x p) (e :: es) [] pos) (wB o w) :=
  ⟨PE.imp (pe_callB hc.op hg hm hv ha.pe hn hdb he hpl) fun σ H Q ⟨g, cs, env, sr, l, h⟩ => lowA.go ha.mo sr l h fun ds cs1 g1 H1 vs h1 e1 s1 r1 => ⟨g1, cs1, ds, s1, r1, hc.mo _ _ _ _ (fun _ _ q => upV.mono e1 q) h1⟩, wB.mo hc.mo ha.mo⟩
theorem de_callT {T : String} {o : OC} {x : Str} {p : Pos} {e : Expr} {es : List Expr} {w : WA} (hc : CallD X (.type T) o) (hm : X.mg x = none) (hv : bootBuiltins x = some (.type T)) (ha : DA X (e :: es) w) (hg : Gl X x := by rfl) (hn : x ≠ "__name__" := by decide) (hdb : (x == ("__debug__" : Str)) = false := by decide)
    (he : starEach (e :: es) X.env = (false, eval e X.env) :: starEach es X.env := by rfl) (hpl : (backTo pos (starEach es X.env)).any (·.1) = false := by rfl) : DE X (.Call (.Name x p) (e :: es) [] pos) (wB o w) :=
  ⟨PE.imp (pe_callTy hc.op hg hm hv ha.pe hn hdb he hpl) fun σ H Q ⟨g, cs, env, sr, l, h⟩ => lowA.go ha.mo sr l h fun ds cs1 g1 H1 vs h1 e1 s1 r1 => ⟨g1, cs1, ds, s1, r1, hc.mo _ _ _ _ (fun _ _ q => upV.mono e1 q) h1⟩, wB.mo hc.mo ha.mo⟩
/-- one argument -/
def o1 (o : O1) : OC := fun ds cs Q => match ds with
  | [d] => o d cs Q
  | _ => False
theorem o1.mo {o : O1} (mo : ∀ d cs Q Q', (∀ d cs, Q d cs → Q' d cs) → o d cs Q → o d cs Q') : ∀ ds cs Q Q', (∀ d cs, Q d cs → Q' d cs) → o1 o ds cs Q → o1 o ds cs Q' := fun ds cs Q Q' h q => by
  unfold o1 at q ⊢
  split at q
  · exact mo _ _ _ _ h q
  · exact q
theorem cd1 {f : Value} {o : O1} (mo : ∀ d cs Q Q', (∀ d cs, Q d cs → Q' d cs) → o d cs Q → o d cs Q')
    (h : ∀ (pins : List (Addr × Obj)) (s : Shared) (σ : L2.St) (H : Hp) (x : V) (u : Value) (Q : VK) (g : G) (cs : Sto) (d : D), Inv X pins σ H s → RelV x u → Vals [x] [u] → Sr X.K g cs H → Rep X.K g d x → o d cs (upV X.K g Q) →
      wpAny (model X.prog X.w) X.A (call f [u]) (EP X pins σ Q) X.xe s) : CallD X f (o1 o) :=
  .mk' (o1.mo mo) fun pins s σ H xs us Q g cs ds I r sr r1 q => by
    unfold o1 at q
    split at q
    · obtain ⟨v, vr, e1, h1, h2⟩ := r1
      have h2' : vr = [] := h2
      subst e1 h2'
      obtain ⟨u, rfl, ru⟩ := vals1 r
      exact h pins s σ H v u Q g cs _ I ru r sr h1 q
    · exact q.elim
/-! ### len, int, bool, abs, list, tuple, all, any, sum -/
def oLen : O1 := fun d cs Q => match d with
  | .str y => y.length ≤ sizeLine ∧ Q (.int y.length) cs
  | d => ∃ ds, seqOf cs d = some ds ∧ Q (.int ds.length) cs
theorem cd_len : CallD X (.builtin "len") (o1 oLen) := cd1 (fun d cs Q Q' h q => by
    unfold oLen at q ⊢
    split at q
    · exact ⟨q.1, h _ _ q.2⟩
    · obtain ⟨ds, e, q⟩ := q
      exact ⟨ds, e, h _ _ q⟩) fun pins s σ H x u Q g cs d I ru rv sr r q => by
  unfold oLen at q
  split at q
  · cases r
    exact call_len pins s σ H _ _ Q I rv ⟨_, _, rfl, ⟨q.1, rfl⟩, q.2 g H _ (Ext.refl g) sr rfl⟩
  · obtain ⟨ds, e, q⟩ := q
    obtain ⟨p, vs, e1, h1, h2⟩ := seq_of sr e r
    subst e1
    refine call_len pins s σ H _ _ Q I rv ⟨_, vs.length, rfl, ?_, ?_⟩
    · rcases h1 with h1 | h1
      · exact .inl ⟨vs, h1, rfl⟩
      · exact .inr ⟨vs, h1, rfl⟩
    · have := q g H (.int ds.length) (Ext.refl g) sr rfl
      rw [h2.length] at this
      exact this
def oInt : O1 := fun d cs Q => match d with
  | .int i => Q (.int i) cs
  | .bl k => Q (.int (if k = true then 1 else 0)) cs
  | _ => False
theorem cd_int : CallD X (.type "int") (o1 oInt) := cd1 (fun d cs Q Q' h q => by
    unfold oInt at q ⊢
    split at q
    · exact h _ _ q
    · exact h _ _ q
    · exact q) fun pins s σ H x u Q g cs d I ru rv sr r q => by
  unfold oInt at q
  split at q
  · cases r
    exact call_int1 pins s σ H _ _ Q I rv (.inl ⟨_, rfl, q g H _ (Ext.refl g) sr rfl⟩)
  · cases r
    exact call_int1 pins s σ H _ _ Q I rv (.inr ⟨_, rfl, q g H _ (Ext.refl g) sr rfl⟩)
  · exact q.elim
def oAbs : O1 := fun d cs Q => match d with
  | .int i => Q (.int (if i < 0 then -i else i)) cs
  | _ => False
theorem cd_abs : CallD X (.builtin "abs") (o1 oAbs) := cd1 (fun d cs Q Q' h q => by
    unfold oAbs at q ⊢
    split at q
    · exact h _ _ q
    · exact q) fun pins s σ H x u Q g cs d I ru rv sr r q => by
  unfold oAbs at q
  split at q
  · cases r
    exact call_abs pins s σ H _ _ Q I rv ⟨_, rfl, q g H _ (Ext.refl g) sr rfl⟩
  · exact q.elim
def oTup : O1 := fun d cs Q => ∃ ds, seqOf cs d = some ds ∧ Q (.tup ds) cs
theorem cd_tup : CallD X (.type "tuple") (o1 oTup) := cd1 (fun d cs Q Q' h ⟨ds, e, q⟩ => ⟨ds, e, h _ _ q⟩) fun pins s σ H x u Q g cs d I ru rv sr r ⟨ds, e, q⟩ => by
  cases d with
  | tup es =>
    cases e
    obtain ⟨p, vs, e1, h1, h2⟩ := r
    subst e1
    exact call_tuple_of pins s σ H _ _ Q I rv ⟨p, vs, rfl, .inr ⟨sqT_mono sr.le h1, q g H _ (Ext.refl g) sr ⟨p, vs, rfl, h1, h2⟩⟩⟩
  | lst es =>
    obtain ⟨p, vs, e1, h1, h2⟩ := lst_of (d := .lst es) (ds := ds) sr e r
    subst e1
    exact call_tuple_of pins s σ H _ _ Q I rv ⟨p, vs, rfl, .inl ⟨h1, new_tup sr h2 q⟩⟩
  | cell i =>
    obtain ⟨p, vs, e1, h1, h2⟩ := lst_of (d := .cell i) (ds := ds) sr e r
    subst e1
    exact call_tuple_of pins s σ H _ _ Q I rv ⟨p, vs, rfl, .inl ⟨h1, new_tup sr h2 q⟩⟩
  | _ => cases e
def oList : O1 := fun d cs Q => ∃ ds, seqOf cs d = some ds ∧ Q (.lst ds) cs
theorem cd_list : CallD X (.type "list") (o1 oList) := cd1 (fun d cs Q Q' h ⟨ds, e, q⟩ => ⟨ds, e, h _ _ q⟩) fun pins s σ H x u Q g cs d I ru rv sr r ⟨ds, e, q⟩ => by
  obtain ⟨p, vs, e1, h1, h2⟩ := seq_of sr e r
  subst e1
  exact call_list_of pins s σ H _ _ Q I rv ⟨p, vs, rfl, h1, new_lst sr h2 q⟩
/-- a list of truths, of ints -/
def bls : List D → Option (List Bool)
  | [] => some []
  | .bl b :: ds => match bls ds with
    | some bs => some (b :: bs)
    | none => none
  | _ :: _ => none
def nums : List D → Option (List Int)
  | [] => some []
  | .int b :: ds => match nums ds with
    | some bs => some (b :: bs)
    | none => none
  | _ :: _ => none
theorem bls_rep {K : PySem.W.Frag} {g : G} : ∀ {ds : List D} {vs : List V} {bs : List Bool}, RepL K g ds vs → bls ds = some bs → vs = bs.map V.bl
  | [], vs, bs, r, e => by
    have r' : vs = [] := r
    simp only [bls, Option.some.injEq] at e
    subst r' e
    rfl
  | d :: ds, vs, bs, r, e => by
    obtain ⟨v, vr, e1, h1, h2⟩ := r
    subst e1
    unfold bls at e
    split at e
    · cases ‹_ :: _ = []›
    · rename_i b ds' he
      cases he
      split at e
      · rename_i bs' hb
        cases e
        have h1' : v = .bl b := h1
        rw [h1', bls_rep h2 hb]
        rfl
      · cases e
    · cases e
theorem nums_rep {K : PySem.W.Frag} {g : G} : ∀ {ds : List D} {vs : List V} {bs : List Int}, RepL K g ds vs → nums ds = some bs → vs = bs.map V.int
  | [], vs, bs, r, e => by
    have r' : vs = [] := r
    simp only [nums, Option.some.injEq] at e
    subst r' e
    rfl
  | d :: ds, vs, bs, r, e => by
    obtain ⟨v, vr, e1, h1, h2⟩ := r
    subst e1
    unfold nums at e
    split at e
    · cases ‹_ :: _ = []›
    · rename_i b ds' he
      cases he
      split at e
      · rename_i bs' hb
        cases e
        have h1' : v = .int b := h1
        rw [h1', nums_rep h2 hb]
        rfl
      · cases e
    · cases e
theorem bls_map : ∀ bs : List Bool, bls (bs.map .bl) = some bs
  | [] => rfl
  | b :: bs => by simp only [List.map_cons, bls, bls_map bs]
theorem nums_map : ∀ bs : List Int, nums (bs.map .int) = some bs
  | [] => rfl
  | b :: bs => by simp only [List.map_cons, nums, nums_map bs]
def oAll : O1 := fun d cs Q => ∃ ds bs, lstOf cs d = some ds ∧ bls ds = some bs ∧ Q (.bl (bs.all id)) cs
def oAny : O1 := fun d cs Q => ∃ ds bs, lstOf cs d = some ds ∧ bls ds = some bs ∧ Q (.bl (bs.any id)) cs
def oSum : O1 := fun d cs Q => ∃ ds ns, lstOf cs d = some ds ∧ nums ds = some ns ∧ Q (.int ns.sum) cs
theorem cd_all (hc : X.calm = true) : CallD X (.builtin "all") (o1 oAll) := cd1 (fun d cs Q Q' h ⟨ds, bs, e, e2, q⟩ => ⟨ds, bs, e, e2, h _ _ q⟩) fun pins s σ H x u Q g cs d I ru rv sr r ⟨ds, bs, e, e2, q⟩ => by
  obtain ⟨p, vs, e1, h1, h2⟩ := lst_of sr e r
  subst e1
  rw [bls_rep h2 e2] at h1
  exact cr_all hc pins s σ H _ _ Q I rv ⟨p, bs, rfl, h1, q g H _ (Ext.refl g) sr rfl⟩
theorem cd_any (hc : X.calm = true) : CallD X (.builtin "any") (o1 oAny) := cd1 (fun d cs Q Q' h ⟨ds, bs, e, e2, q⟩ => ⟨ds, bs, e, e2, h _ _ q⟩) fun pins s σ H x u Q g cs d I ru rv sr r ⟨ds, bs, e, e2, q⟩ => by
  obtain ⟨p, vs, e1, h1, h2⟩ := lst_of sr e r
  subst e1
  rw [bls_rep h2 e2] at h1
  exact cr_any hc pins s σ H _ _ Q I rv ⟨p, bs, rfl, h1, q g H _ (Ext.refl g) sr rfl⟩
theorem cd_sum (hc : X.calm = true) : CallD X (.builtin "sum") (o1 oSum) := cd1 (fun d cs Q Q' h ⟨ds, bs, e, e2, q⟩ => ⟨ds, bs, e, e2, h _ _ q⟩) fun pins s σ H x u Q g cs d I ru rv sr r ⟨ds, bs, e, e2, q⟩ => by
  obtain ⟨p, vs, e1, h1, h2⟩ := lst_of sr e r
  subst e1
  rw [nums_rep h2 e2] at h1
  exact cr_sum hc pins s σ H _ _ Q I rv ⟨p, bs, rfl, h1, q g H _ (Ext.refl g) sr rfl⟩
/-! ### isinstance -/
def tyD (cs : Sto) : D → Option String
  | .non => some "NoneType"
  | .bl _ => some "bool"
  | .int _ => some "int"
  | .str _ => some "str"
  | .tup _ => some "tuple"
  | .lst _ => some "list"
  | .dic _ => some "dict"
  | .cell i => match cs[i]? with
    | some (.lst _) => some "list"
    | some (.dic _) => some "dict"
    | _ => none
  | _ => none
theorem ty_rep {K : PySem.W.Frag} {g : G} {cs : Sto} {H : Hp} (s : Sr K g cs H) {d : D} {v : V} {T : String} (e : tyD cs d = some T) (r : Rep K g d v) : TyX K H v (.type T) := by
  unfold tyD at e
  split at e
  · cases e; cases r; exact .base .non
  · cases e; cases r; exact .base (.bl _)
  · cases e; cases r; exact .base (.int _)
  · cases e; cases r; exact .base (.str _)
  · cases e
    obtain ⟨p, vs, e1, h1, h2⟩ := r
    subst e1
    rcases sqT_mono s.le h1 with (h | ⟨o, h⟩) | ⟨o, its, n, h, hc, _⟩
    · exact .base (.tup h)
    · exact .fTuple h
    · exact .kTuple h hc
  · cases e
    obtain ⟨p, vs, e1, h1, h2⟩ := r
    subst e1
    exact .base (.lst (s.le _ _ h1))
  · cases e
    obtain ⟨p, vs, e1, h1, h2⟩ := r
    subst e1
    exact .base (.dK (s.le _ _ h1))
  · split at e
    · rename_i i ds hc
      cases e
      obtain ⟨p, e1, h1⟩ := r
      subst e1
      obtain ⟨vs, q1, q2, q3⟩ := s.ok _ p _ h1 hc
      exact .base (.lst q1)
    · rename_i i ds hc
      cases e
      obtain ⟨p, e1, h1⟩ := r
      subst e1
      obtain ⟨vs, q1, q2, q3⟩ := s.ok _ p _ h1 hc
      exact .base (.dK q1)
    · cases e
  · cases e
/-- isinstance(x, t), t any tuple that stands -/
theorem isi_any (pins : List (Addr × Obj)) (s : Shared) (σ : L2.St) (H : Hp) (us : List Value) (Q : VK) {x : V} {p : Addr} {vs : List V} {ws : List Value} {t : Value} {b : Bool} (I : Inv X pins σ H s) (r : Vals [x, .ref p] us) (hT : SqT X.K H p vs) (hw : Paired ClsV vs ws) (ty : TyX X.K H x t)
    (e : PySem.W.kitAny X.K t ws = some b) (q : Q (.bl b) H) : wpAny (model X.prog X.w) X.A (call (.builtin "isinstance") us) (EP X pins σ Q) X.xe s := by
  obtain ⟨u1, u2, rfl, r1, r2⟩ := vals2 r
  cases (show u2 = Value.ref p from r2)
  obtain ⟨P, Z, pz, hx⟩ := kit_of I r1 ty
  obtain ⟨its, rv, ⟨o, h1, h2, n, h3⟩, _⟩ := I.tuple hT
  have e3 := ClsV.all hw rv
  subst e3
  obtain ⟨oc, od, dt, sl⟩ := o
  simp only at h2 h3
  subst h2 h3
  exact PySem.W.kia_tup Z I.kIn pz h1 e hx fun tk => ⟨.bl b, H, I.tok tk, rfl, q⟩
/-- some of several built-in types -/
def kitAnyB (T : String) : List D → Option Bool
  | [] => some false
  | .ty n :: ds => match kitB T n with
    | some b => match kitAnyB T ds with
      | some r => some (b || r)
      | none => none
    | none => none
  | _ :: _ => none
theorem kitAnyB_rep {K : PySem.W.Frag} {g : G} {T : String} : ∀ {ds : List D} {vs : List V} {b : Bool}, kitAnyB T ds = some b → RepL K g ds vs → ∃ us, Paired ClsV vs us ∧ PySem.W.kitAny K (.type T) us = some b
  | [], vs, b, e, r => by
    have r' : vs = [] := r
    subst r'
    simp only [kitAnyB, Option.some.injEq] at e
    subst e
    exact ⟨[], .nil, rfl⟩
  | d :: ds, vs, b, e, r => by
    obtain ⟨v, vr, e1, h1, h2⟩ := r
    subst e1
    unfold kitAnyB at e
    split at e
    · cases ‹_ :: _ = []›
    · rename_i n ds' he
      cases he
      have h1' : v = .ty n := h1
      subst h1'
      split at e
      · rename_i k hk
        split at e
        · rename_i r hr
          cases e
          obtain ⟨us, hu, hq⟩ := kitAnyB_rep hr h2
          refine ⟨_, .cons (.ty n) hu, kitAny_cons (kit_ty hk) (fun hb => ?_) (fun hb => by rw [hb]; rfl)⟩
          rw [hb]
          exact hq
        · cases e
      · cases e
    · cases e
def oIsi : OC := fun ds cs Q => match ds with
  | [d, .ty n] => ∃ T b, tyD cs d = some T ∧ kitB T n = some b ∧ Q (.bl b) cs
  | [d, .tup ns] => ∃ T b, tyD cs d = some T ∧ kitAnyB T ns = some b ∧ Q (.bl b) cs
  | _ => False
theorem cd_isi : CallD X (.builtin "isinstance") oIsi := .mk' (fun ds cs Q Q' h q => by
    unfold oIsi at q ⊢
    split at q
    · obtain ⟨T, b, e1, e2, q⟩ := q
      exact ⟨T, b, e1, e2, h _ _ q⟩
    · obtain ⟨T, b, e1, e2, q⟩ := q
      exact ⟨T, b, e1, e2, h _ _ q⟩
    · exact q) fun pins s σ H xs us Q g cs ds I r sr r1 q => by
  unfold oIsi at q
  split at q
  · obtain ⟨T, b, e1, e2, q⟩ := q
    obtain ⟨v, vr, f1, h1, v2, vr2, f2, h2, h3⟩ := r1
    have h3' : vr2 = [] := h3
    subst f1 f2 h3'
    have h2' : v2 = .ty _ := h2
    subst h2'
    exact call_isi pins s σ H _ us Q I r ⟨_, _, _, _, b, rfl, .ty _, ty_rep sr e1 h1, kit_ty e2, q g H _ (Ext.refl g) sr rfl⟩
  · obtain ⟨T, b, e1, e2, q⟩ := q
    obtain ⟨v, vr, f1, h1, v2, vr2, f2, h2, h3⟩ := r1
    have h3' : vr2 = [] := h3
    subst f1 f2 h3'
    obtain ⟨p, vs, f3, h4, h5⟩ := h2
    subst f3
    obtain ⟨ws, hw, hq⟩ := kitAnyB_rep (K := X.K) e2 h5
    exact isi_any pins s σ H us Q I r (sqT_mono sr.le h4) hw (ty_rep sr e1 h1) hq (q g H _ (Ext.refl g) sr rfl)
  · exact q.elim
end
end DL

/-! DIter: enumerate and zip over data, repr. -/
namespace DL
open PySem PySem.Spec L2
open RZ (ItzT pi_zipA)
variable [Tbs]

theorem en_make {v : Value} {o : Obj} {S : Heap → Prop} (B : Begins v o S) :
    Meets (Builtin.«enumerate.__new__» ⟨[.type "enumerate", v], []⟩) (fun _ R s => S s.heap ∧
      R (.ok (.ret (.ref (s.heap.push o).objs.size))) { s with heap := (s.heap.push o).push { cls := .type "enumerate", data := .fields #[.none, .bool false, .ref s.heap.objs.size, rawInt 0, .none, .none] } }) :=
  .of_wp fun prog w A R s h => by
    obtain ⟨hp, g, d, tk, os⟩ := s
    obtain ⟨h1, h⟩ := h
    have isub := sub_enumerate
    have begin_ : ∀ {A' : Around} {E : Value → Shared → Prop} {Q : Value → Shared → Prop}, Q (.ref hp.objs.size) ⟨hp.push o, g, d, tk, os⟩ → wpAny (model prog w) A' (pyIter v) Q E ⟨hp, g, d, tk, os⟩ := fun q => B.iter prog w _ _ ⟨hp, g, d, tk, os⟩ _ h1 q
    wp_walk using begin_
    refine wpAny_stack_any fun st => wpAny_pure ?_
    split
    · rename_i c _ _ _ _ _
      cases (c == Value.type "enumerate") <;> (wp_walk using begin_; exact ⟨_, rfl, h⟩)
    · wp_walk using begin_
      exact ⟨_, rfl, h⟩
theorem en_call {prog : Program} {w : World} {A : Around} {E : Value → Shared → Prop} {s : Shared} {v : Value} {o : Obj} {S : Heap → Prop} {Q : Value → Shared → Prop} (B : Begins v o S) (h1 : S s.heap)
    (h : ∀ h', IsEnum h' (s.heap.objs.size + 1) s.heap.objs.size 0 .none → h'.get? s.heap.objs.size = some o → (∀ b u, s.heap.get? b = some u → h'.get? b = some u) → Q (.ref (s.heap.objs.size + 1)) { s with heap := h' }) :
    wpAny (model prog w) A (call (.type "enumerate") [v]) Q E s := by
  refine callType_new F.called_enumerate (by decide) (F.typeCall_enumerate_1 _) (F.newCall_enumerate_1 _) (fun obj => F.args_object_init_2 obj _) F.entry_enumerate_new (en_make B) ⟨h1, ?_⟩
  have sz : (s.heap.push o).objs.size = s.heap.objs.size + 1 := Heap.size_push ..
  show _ ∧ _
  rw [sz]
  have last := Heap.get?_push_size (s.heap.push o) (o := { cls := .type "enumerate", data := .fields #[.none, .bool false, .ref s.heap.objs.size, rawInt 0, .none, .none] }) rfl
  rw [sz] at last
  exact ⟨⟨_, last, rfl⟩, h _ last (Heap.get?_push_of_some _ (Heap.get?_push_size _ B.free)) fun b u x => Heap.get?_push_of_some _ (Heap.get?_push_of_some _ x)⟩
theorem en_end {prog : Program} {w : World} {A : Around} {E : Value → Shared → Prop} {s : Shared} {e it t : Addr} {i : Nat} {items : Array Value} {old : Value} {Q : Option Value → Shared → Prop} (hh : A.handled = none)
    (he : IsEnum s.heap e it i old) (hit : s.heap.IsTupleIter it t i) (ht : s.heap.IsTuple t items) (hx : items[i]? = none) (hQ : ∀ h', Heap.ExtBut it s.heap h' → Q none { s with heap := h' }) : wpAny (model prog w) A (pyNext (.ref e)) Q E s := by
  have T : s.TypeIs (.ref e) "enumerate" := ⟨_, he, rfl⟩
  unfold pyNext
  refine wpAny_bind (wpAny_attempt (wpAny_callSpecial?_slot (name := Str.ofString "__next__") T F.slot_enumerate_next (wpAny_call_entry F.slot_enumerate_next T F.entry_enumerate_next ?_ (F.args_enumerate_next_1 _))))
  show wpAny _ _ (field (.ref e) 2 >>= _) _ _ _
  refine wpAny_bind (wpAny_field he rfl (x := .ref it) rfl (wpAny_bind (wpAny_nextOf_tuple_end hh hit ht hx fun h' x eb hx' => ?_)))
  obtain ⟨o, ho, hc⟩ := hx'
  exact wpAny_bind (wpAny_isInstance (T := "StopIteration") (b := true) ⟨o, ho, hc⟩ isSubtype_stop (wpAny_pure (hQ _ eb)))
/-- the tuple at a, its items in new pairs behind their numbers -/
def ItenT (K : PySem.W.Frag) (a : Addr) : It :=
  ⟨fun i H => ∃ (xs : List V) (x : V), SqT K H a xs ∧ xs[i]? = some x, fun i H v H' => ∃ T x, v = .ref T ∧ H T = none ∧ H' = upd H T (.tup [.int (i : Nat), x]) ∧ ∀ xs, SqT K H a xs → xs[i]? = some x, fun i H => ∃ xs : List V, SqT K H a xs ∧ xs.length ≤ i⟩
theorem turn_enT {P : Program} {w : World} {K : PySem.W.Frag} {elts : List Expr} {kk : Nat} {tpos : Pos} (a e it : Addr) :
    Turn P w K (.Tuple elts kk tpos) (ItenT K a) [e, it] e (fun i h => (∃ old, IsEnum h e it ((i : Nat) : Int) old) ∧ h.IsTupleIter it a i ∧ e ≠ it ∧ a ≠ it ∧ e ≠ a) where
  mem := List.mem_cons_self
  obj := by
    intro i h ⟨⟨old, he⟩, ⟨o, ho, hc, hd⟩, _⟩ b hb
    rcases List.mem_cons.mp hb with z | z
    · rw [z]
      exact ⟨_, he, fun v q => nomatch q⟩
    · exact ⟨o, by rw [List.mem_singleton.mp z]; exact ho, fun v q => by rw [hd] at q; cases q⟩
  keep := by
    intro i h h' ⟨⟨old, he⟩, hi, hne⟩ k
    exact ⟨⟨old, k e (by simp) _ he⟩, hi.at fun o q => k it (by simp) o q, hne⟩
  item := by
    intro X hP hw hK hc i pins s σ H E I hf ⟨⟨old, he⟩, hit, hne, hai, hea⟩ ⟨xs, x, hq, hx⟩
    subst hP hw hK
    obtain ⟨its, rv, p, hz⟩ := I.tuple hq
    obtain ⟨u, hu, ru⟩ := rv.get hx
    have hu' : its.toArray[i]? = some u := by simpa using hu
    have elt : e < s.heap.objs.size := Heap.lt_size he
    have ilt : it < s.heap.objs.size := by obtain ⟨_, q, _⟩ := hit; exact Heap.lt_size q
    have D := Draws.tuple (prog := X.prog) (w := X.w) (A := X.A.in1) (I.ok.hd hc) it a hai its.toArray
    refine wpAny_pyNext_enum_itemD (i := i) D he ⟨hit, show s.heap.IsTuple a its.toArray from p⟩ (by have := (Array.getElem?_eq_some_iff.mp hu').1; exact this) hne (by simp [hne, hea]) fun x' h' tk hx' ho hst hT hsz hk => ?_
    rw [hu'] at hx'
    cases hx'
    refine ⟨_, rfl, wpAny_letOwnedTupleGo_enum (s := { s with heap := h', toks := tk + 1 }) ho fun h'' he' sb => ?_⟩
    have hT2 : h''.get? s.heap.objs.size = some { cls := .type "tuple", data := .seq #[.int i tk, u] } := (sb.2 _ (Nat.ne_of_gt elt)).trans hT
    have made : ObjOk X.prog X.w (upd H s.heap.objs.size (.tup [.int (i : Nat), x])) h'' s.heap.objs.size (.tup [.int (i : Nat), x]) :=
      ⟨by show 2 ≤ sizeLine; decide, [.int i tk, u], .cons ⟨_, rfl⟩ (.cons ru .nil), ⟨_, hT2, rfl, _, rfl⟩⟩
    have I1 : Inv X pins σ (upd H s.heap.objs.size (.tup [.int (i : Nat), x])) { s with heap := h'', toks := tk + 1 } :=
      I.turnedNew (ch := [e, it]) (fun b ob hb q => (sb.2 b (fun z => hb (by simp [z]))).trans (hk b ob (fun z => hb (by simp [z])) (fun z => hb (by simp [z])) q)) hf (Nat.le_refl _) made
    refine ⟨.ref s.heap.objs.size, _, I1, rfl, ⟨_, x, rfl, I.hok.fresh (Nat.le_refl _), rfl, fun ys hy => by rw [I.tuple_inj hy hq]; exact hx⟩, ⟨⟨u, ?_⟩, ?_, hne, hai, hea⟩, fun b hb => ?_⟩
    · rw [show ((i + 1 : Nat) : Int) = (i : Int) + 1 by omega]
      exact he'
    · exact hst.1.at fun o q => (sb.2 it (Ne.symm hne)).trans q
    · have hb' : b < s.heap.objs.size := by
        rcases List.mem_cons.mp hb with z | z
        · rw [z]; exact elt
        · rw [List.mem_singleton.mp z]; exact ilt
      rw [upd_ne (Nat.ne_of_lt hb')]
      exact (hf b hb).1
  done := by
    intro X hP hw hK hc i pins s σ H E I hf ⟨⟨old, he⟩, hit, hne, hai, hea⟩ ⟨xs, hq, hx⟩
    subst hP hw hK
    obtain ⟨its, rv, p, hz⟩ := I.tuple hq
    obtain ⟨f0, f1, f2, f3, f4, f5⟩ := hf it (by simp)
    have hl := rv.length
    refine en_end (I.ok.hd hc) he hit (show s.heap.IsTuple a its.toArray from p) (by simp; omega) fun h' eb => ⟨rfl, I.turned (t' := s.toks) (fun b o hb q => eb b o hb q) f0 f1 f3 f4 f5⟩
  self := fun A i s Q E st h => let ⟨⟨_, he⟩, _⟩ := st; wpAny_pyIter_enum he h

section
variable {X : Cx} {a b : Expr} {wa wb : WE} {pos : Pos}
/-- the iterator of enumerate over a list or a tuple -/
def iEnA (K : PySem.W.Frag) (ta : TA) : TI := fun σ H R => ta σ H fun vs H1 => ∃ p xs, vs = [.ref p] ∧ ((SqL K H1 p xs ∧ R (Ite K p) H1) ∨ (SqT K H1 p xs ∧ R (ItenT K p) H1))
theorem pi_enA {e : Expr} {ta : TA} {p tpos : Pos} {elts : List Expr} {kk : Nat} (hg : Gl X "enumerate") (hm : X.mg "enumerate" = none) (ha : PA X [e] ta) (hs : starEach [e] X.env = [(false, eval e X.env)] := by rfl) :
    PI X (.Tuple elts kk tpos) (.Call (.Name "enumerate" p) [e] [] pos) (iEnA X.K ta) := by
  refine ⟨fun pins s σ H R I h => PyProof.Rows.Call_ (ld_blt I hg hm PyProof.Rows.boot_enumerate (PyProof.Rows.callWith_type1 (thn (ha.run pos pins s σ H _ I h) fun us s1 ⟨vs, H1, I1, r1, q1⟩ => ?_) hs rfl))⟩
  obtain ⟨q, xs, ex, hq⟩ := q1
  subst ex
  obtain ⟨u, rfl, ru⟩ := vals1 r1
  cases (show u = Value.ref q from ru)
  -- the two new cells are young
  have young : ∀ b, b ∈ [s1.heap.objs.size + 1, s1.heap.objs.size] → s1.heap.objs.size ≤ b := fun b hb => by
    rcases List.mem_cons.mp hb with z | z
    · rw [z]; exact Nat.le_add_right _ _
    · rw [List.mem_singleton.mp z]; exact Nat.le_refl _
  rcases hq with ⟨hq, hR⟩ | ⟨hq, hR⟩
  · obtain ⟨its, rv, pl, hz⟩ := I1.list hq
    refine en_call (begins_list q its.toArray) pl.isList fun h' he hit hk => wpAny_pyIter_enum he ?_
    exact ⟨_, [s1.heap.objs.size + 1, s1.heap.objs.size], _, _, H1, rfl, I1.kept (t' := s1.toks) hk, turn_enum q _ s1.heap.objs.size, ⟨⟨.none, he⟩, ⟨_, hit, rfl, rfl⟩, Nat.succ_ne_self _⟩, fun b hb => I1.fpOk (young b hb) (I1.hok.fresh (young b hb)), hR⟩
  · obtain ⟨its, rv, pt, hz⟩ := I1.tuple hq
    have lt := pt.lt
    refine en_call (begins_tuple q its.toArray) (show s1.heap.IsTuple q its.toArray from pt) fun h' he hit hk => wpAny_pyIter_enum he ?_
    exact ⟨_, [s1.heap.objs.size + 1, s1.heap.objs.size], _, _, H1, rfl, I1.kept (t' := s1.toks) hk, turn_enT q _ s1.heap.objs.size, ⟨⟨.none, he⟩, ⟨_, hit, rfl, rfl⟩, Nat.succ_ne_self _, Nat.ne_of_lt lt, Nat.ne_of_gt (Nat.lt_succ_of_lt lt)⟩, fun b hb => I1.fpOk (young b hb) (I1.hok.fresh (young b hb)), hR⟩
/-- pairs of a number and an item -/
def enD : Nat → List D → List D
  | _, [] => []
  | n, d :: ds => .tup [.int (n : Nat), d] :: enD (n + 1) ds
theorem enD_len : ∀ (n : Nat) (ds : List D), (enD n ds).length = ds.length
  | _, [] => rfl
  | n, d :: ds => by simp [enD, enD_len (n + 1) ds]
theorem enD_get : ∀ (n : Nat) (ds : List D) (i : Nat) (d : D), (enD n ds)[i]? = some d → ∃ x, ds[i]? = some x ∧ d = .tup [.int ((n + i : Nat) : Int), x]
  | _, [], i, d, h => by simp [enD] at h
  | n, x :: ds, 0, d, h => by
    simp [enD] at h
    exact ⟨x, rfl, by rw [← h]; rfl⟩
  | n, x :: ds, i + 1, d, h => by
    obtain ⟨y, h1, h2⟩ := enD_get (n + 1) ds i d (by simpa [enD] using h)
    exact ⟨y, by simpa using h1, by rw [h2, show n + 1 + i = n + (i + 1) by omega]⟩
theorem pair_new {K : PySem.W.Frag} {g : G} {cs : Sto} {H : Hp} {d1 d2 : D} {v1 v2 : V} {T : Addr} (s : Sr K g cs H) (h1 : Rep K g d1 v1) (h2 : Rep K g d2 v2) (hn : H T = none) : ∃ g2, Ext g g2 ∧ Sr K g2 cs (upd H T (.tup [v1, v2])) ∧ Rep K g2 (.tup [d1, d2]) (.ref T) :=
  ⟨g.add T _, Ext.add s hn _, s.add hn _, T, [v1, v2], rfl, .of add_at, .cons (h1.mono (Ext.add s hn _)) (.cons (h2.mono (Ext.add s hn _)) .nil)⟩
theorem itd_enL {K : PySem.W.Frag} {g : G} {W : Sto → Prop} {p : Addr} {ds : List D} {vs : List V} (h : g.Z p = some (.lst vs)) (r : RepL K g ds vs) : ItD K g W (Ite K p) (enD 0 ds) := by
  intro g' cs' H e s _
  have h' : SqL K H p vs := .of (s.le _ _ (e.z _ _ h))
  refine ⟨fun i hi => ⟨vs, h', by rw [enD_len] at hi; rw [← r.length]; exact hi⟩, fun i d hd => ?_⟩
  obtain ⟨x, q1, q2⟩ := enD_get 0 ds i d hd
  obtain ⟨v, q3, q4⟩ := r.get q1
  refine ⟨⟨vs, v, h', q3⟩, fun y H' ⟨T, v', e1, hT, e2, q⟩ => ?_⟩
  have := q vs h'
  rw [q3] at this
  cases this
  subst e1 e2 q2
  have e0 : ((0 + i : Nat) : Int) = ((i : Nat) : Int) := by simp
  rw [e0]
  exact pair_new s rfl (Rep.sub e _ _ q4) hT
theorem itd_enT {K : PySem.W.Frag} {g : G} {W : Sto → Prop} {p : Addr} {ds : List D} {vs : List V} (h : SqT K g.Z p vs) (r : RepL K g ds vs) : ItD K g W (ItenT K p) (enD 0 ds) := by
  intro g' cs' H e s _
  have h' : SqT K H p vs := sqT_mono s.le (sqT_mono e.z h)
  refine ⟨fun i hi => ⟨vs, h', by rw [enD_len] at hi; rw [← r.length]; exact hi⟩, fun i d hd => ?_⟩
  obtain ⟨x, q1, q2⟩ := enD_get 0 ds i d hd
  obtain ⟨v, q3, q4⟩ := r.get q1
  refine ⟨⟨vs, v, h', q3⟩, fun y H' ⟨T, v', e1, hT, e2, q⟩ => ?_⟩
  have := q vs h'
  rw [q3] at this
  cases this
  subst e1 e2 q2
  have e0 : ((0 + i : Nat) : Int) = ((i : Nat) : Int) := by simp
  rw [e0]
  exact pair_new s rfl (Rep.sub e _ _ q4) hT
/-- what a list or tuple that stays holds -/
def stay : D → Option (List D)
  | .lst ds => some ds
  | .tup ds => some ds
  | _ => none
def wEnum (w : WA) : WI := fun env cs Q => w env cs fun ds cs' => ∃ d xs, ds = [d] ∧ stay d = some xs ∧ Q (enD 0 xs) wAll cs'
theorem di_enum {e : Expr} {p tpos : Pos} {elts : List Expr} {kk : Nat} {w : WA} (hm : X.mg "enumerate" = none) (ha : DA X [e] w) (hg : Gl X "enumerate" := by rfl) (hs : starEach [e] X.env = [(false, eval e X.env)] := by rfl) :
    DI X (.Tuple elts kk tpos) (.Call (.Name "enumerate" p) [e] [] pos) (wEnum w) := by
  refine ⟨⟨fun pins s σ H R I ⟨g, cs, env, sr, l, h⟩ => (pi_enA hg hm ha.pe hs).run pins s σ H R I ?_⟩, fun env cs Q Q' hq q => ha.mo _ _ _ _ (fun ds cs' ⟨d, xs, e1, e2, q⟩ => ⟨d, xs, e1, e2, hq _ _ _ q⟩) q⟩
  refine lowA.go ha.mo sr l h fun ds cs1 g1 H1 vs ⟨d, xs, e1, e2, q⟩ ex s1 r1 => ?_
  subst e1
  obtain ⟨v, vr, f1, h1, h2⟩ := r1
  have h2' : vr = [] := h2
  subst f1 h2'
  cases d with
  | lst es =>
    cases e2
    obtain ⟨p, us, f2, h3, h4⟩ := h1
    subst f2
    exact ⟨p, us, rfl, .inl ⟨.of (s1.le _ _ h3), q g1 H1 _ ex s1 (itd_enL h3 h4)⟩⟩
  | tup es =>
    cases e2
    obtain ⟨p, us, f2, h3, h4⟩ := h1
    subst f2
    exact ⟨p, us, rfl, .inr ⟨sqT_mono s1.le h3, q g1 H1 _ ex s1 (itd_enT h3 h4)⟩⟩
  | _ => cases e2
/-! ### zip of two lists, of two tuples -/
def zipD : List D → List D → List D
  | d :: ds, e :: es => .tup [d, e] :: zipD ds es
  | _, _ => []
theorem zipD_get : ∀ (ds es : List D) (i : Nat) (d : D), (zipD ds es)[i]? = some d → ∃ x y, ds[i]? = some x ∧ es[i]? = some y ∧ d = .tup [x, y]
  | [], es, i, d, h => by simp [zipD] at h
  | x :: ds, [], i, d, h => by simp [zipD] at h
  | x :: ds, y :: es, 0, d, h => by
    simp [zipD] at h
    exact ⟨x, y, rfl, rfl, h.symm⟩
  | x :: ds, y :: es, i + 1, d, h => by
    obtain ⟨x', y', h1, h2, h3⟩ := zipD_get ds es i d (by simpa [zipD] using h)
    exact ⟨x', y', by simpa using h1, by simpa using h2, h3⟩
theorem zipD_len : ∀ (ds es : List D), (zipD ds es).length = min ds.length es.length
  | [], es => by simp [zipD]
  | x :: ds, [] => by simp [zipD]
  | x :: ds, y :: es => by
    simp only [zipD, List.length_cons, zipD_len ds es]
    omega
theorem itd_zipL {K : PySem.W.Frag} {g : G} {W : Sto → Prop} {p q : Addr} {ds es : List D} {vs us : List V} (h : g.Z p = some (.lst vs)) (h2 : g.Z q = some (.lst us)) (r : RepL K g ds vs) (r2 : RepL K g es us) : ItD K g W (Itz K p q) (zipD ds es) := by
  intro g' cs' H e s _
  have h' : SqL K H p vs := .of (s.le _ _ (e.z _ _ h))
  have h2' : SqL K H q us := .of (s.le _ _ (e.z _ _ h2))
  refine ⟨fun i hi => ⟨vs, us, h', h2', by rw [zipD_len] at hi; rw [← r.length, ← r2.length]; omega⟩, fun i d hd => ?_⟩
  obtain ⟨x, y, q1, q2, q3⟩ := zipD_get ds es i d hd
  obtain ⟨v, k1, k2⟩ := r.get q1
  obtain ⟨u, k3, k4⟩ := r2.get q2
  refine ⟨⟨vs, us, v, u, h', h2', k1, k3⟩, fun z H' ⟨T, v', u', e1, hT, e2, m1, m2⟩ => ?_⟩
  have n1 := m1 vs h'
  have n2 := m2 us h2'
  rw [k1] at n1
  rw [k3] at n2
  cases n1
  cases n2
  subst e1 e2 q3
  exact pair_new s (Rep.sub e _ _ k2) (Rep.sub e _ _ k4) hT
theorem itd_zipT {K : PySem.W.Frag} {g : G} {W : Sto → Prop} {p q : Addr} {ds es : List D} {vs us : List V} (h : SqT K g.Z p vs) (h2 : SqT K g.Z q us) (r : RepL K g ds vs) (r2 : RepL K g es us) : ItD K g W (ItzT K p q) (zipD ds es) := by
  intro g' cs' H e s _
  have h' : SqT K H p vs := sqT_mono s.le (sqT_mono e.z h)
  have h2' : SqT K H q us := sqT_mono s.le (sqT_mono e.z h2)
  refine ⟨fun i hi => ⟨vs, us, h', h2', by rw [zipD_len] at hi; rw [← r.length, ← r2.length]; omega⟩, fun i d hd => ?_⟩
  obtain ⟨x, y, q1, q2, q3⟩ := zipD_get ds es i d hd
  obtain ⟨v, k1, k2⟩ := r.get q1
  obtain ⟨u, k3, k4⟩ := r2.get q2
  refine ⟨⟨vs, us, v, u, h', h2', k1, k3⟩, fun z H' ⟨T, v', u', e1, hT, e2, m1, m2⟩ => ?_⟩
  have n1 := m1 vs h'
  have n2 := m2 us h2'
  rw [k1] at n1
  rw [k3] at n2
  cases n1
  cases n2
  subst e1 e2 q3
  exact pair_new s (Rep.sub e _ _ k2) (Rep.sub e _ _ k4) hT
def wZip (w : WA) : WI := fun env cs Q => w env cs fun ds cs' => ∃ xs ys, (ds = [.lst xs, .lst ys] ∨ ds = [.tup xs, .tup ys]) ∧ Q (zipD xs ys) wAll cs'
theorem di_zip {e e2 : Expr} {p tpos : Pos} {elts : List Expr} {kk : Nat} {w : WA} (hm : X.mg "zip" = none) (ha : DA X [e, e2] w) (hg : Gl X "zip" := by rfl) (he : starEach (e :: [e2]) X.env = (false, eval e X.env) :: starEach [e2] X.env := by rfl) (hpl : (backTo pos (starEach [e2] X.env)).any (·.1) = false := by rfl) :
    DI X (.Tuple elts kk tpos) (.Call (.Name "zip" p) [e, e2] [] pos) (wZip w) := by
  refine ⟨⟨fun pins s σ H R I ⟨g, cs, env, sr, l, h⟩ => (pi_zipA (hg := hg) (hm := hm) (ha := ha.pe) he hpl).run pins s σ H R I ?_⟩, fun env cs Q Q' hq q => ha.mo _ _ _ _ (fun ds cs' ⟨xs, ys, e1, q⟩ => ⟨xs, ys, e1, hq _ _ _ q⟩) q⟩
  refine lowA.go ha.mo sr l h fun ds cs1 g1 H1 vs ⟨xs, ys, e1, q⟩ ex s1 r1 => ?_
  rcases e1 with e1 | e1
  · subst e1
    obtain ⟨v, vr, f1, h1, v2, vr2, f2, h2, h3⟩ := r1
    have h3' : vr2 = [] := h3
    subst f1 f2 h3'
    obtain ⟨p, us, f3, h4, h5⟩ := h1
    obtain ⟨p2, us2, f4, h6, h7⟩ := h2
    subst f3 f4
    exact ⟨p, p2, us, us2, rfl, .inl ⟨.of (s1.le _ _ h4), .of (s1.le _ _ h6), q g1 H1 _ ex s1 (itd_zipL h4 h6 h5 h7)⟩⟩
  · subst e1
    obtain ⟨v, vr, f1, h1, v2, vr2, f2, h2, h3⟩ := r1
    have h3' : vr2 = [] := h3
    subst f1 f2 h3'
    obtain ⟨p, us, f3, h4, h5⟩ := h1
    obtain ⟨p2, us2, f4, h6, h7⟩ := h2
    subst f3 f4
    exact ⟨p, p2, us, us2, rfl, .inr ⟨sqT_mono s1.le h4, sqT_mono s1.le h6, q g1 H1 _ ex s1 (itd_zipT h4 h6 h5 h7)⟩⟩
/-! ### repr -/
mutual
theorem noDict_toPy : ∀ (d : D) (p : PyData), toPy d = some p → p.hasDict = false
  | .non, p, e => by simp only [toPy, Option.some.injEq] at e; subst e; simp only [PyData.hasDict]
  | .bl b, p, e => by simp only [toPy, Option.some.injEq] at e; subst e; simp only [PyData.hasDict]
  | .int i, p, e => by simp only [toPy, Option.some.injEq] at e; subst e; simp only [PyData.hasDict]
  | .str x, p, e => by simp only [toPy, Option.some.injEq] at e; subst e; simp only [PyData.hasDict]
  | .tup ds, p, e => by
    unfold toPy at e
    split at e
    · rename_i ps hp
      cases e
      simp only [PyData.hasDict]
      exact noDict_toPyL ds ps hp
    · cases e
  | .lst ds, p, e => by
    unfold toPy at e
    split at e
    · rename_i ps hp
      cases e
      simp only [PyData.hasDict]
      exact noDict_toPyL ds ps hp
    · cases e
  | .ty _, _, e => by simp [toPy] at e
  | .ref _, _, e => by simp [toPy] at e
  | .dic _, _, e => by simp [toPy] at e
  | .obj _ _, _, e => by simp [toPy] at e
  | .cell _, _, e => by simp [toPy] at e
  | .scr _, _, e => by simp [toPy] at e
  | .err _ _, _, e => by simp [toPy] at e
theorem noDict_toPyL : ∀ (ds : List D) (ps : List PyData), toPyL ds = some ps → PyData.hasDictAll ps = false
  | [], ps, e => by simp only [toPyL, Option.some.injEq] at e; subst e; simp only [PyData.hasDictAll]
  | d :: ds, ps, e => by
    unfold toPyL at e
    split at e
    · rename_i p hp
      split at e
      · rename_i qs hq
        cases e
        simp only [PyData.hasDictAll, noDict_toPy d p hp, noDict_toPyL ds qs hq, Bool.or_self]
      · cases e
    · cases e
end
theorem noDict_pyOf {cs : Sto} {d : D} {p : PyData} (e : pyOf cs d = some p) : p.hasDict = false := by
  unfold pyOf at e
  split at e
  · split at e
    · split at e
      · cases e
        simp only [PyData.hasDict]
        exact noDict_toPyL _ _ ‹_›
      · cases e
    · cases e
  · exact noDict_toPy _ p e
def oRepr : O1 := fun d cs Q => ∃ p, pyOf cs d = some p ∧ p.showable = true ∧ p.shown.length ≤ sizeLine ∧ p.depth ≤ 60 ∧ Q (.str p.shown) cs
theorem cd_repr (hg : X.A.guards = some []) (hu : X.A.units + 64 < cLine) : CallD X (.builtin "repr") (o1 oRepr) := cd1 (fun d cs Q Q' h ⟨p, e1, e2, e3, e4, q⟩ => ⟨p, e1, e2, e3, e4, h _ _ q⟩) fun pins s σ H x u Q g cs d I ru rv sr r ⟨p, e1, e2, e3, e4, q⟩ => by
  obtain ⟨as, rd⟩ := Dp.reads I p x u (dp_pyOf sr e1 r) ru
  have fin : ∀ h' t tk, (∀ b o, s.heap.get? b = some o → h'.get? b = some o) → EP X pins σ Q (.str p.shown t) { s with heap := h', toks := tk } := fun h' t tk hk => ⟨.str p.shown, H, I.kept hk, ⟨t, rfl⟩, q g H _ (Ext.refl g) sr rfl⟩
  cases x with
  | ref a =>
    cases (show u = Value.ref a from ru)
    exact repr_of_reads' rd e2 (fun h => by rw [noDict_pyOf e1] at h; cases h) hg (by omega) (fun _ _ e => e) (fun h' t tk hk => fin h' t tk hk) e3
  | int i =>
    obtain ⟨t, rfl⟩ := ru
    have hp : p = .int i := by
      cases rd
      rfl
    subst hp
    exact PySem.P.repr_of_int (by simpa [PyData.showable] using e2) (by simpa only [PyData.shown] using fin s.heap s.toks (s.toks + 1) fun _ _ e => e)
  | bl b =>
    cases (show u = Value.bool b from ru)
    have hp : p = .bool b := by
      cases rd
      rfl
    subst hp
    exact PySem.P.repr_of_bool (by simpa only [PyData.shown] using fin s.heap s.toks (s.toks + 1) fun _ _ e => e)
  | non =>
    cases (show u = Value.none from ru)
    have hp : p = .none := by
      cases rd
      rfl
    subst hp
    exact PySem.P.repr_of_none (by simpa only [PyData.shown] using fin s.heap s.toks (s.toks + 1) fun _ _ e => e)
  | str y =>
    obtain ⟨t, rfl⟩ := ru
    have hp : p = .str y := by
      cases rd
      rfl
    subst hp
    exact PySem.P.repr_of_str (by simpa only [PyData.shown] using fin s.heap s.toks (s.toks + 1) fun _ _ e => e) (by simpa only [PyData.shown] using e3)
  | byt y => obtain ⟨t, rfl⟩ := ru; cases rd
  | flt y => obtain ⟨t, rfl⟩ := ru; cases rd
  | ty n => cases (show u = Value.type n from ru); cases rd
end
end DL

/-! DEnd: a changing list that stays from a statement on; methods of lists; the end of a law. -/
namespace DL
open PySem PySem.Spec L2
open PyProof.Rows (IntsAre)
variable [Tbs]

/-- from here on the list in slot i stays -/
def wFrz (i : Nat) (u : WS) : WS := fun E env cs => ∃ n ds, env[i]? = some (some (.cell n)) ∧ cs[n]? = some (.lst ds) ∧ u E (env.set i (some (.lst ds))) (cs.set n .dead)
theorem dss_frz {X : Cx} {sts : List Stmt} {u : WS} (i : Nat) (h : DSs X sts u) : DSs X sts (wFrz i u) := by
  refine ⟨PSs.imp h.pe fun D σ H ⟨g, cs, env, s, l, n, ds, e1, e2, hu⟩ => ?_, fun E E' env cs hE ⟨n, ds, e1, e2, hu⟩ => ⟨n, ds, e1, e2, h.mo _ _ _ _ hE hu⟩⟩
  obtain ⟨v, q1, a, ev, q2⟩ := l.ok i _ e1
  subst ev
  obtain ⟨vs, r1, r2, r3⟩ := s.ok n a _ q2 e2
  obtain ⟨s2, ex⟩ := s.freeze q2 e2 r1 r3
  refine ⟨_, _, _, s2, ?_, h.mo _ _ _ _ (upN.mono ex D) hu⟩
  have l2 := (l.mono ex).set (i := i) (d := .lst ds) (v := .ref a) ⟨a, vs, rfl, add_at, r2.mono ex⟩
  have es : σ.set i (some (.ref a)) = σ := by
    apply List.ext_getElem?
    intro j
    by_cases hj : i = j
    · subst hj
      rw [List.getElem?_set_self (List.getElem?_eq_some_iff.mp q1).1, q1]
    · rw [List.getElem?_set_ne hj]
  rw [es] at l2
  exact l2
section
variable {X : Cx} {a b : Expr} {wa wb : WE} {pos : Pos}
end
/-- a constant of the module -/
structure KonD (K : PySem.W.Frag) (mg : Str → Option Value) (x : Str) (d : D) : Prop where
  it : ∃ u v, mg x = some u ∧ RelV v u ∧ ∀ g, Rep K g d v
theorem KonD.de {X : Cx} {x : Str} {d : D} {pos : Pos} (k : KonD X.K X.mg x d) (hg : Gl X x) (hd : (x == ("__debug__" : Str)) = false := by decide) : DE X (.Name x pos) (wC d) := by
  obtain ⟨u, v, h1, h2, h3⟩ := k.it
  exact de_glob d hg h1 h2 h3 hd
theorem kon_int {K : PySem.W.Frag} {h : Heap} {mg : Str → Option Value} (X : K.In h) (G : h.Ns mainGlobals mg) {x : Str} {i : Int} {t : Tok} (q : PySem.W.nsIn K mainGlobals x = some (some (.int i t))) : KonD K mg x (.int i) :=
  ⟨_, .int i, PySem.W.mg_of X G q, ⟨t, rfl⟩, fun _ => rfl⟩
/-- x += y -/
def oIadd : O2 := fun d1 d2 cs Q => match d1, d2 with
  | .int i, .int j => Q (.int (i + j)) cs
  | .str x, .str y => x.length + y.length ≤ sizeLine ∧ Q (.str (x ++ y)) cs
  | _, _ => False
theorem opd_iadd {X : Cx} : OpD X (inplaceOp .Add) oIadd := by
  refine .mk' (fun d1 d2 cs Q Q' h q => ?_) fun pins s σ H x y v u Q g cs d1 d2 I rx ry sr r1 r2 q => ?_
  · unfold oIadd at q ⊢
    split at q
    · exact h _ _ q
    · exact ⟨q.1, h _ _ q.2⟩
    · exact q
  · unfold oIadd at q
    split at q
    · cases r1; cases r2
      exact iop_add pins s σ H _ _ v u Q I rx ry ⟨_, _, rfl, rfl, q g H _ (Ext.refl g) sr rfl⟩
    · cases r1; cases r2
      exact iop_add_str pins s σ H _ _ v u Q I rx ry ⟨_, _, rfl, rfl, q.1, q.2 g H _ (Ext.refl g) sr rfl⟩
    · exact q.elim
/-- what the law gives: True at every list of ints -/
def spLaw (n : Nat) : FSpec := { ι := { ns : List Int // ns.length ≤ n }, args := fun ns => [.scr ns.1], pre := fun _ cs => cs = [], res := fun _ _ d _ => d = .bl true }
omit [Tbs] in
theorem walk_D {l : PySem.W.OpenLaw} {n k : Nat} {q : Program} {loose : List Str} {XP : (Str → Option Value) → Heap → Prop} {YP : World → Heap → Prop} {d : DefRec} {K : Params → PySem.W.Frag} {x : Str}
    (hn : l.most = some n) (hn2 : n ≤ sizeLine) (hdf : d.params.defaults = []) (hr : RoomG k callerA) (hY : ∀ (w : World) (h : Heap), YP w h → (K w.params).In h)
    (F : ∀ (w : World) (mg : Str → Option Value) (fa : Addr) (h : Heap), (K w.params).In h → h.Ns mainGlobals mg → mg d.name = some (.ref fa) →
      ∃ fd : FuncData, (∀ (s : Shared) (u : Value), BindsTo s fd ⟨[u], []⟩ [(x, u)]) ∧ ∀ base : Heap, (K w.params).In base → base.Ns mainGlobals mg → FnG l.prog w (K w.params) mg base CX0 k fa fd [x] (@dSp ⟨[]⟩ (K w.params) (spLaw n))) :
    PySem.W.WalkO q loose XP YP l.row.toRowW d [] (fun f vs => PySem.call f vs) := by
  refine Att.attach_call hn hdf fun w s₀ s mg mb fa o pm cd doc a vs ns Gr Y ho hd hcd hmg hobj hints hlen hg => ?_
  have KX := hY w _ Y
  obtain ⟨fd, hb, hF⟩ := F w mg fa _ KX Gr.T.g hmg
  have rv := vals_ints hints
  have hl : ns.length ≤ sizeLine := Nat.le_trans hlen hn2
  have lenV := hints.length
  -- some abstract heap in which nothing but the script may stand, locked
  obtain ⟨H, only, seq, hok, free⟩ : ∃ H : Hp, (∀ b, H b = none ∨ ∃ ob xs, H b = some (.frz ob (.lst xs))) ∧ SqL (K w.params) H a (ns.map V.int) ∧ HOk l.prog w H s.heap ∧ ∀ b, H b ≠ none → b = a ∧ (K w.params).lookup a = none := by
    cases hk : (K w.params).lookup a with
    | some ob =>
      have e := KX a ob hk
      rw [hobj] at e
      cases e
      exact ⟨fun _ => none, fun _ => .inl rfl, .inr ⟨_, vs.toArray, _, hk, rfl, rfl, rfl, by rw [List.size_toArray, lenV]; exact hl, by simpa using rv⟩, fun b u z => (by cases (show (none : Option HO) = some u from z)), fun b z => absurd rfl z⟩
    | none =>
      refine ⟨upd (fun _ => none) a (.frz { cls := .type "list", data := .seq vs.toArray } (.lst (ns.map V.int))), fun b => ?_, .inl (.inr ⟨_, upd_same⟩), fun b u z => ?_, fun b z => ?_⟩
      · by_cases e : b = a
        · exact .inr ⟨_, _, by rw [e]; exact upd_same⟩
        · exact .inl (upd_ne e)
      · by_cases e : b = a
        · subst e
          rw [upd_same] at z
          cases z
          exact ⟨hobj, by rw [List.length_map]; exact hl, vs, _, rv, hobj⟩
        · rw [upd_ne e] at z
          cases z
      · by_cases e : b = a
        · exact ⟨e, rfl⟩
        · exact absurd (upd_ne e) z
  have nons : ∀ {b : Addr} {m : Str → Option Value}, s.heap.Ns b m → (hidT s.heap H).Ns b m := fun {b m} ⟨ob, es, ep, e, dd, r⟩ => ⟨ob, es, ep, hidT_get e (by
    cases z : H b with
    | none => rfl
    | some u =>
      obtain ⟨rfl, _⟩ := free b (by rw [z]; simp)
      rw [hobj] at e
      cases e
      cases (show Data.seq vs.toArray _ = Data.dict es ep from dd)), dd, r⟩
  have Kb : (K w.params).In (hidT s.heap H) := fun b ob e => hidT_get (KX b ob e) (by
    cases z : H b with
    | none => rfl
    | some u =>
      obtain ⟨rfl, z2⟩ := free b (by rw [z]; simp)
      rw [z2] at e
      cases e)
  have M : Mod (K w.params) mg (hidT s.heap H) := ⟨Kb, nons Gr.T.g, ⟨mb, nons Gr.T.b, Gr.T.builtins⟩, let ⟨mc, h1, h2⟩ := Gr.T.nolimit; ⟨mc, nons h1, h2⟩⟩
  have e0 : Env0 l.prog w (K w.params) mg (hidT s.heap H) callerA [] s H := ⟨rfl, M, fun b ob e => of_hidT e, Nat.le_of_eq (hidT_size _ _), trivial, fun b z => (by cases z), hok, PyProof.Rows.AllBare.of_eq hg⟩
  let _ : Tbs := ⟨[]⟩
  let g0 : G := ⟨H, [], []⟩
  have sr0 : Sr (K w.params) g0 [] H := ⟨fun _ _ e => e, rfl, List.nodup_nil, fun b z => (by cases z), fun i b c z _ => (by cases (show ([] : List Addr)[i]? = some b from z)), fun p z => (by cases z), List.nodup_nil, fun a o e => (by
    rcases only a with z | ⟨ob, xs, z⟩
    · cases z.symm.trans e
    · cases z.symm.trans e
      nofun), fun p z => (by cases z), fun p z => (by cases z)⟩
  have sp0 : dSp (K w.params) (spLaw n) [.ref a] H (fun v _ => v = .bl true) fun _ _ _ => False :=
    ⟨g0, [], ⟨ns, hlen⟩, sr0, .cons ⟨a, rfl, seq⟩ .nil, rfl, fun dd cs' z g' H' v _ _ r => by
      have z' : dd = .bl true := z
      subst z'
      exact r, fun x cs' z => z.elim⟩
  refine codeAny_mono ((hF _ Kb (nons Gr.T.g)).run callerA [] s H ⟨[.ref a], []⟩ [.ref a] [.ref a] _ _ hr e0 (hb s (.ref a)) (.cons rfl .nil) sp0) fun r s' h => ?_
  cases r with
  | error e => exact (show False from h).elim
  | ok fl =>
    cases fl with
    | next => exact h.elim
    | brk => exact h.elim
    | cont => exact h.elim
    | ret u =>
      obtain ⟨v, H', os, bare, un, hok', r', z⟩ := h
      cases (show v = .bl true from z)
      cases (show u = Value.bool true from r')
      refine ⟨rfl, OldK.of_keep fun b ob e => ?_, os, bare⟩
      rcases only b with z | ⟨ob', xs, z⟩
      · exact un.keep b ob e z (by simp [frs]) (by simp)
      · obtain ⟨e1, _⟩ := hok b _ z
        obtain ⟨e2, _⟩ := hok' b _ (un.frzs b ob' _ z)
        rw [e] at e1
        cases e1
        exact e2
end DL

/-! DLib: what loops do, by an invariant; the sieve; sizes of ints. -/
namespace DL
open PySem PySem.Spec L2
variable [Tbs]

/-! ### loops by an invariant -/
theorem for_inv {p : Pat} {wb : WS} {E : DN} {W : Sto → Prop} (I : Nat → En → Sto → Prop) : ∀ (ds : List D) (env : En) (cs : Sto) (h0 : I 0 env cs) (hW : ∀ i env cs, I i env cs → W cs)
    (hs : ∀ i d env cs, ds[i]? = some d → I i env cs → ∃ env', patSet cs p d env = some env' ∧ ∀ E' : DN, (∀ env cs, I (i + 1) env cs → E'.nx env cs) → (∀ env cs, I (i + 1) env cs → E'.ct env cs) → (∀ d cs, E.rt d cs → E'.rt d cs) → (∀ env cs, E.nx env cs → E'.bk env cs) → wb E' env' cs)
    (hd : ∀ env cs, I ds.length env cs → E.nx env cs), floop p wb E W ds env cs
  | [], env, cs, h0, hW, hs, hd => ⟨hW _ _ _ h0, hd _ _ h0⟩
  | d :: ds, env, cs, h0, hW, hs, hd => by
    refine ⟨hW _ _ _ h0, ?_⟩
    obtain ⟨env', e, h⟩ := hs 0 d env cs rfl h0
    rw [e]
    have go : ∀ env cs, I 1 env cs → floop p wb E W ds env cs := fun env cs h1 => for_inv (fun i => I (i + 1)) ds env cs h1 (fun i => hW (i + 1)) (fun i d env cs hi => hs (i + 1) d env cs (by simpa using hi)) (fun env cs => hd env cs)
    exact h _ go go (fun _ _ q => q) (fun _ _ q => q)
theorem lc_inv {p : Pat} {tt : WT} {we : WE} {env : En} {W : Sto → Prop} {Q : PD} (I : Nat → List D → Sto → Prop) : ∀ (ds acc : List D) (cs : Sto) (h0 : I 0 acc cs) (hW : ∀ i acc cs, I i acc cs → W cs)
    (hs : ∀ i d acc cs, ds[i]? = some d → I i acc cs → ∃ env', patSet cs p d env = some env' ∧ ∀ (R1 : PD) (R2 : Sto → Prop), (∀ y cs, I (i + 1) (acc ++ [y]) cs → R1 y cs) → (∀ cs, I (i + 1) acc cs → R2 cs) → tt env' cs fun b cs2 => if b = true then we env' cs2 R1 else R2 cs2)
    (hd : ∀ acc cs, I ds.length acc cs → Q (.lst acc) cs), lcloop p tt we env W Q ds acc cs
  | [], acc, cs, h0, hW, hs, hd => ⟨hW _ _ _ h0, hd _ _ h0⟩
  | d :: ds, acc, cs, h0, hW, hs, hd => by
    refine ⟨hW _ _ _ h0, ?_⟩
    obtain ⟨env', e, h⟩ := hs 0 d acc cs rfl h0
    rw [e]
    have go : ∀ acc cs, I 1 acc cs → lcloop p tt we env W Q ds acc cs := fun acc cs h1 => lc_inv (fun i => I (i + 1)) ds acc cs h1 (fun i => hW (i + 1)) (fun i d acc cs hi => hs (i + 1) d acc cs (by simpa using hi)) (fun acc cs => hd acc cs)
    exact h _ _ (fun y cs h1 => go _ cs h1) (fun cs h1 => go _ cs h1)
/-- a comprehension without a test whose element changes nothing -/
theorem lc_map {p : Pat} {we : WE} {env : En} {W : Sto → Prop} {Q : PD} (f : D → D) {cs : Sto} (hW : W cs) : ∀ (ds acc : List D)
    (hs : ∀ d ∈ ds, ∃ env', patSet cs p d env = some env' ∧ ∀ R : PD, R (f d) cs → we env' cs R) (hd : Q (.lst (acc ++ ds.map f)) cs), lcloop p wYes we env W Q ds acc cs
  | [], acc, hs, hd => ⟨hW, by simpa using hd⟩
  | d :: ds, acc, hs, hd => by
    refine ⟨hW, ?_⟩
    obtain ⟨env', e, h⟩ := hs d List.mem_cons_self
    rw [e]
    show wYes env' cs _
    simp only [wYes, if_true]
    exact h _ (lc_map f hW ds _ (fun d hd => hs d (List.mem_cons_of_mem _ hd)) (by simpa using hd))
/-- with a test -/
theorem lc_filter {p : Pat} {tt : WT} {we : WE} {env : En} {W : Sto → Prop} {Q : PD} (t : D → Bool) (f : D → D) {cs : Sto} (hW : W cs) : ∀ (ds acc : List D)
    (hs : ∀ d ∈ ds, ∃ env', patSet cs p d env = some env' ∧ (∀ R : Bool → Sto → Prop, R (t d) cs → tt env' cs R) ∧ (t d = true → ∀ R : PD, R (f d) cs → we env' cs R)) (hd : Q (.lst (acc ++ (ds.filter t).map f)) cs), lcloop p tt we env W Q ds acc cs
  | [], acc, hs, hd => ⟨hW, by simpa using hd⟩
  | d :: ds, acc, hs, hd => by
    refine ⟨hW, ?_⟩
    obtain ⟨env', e, h1, h2⟩ := hs d List.mem_cons_self
    rw [e]
    refine h1 _ ?_
    have tl : ∀ d ∈ ds, ∃ env', patSet cs p d env = some env' ∧ (∀ R : Bool → Sto → Prop, R (t d) cs → tt env' cs R) ∧ (t d = true → ∀ R : PD, R (f d) cs → we env' cs R) := fun d hd => hs d (List.mem_cons_of_mem _ hd)
    cases ht : t d with
    | true =>
      rw [if_pos rfl]
      refine h2 ht _ (lc_filter t f hW ds _ tl ?_)
      simpa [List.filter_cons, ht] using hd
    | false =>
      rw [if_neg (by simp)]
      refine lc_filter t f hW ds _ tl ?_
      simpa [List.filter_cons, ht] using hd

/-! ### the sieve: its cells, how many were begun, what is left of a great one -/
def svc (ns : List Int) (k r : Int) : CO := .lst [.lst (ns.map .int), .int k, .int r]
def SvN (i n : Nat) (cs : Sto) : Prop := ∃ ns k r, cs[i]? = some (svc ns k r) ∧ 0 ≤ k ∧ k ≤ (n : Int) ∧ ns.length ≤ 60
/-- at i a sieve that has begun at most n cells; all else as it was -/
structure Mv (i n : Nat) (cs cs' : Sto) : Prop where
  sv : SvN i n cs'
  len : cs'.length = cs.length
  el : ∀ j, j ≠ i → cs'[j]? = cs[j]?
theorem SvN.mono {i n m : Nat} {cs : Sto} (h : SvN i n cs) (l : n ≤ m) : SvN i m cs := by
  obtain ⟨ns, k, r, e, h0, h1, h2⟩ := h
  exact ⟨ns, k, r, e, h0, by omega, h2⟩
theorem Mv.refl {i n : Nat} {cs : Sto} (h : SvN i n cs) : Mv i n cs cs := ⟨h, rfl, fun _ _ => rfl⟩
theorem Mv.trans {i n m : Nat} {cs cs1 cs2 : Sto} (a : Mv i n cs cs1) (b : Mv i m cs1 cs2) : Mv i m cs cs2 := ⟨b.sv, b.len.trans a.len, fun j h => (b.el j h).trans (a.el j h)⟩
theorem Mv.mono {i n m : Nat} {cs cs1 : Sto} (a : Mv i n cs cs1) (l : n ≤ m) : Mv i m cs cs1 := ⟨a.sv.mono l, a.len, a.el⟩
theorem Mv.set {i n : Nat} {cs : Sto} {ns : List Int} {k r : Int} (hi : i < cs.length) (h0 : 0 ≤ k) (h1 : k ≤ (n : Int)) (h2 : ns.length ≤ 60) : Mv i n cs (cs.set i (svc ns k r)) :=
  ⟨⟨ns, k, r, by rw [List.getElem?_set_self hi], h0, h1, h2⟩, by simp, fun j h => by rw [List.getElem?_set_ne (Ne.symm h)]⟩

/-! ### sizes of ints -/
def Bd (n : Nat) (x : Int) : Prop := x.natAbs < 2 ^ n
theorem Bd.mono {n m : Nat} {x : Int} (h : Bd n x) (l : n ≤ m) : Bd m x := Nat.lt_of_lt_of_le h (Nat.pow_le_pow_right (by decide) l)
theorem Bd.add {n : Nat} {x y : Int} (h : Bd n x) (k : Bd n y) : Bd (n + 1) (x + y) := by
  have e : 2 ^ (n + 1) = 2 ^ n + 2 ^ n := by rw [Nat.pow_succ]; omega
  unfold Bd at *
  rw [e]
  omega
theorem Bd.sub {n : Nat} {x y : Int} (h : Bd n x) (k : Bd n y) : Bd (n + 1) (x - y) := by
  have e : 2 ^ (n + 1) = 2 ^ n + 2 ^ n := by rw [Nat.pow_succ]; omega
  unfold Bd at *
  rw [e]
  omega
theorem Bd.neg {n : Nat} {x : Int} (h : Bd n x) : Bd n (-x) := by
  unfold Bd at *
  rw [Int.natAbs_neg]
  exact h
theorem Bd.mul {n m : Nat} {x y : Int} (h : Bd n x) (k : Bd m y) : Bd (n + m) (x * y) := by
  unfold Bd at *
  rw [Int.natAbs_mul, Nat.pow_add]
  exact Nat.mul_lt_mul'' h k
theorem Bd.ok {n m : Nat} {x y : Int} (h : Bd n x) (k : Bd m y) (l : n + m ≤ 900000) : cMul x y :=
  .inr (wide_mul (a := n + 1) (b := m + 1) (h.mono (Nat.le_succ n)) (k.mono (Nat.le_succ m)) (Nat.succ_pos _) (Nat.succ_pos _) (by omega))
theorem Bd.left {x y : Int} (h : Bd 64 x) : cMul x y := .inl (.inl (by unfold Bd at h; omega))
theorem Bd.right {x y : Int} (h : Bd 64 y) : cMul x y := .inl (.inr (by unfold Bd at h; omega))
theorem Bd.of {n : Nat} {x : Int} (h : x.natAbs < 2 ^ n) : Bd n x := h
end DL

/-! DEval: the readings computed step by step, from the outside: what stands behind a step is not looked at before the step is done. -/
namespace DL
open PySem PySem.Spec L2
variable [Tbs]

/-- what must not be looked at yet: a later place of the same word hangs on it -/
structure Lz {α : Sort u} (k : α) : Type where
/-- go on with what is there -/
def bindP {α : Type} (o : Option α) (k : α → Prop) (_z : Lz k := ⟨⟩) : Prop := match o with
  | some a => k a
  | none => False
theorem bindP_some {α : Type} (a : α) (k : α → Prop) (z : Lz k) : bindP (some a) k z = k a := (rfl)
theorem bindP_none {α : Type} (k : α → Prop) (z : Lz k) : bindP none k z = False := (rfl)
theorem bindP_i {α : Type} {o : Option α} {k : α → Prop} {z : Lz k} (a : α) (h : o = some a) (q : k a) : bindP o k z := by rw [h]; exact q
def cond2 (b : Bool) (A B : Prop) (_z : Lz (PProd.mk A B) := ⟨⟩) : Prop := if b = true then A else B
theorem cond2_true (A B : Prop) (z : Lz (PProd.mk A B)) : cond2 true A B z = A := (rfl)
theorem cond2_false (A B : Prop) (z : Lz (PProd.mk A B)) : cond2 false A B z = B := (rfl)
theorem cond2_i {b : Bool} {A B : Prop} {z : Lz (PProd.mk A B)} (h1 : b = true → A) (h2 : b = false → B) : cond2 b A B z := by
  cases b
  · exact h2 rfl
  · exact h1 rfl
theorem cond2_d {p : Prop} [Decidable p] {A B : Prop} {z : Lz (PProd.mk A B)} (h1 : p → A) (h2 : ¬ p → B) : cond2 (decide p) A B z := by
  by_cases h : p
  · rw [decide_eq_true h]; exact h1 h
  · rw [decide_eq_false h]; exact h2 h
theorem cond2_n {p : Prop} [Decidable p] {A B : Prop} {z : Lz (PProd.mk A B)} (h1 : ¬ p → A) (h2 : p → B) : cond2 (!decide p) A B z := by
  by_cases h : p
  · rw [decide_eq_true h]; exact h2 h
  · rw [decide_eq_false h]; exact h1 h
def letE {α : Type} (e : α) (k : α → Prop) (_z : Lz k := ⟨⟩) : Prop := k e
theorem letE_eq {α : Type} (e : α) (k : α → Prop) (z : Lz k) : letE e k z = k e := (rfl)
def envAt (env : En) (i : Nat) : Option D := match env[i]? with
  | some (some d) => some d
  | _ => none
theorem envAt_zero (d : D) (env : En) : envAt (some d :: env) 0 = some d := (rfl)
theorem envAt_none (env : En) : envAt (none :: env) 0 = none := (rfl)
theorem envAt_succ (x : Option D) (env : En) (n : Nat) : envAt (x :: env) (n + 1) = envAt env n := (rfl)
/-- a call of a def by its contract: nothing is looked at but the arguments -/
def callP (s : FSpec) (ds : List D) (cs : Sto) (Q : PD) (_z : Lz (s, Q) := ⟨⟩) : Prop := ∃ i, ds = s.args i ∧ s.pre i cs ∧ ∀ d cs', s.res i cs d cs' → Q d cs'
theorem callP_i {s : FSpec} {ds : List D} {cs : Sto} {Q : PD} {z : Lz (s, Q)} (i : s.ι) (h : ds = s.args i) (hp : s.pre i cs) (q : ∀ d cs', s.res i cs d cs' → Q d cs') : callP s ds cs Q z := ⟨i, h, hp, q⟩
/-- walks: nothing is looked at but the items and the store -/
def forP (p : Pat) (wb : WS) (E : DN) (W : Sto → Prop) (ds : List D) (env : En) (cs : Sto) (_z : Lz (p, wb, E, W) := ⟨⟩) : Prop := floop p wb E W ds env cs
theorem forP_i {p : Pat} {wb : WS} {E : DN} {W : Sto → Prop} {ds : List D} {env : En} {cs : Sto} {z : Lz (p, wb, E, W)} (h : floop p wb E W ds env cs) : forP p wb E W ds env cs z := h
theorem forP_nil (p : Pat) (wb : WS) (E : DN) (W : Sto → Prop) (env : En) (cs : Sto) (z : Lz (p, wb, E, W)) : forP p wb E W [] env cs z = (W cs ∧ E.nx env cs) := (rfl)
theorem forP_cons (p : Pat) (wb : WS) (E : DN) (W : Sto → Prop) (d : D) (ds : List D) (env : En) (cs : Sto) (z : Lz (p, wb, E, W)) : forP p wb E W (d :: ds) env cs z = (W cs ∧ bindP (patSet cs p d env) fun env' => wb { E with nx := fun env cs => forP p wb E W ds env cs, ct := fun env cs => forP p wb E W ds env cs, bk := E.nx } env' cs) := by
  show floop p wb E W (d :: ds) env cs = _
  unfold floop
  cases patSet cs p d env <;> rfl
def lcP (p : Pat) (tt : WT) (we : WE) (env : En) (W : Sto → Prop) (Q : PD) (ds acc : List D) (cs : Sto) (_z : Lz (p, tt, we, env, W, Q) := ⟨⟩) : Prop := lcloop p tt we env W Q ds acc cs
theorem lcP_i {p : Pat} {tt : WT} {we : WE} {env : En} {W : Sto → Prop} {Q : PD} {ds acc : List D} {cs : Sto} {z : Lz (p, tt, we, env, W, Q)} (h : lcloop p tt we env W Q ds acc cs) : lcP p tt we env W Q ds acc cs z := h
theorem lcP_nil (p : Pat) (tt : WT) (we : WE) (env : En) (W : Sto → Prop) (Q : PD) (acc : List D) (cs : Sto) (z : Lz (p, tt, we, env, W, Q)) : lcP p tt we env W Q [] acc cs z = (W cs ∧ Q (.lst acc) cs) := (rfl)
theorem lcP_cons (p : Pat) (tt : WT) (we : WE) (env : En) (W : Sto → Prop) (Q : PD) (d : D) (ds acc : List D) (cs : Sto) (z : Lz (p, tt, we, env, W, Q)) : lcP p tt we env W Q (d :: ds) acc cs z = (W cs ∧ bindP (patSet cs p d env) fun env' => tt env' cs fun b cs2 => cond2 b (we env' cs2 fun y cs3 => lcP p tt we env W Q ds (acc ++ [y]) cs3) (lcP p tt we env W Q ds acc cs2)) := by
  show lcloop p tt we env W Q (d :: ds) acc cs = _
  unfold lcloop
  cases patSet cs p d env <;> rfl
def whileP (t : WT) (wb : WS) (E : DN) (env : En) (cs : Sto) (_z : Lz (t, wb, E, env) := ⟨⟩) : Prop := wWhile t wb E env cs
theorem whileP_i {t : WT} {wb : WS} {E : DN} {env : En} {cs : Sto} {z : Lz (t, wb, E, env)} (h : wWhile t wb E env cs) : whileP t wb E env cs z := h
theorem wWhile_eq (t : WT) (wb : WS) (E : DN) (env : En) (cs : Sto) : wWhile t wb E env cs = whileP t wb E env cs := (rfl)

section
variable {env : En} {cs : Sto} {Q : PD} {E : DN}
theorem sz_le {n : Nat} (h : n ≤ 4096) : (n ≤ sizeLine) = True := eq_true (Nat.le_trans h (by rw [sizeLine_eq]; decide))
theorem and_t {p : Prop} : (True ∧ p) = p := propext ⟨fun h => h.2, fun h => ⟨trivial, h⟩⟩
theorem notD {p : Prop} [Decidable p] : (!decide p) = decide (¬ p) := by
  by_cases h : p <;> simp [h]
theorem ixN_nat {n i : Nat} (h : i < n) : ixN n (i : Int) = some i := by
  unfold ixN
  rw [if_pos (Int.natCast_nonneg i), if_pos (by omega)]
  simp
theorem ixN_out {n i : Nat} (h : ¬ i < n) : ixN n (i : Int) = none := by
  unfold ixN
  rw [if_pos (Int.natCast_nonneg i), if_neg (by omega)]
theorem atI_nat {α : Type} (l : List α) (i : Nat) : atI l (i : Int) = l[i]? := by
  unfold atI
  by_cases h : i < l.length
  · rw [ixN_nat h]; rfl
  · rw [ixN_out h, List.getElem?_eq_none (by omega)]; rfl
theorem atI_last {α : Type} (l : List α) : atI l (-1) = l.getLast? := by
  unfold atI ixN
  rw [if_neg (by omega)]
  by_cases h : 0 < l.length
  · rw [if_pos (by omega), List.getLast?_eq_getElem?]
    show l[(-1 + (l.length : Int)).toNat]? = _
    congr 1
    omega
  · have : l = [] := by cases l <;> simp_all
    subst this
    rfl
theorem atI_zero {α : Type} (a : α) (l : List α) : atI (a :: l) 0 = some a := atI_nat _ 0
theorem atI_1 {α : Type} (a b : α) (l : List α) : atI (a :: b :: l) 1 = some b := atI_nat _ 1
theorem atI_2 {α : Type} (a b c : α) (l : List α) : atI (a :: b :: c :: l) 2 = some c := atI_nat _ 2
theorem atI_3 {α : Type} (a b c d : α) (l : List α) : atI (a :: b :: c :: d :: l) 3 = some d := atI_nat _ 3
theorem ix0 {n : Nat} : ixN (n + 1) 0 = some 0 := ixN_nat (i := 0) (by omega)
theorem ix1 {n : Nat} : ixN (n + 2) 1 = some 1 := ixN_nat (i := 1) (by omega)
theorem ix2 {n : Nat} : ixN (n + 3) 2 = some 2 := ixN_nat (i := 2) (by omega)
theorem ix3 {n : Nat} : ixN (n + 4) 3 = some 3 := ixN_nat (i := 3) (by omega)
theorem take_min {α : Type} (l : List α) (a b : Nat) (h : b = l.length) : l.take (min a b) = l.take a := by
  by_cases h2 : a ≤ b
  · rw [Nat.min_eq_left h2]
  · rw [Nat.min_eq_right (by omega), h, List.take_length, List.take_of_length_le (by omega)]
theorem sIx_int (n d : Nat) {k : Int} (h : 0 ≤ k) : HT.sIx n d (some k) = min k.toNat n := by
  show (if k < 0 then (k + (n : Int)).toNat else min k.toNat n) = _
  rw [if_neg (by omega)]
theorem cutD_to (ds : List D) {k : Int} (h : 0 ≤ k) : cutD ds none (some k) = ds.take k.toNat := by
  unfold cutD
  rw [sIx_int _ _ h, HT.sIx_none, List.drop_zero, Nat.sub_zero, take_min _ _ _ rfl]
theorem cutD_from (ds : List D) {k : Int} (h : 0 ≤ k) : cutD ds (some k) none = ds.drop k.toNat := by
  unfold cutD
  rw [sIx_int _ _ h, HT.sIx_none]
  by_cases h2 : k.toNat ≤ ds.length
  · rw [Nat.min_eq_left h2, List.take_of_length_le (by rw [List.length_drop]; omega)]
  · rw [Nat.min_eq_right (by omega), Nat.sub_self, List.take_zero, List.drop_eq_nil_of_le (by omega)]
theorem cutD_mid (ds : List D) {i j : Int} (hi : 0 ≤ i) (hj : 0 ≤ j) : cutD ds (some i) (some j) = (ds.drop i.toNat).take (j.toNat - i.toNat) := by
  unfold cutD
  rw [sIx_int _ _ hi, sIx_int _ _ hj]
  by_cases h2 : i.toNat ≤ ds.length
  · rw [Nat.min_eq_left h2]
    by_cases h3 : j.toNat ≤ ds.length
    · rw [Nat.min_eq_left h3]
    · rw [Nat.min_eq_right (by omega), List.take_of_length_le (by rw [List.length_drop]; omega), List.take_of_length_le (by rw [List.length_drop]; omega)]
  · rw [Nat.min_eq_right (by omega : ds.length ≤ i.toNat), List.drop_eq_nil_of_le (by omega), List.drop_eq_nil_of_le (by omega), List.take_nil, List.take_nil]
theorem cutD_all (ds : List D) : cutD ds none none = ds := by
  unfold cutD
  rw [HT.sIx_none, HT.sIx_none, List.drop_zero, Nat.sub_zero, List.take_length]
theorem kB_int_int : kitB "int" "int" = some true := by decide +kernel
theorem kB_int_bool : kitB "int" "bool" = some false := by decide +kernel
theorem kB_bool_int : kitB "bool" "int" = some true := by decide +kernel
theorem kB_bool_bool : kitB "bool" "bool" = some true := by decide +kernel
theorem kB_list_lt : kitAnyB "list" [.ty "list", .ty "tuple"] = some true := by decide +kernel
theorem kB_tuple_lt : kitAnyB "tuple" [.ty "list", .ty "tuple"] = some true := by decide +kernel
/-! ### expressions -/
theorem wC_eq (d : D) : wC d env cs Q = Q d cs := (rfl)
theorem wVar_eq (i : Nat) : wVar i env cs Q = bindP (envAt env i) fun d => Q d cs := by
  unfold wVar envAt
  cases e : env[i]? with
  | none => simp only [e]; rfl
  | some o => cases o <;> simp only [e] <;> rfl
theorem wOp_eq (o : O2) (wa wb : WE) : wOp o wa wb env cs Q = wa env cs fun d1 cs1 => wb env cs1 fun d2 cs2 => o d1 d2 cs2 Q := (rfl)
theorem wUn_eq (o : O1) (wa : WE) : wUn o wa env cs Q = wa env cs fun d cs1 => o d cs1 Q := (rfl)
def blD : D → Option Bool
  | .bl b => some b
  | _ => none
theorem wTst_eq (w : WE) (Q : Bool → Sto → Prop) : wTst w env cs Q = w env cs fun d cs' => bindP (blD d) fun b => Q b cs' := by
  unfold wTst
  congr
  funext d cs'
  cases d <;> rfl
/-- truth: what must hold, and the answer -/
def truD (cs : Sto) (d : D) : Option (Prop × Bool) := (truOf cs d).map fun b => (truSz d, b)
theorem oTru_eq (d : D) (Q : Bool → Sto → Prop) : oTru d cs Q = bindP (truD cs d) fun p => p.1 ∧ Q p.2 cs := by
  unfold oTru truD
  cases truOf cs d with
  | none => exact propext ⟨fun ⟨_, e, _⟩ => (by cases e), fun h => False.elim h⟩
  | some b => exact propext ⟨fun ⟨_, e, z, q⟩ => by cases e; exact ⟨z, q⟩, fun ⟨z, q⟩ => ⟨b, rfl, z, q⟩⟩
theorem wTruD_eq (w : WE) (Q : Bool → Sto → Prop) : wTruD w env cs Q = w env cs fun d cs' => bindP (truD cs' d) fun p => p.1 ∧ Q p.2 cs' := by
  unfold wTruD
  congr
  funext d cs'
  exact oTru_eq d Q
theorem wAnd_eq (t u : WT) (Q : Bool → Sto → Prop) : wAnd t u env cs Q = t env cs fun c cs1 => cond2 c (u env cs1 Q) (Q false cs1) := (rfl)
theorem wOr_eq (t u : WT) (Q : Bool → Sto → Prop) : wOr t u env cs Q = t env cs fun c cs1 => cond2 c (Q true cs1) (u env cs1 Q) := (rfl)
theorem wNotD_eq (t : WT) (Q : Bool → Sto → Prop) : wNotD t env cs Q = t env cs fun c cs1 => Q (!c) cs1 := (rfl)
theorem wAndV_eq (wa wb : WE) : wAndV wa wb env cs Q = wa env cs fun d cs1 => bindP (truD cs1 d) fun p => p.1 ∧ cond2 p.2 (wb env cs1 Q) (Q d cs1) := by
  unfold wAndV
  congr
  funext d cs'
  exact oTru_eq d _
theorem wOrV_eq (wa wb : WE) : wOrV wa wb env cs Q = wa env cs fun d cs1 => bindP (truD cs1 d) fun p => p.1 ∧ cond2 p.2 (Q d cs1) (wb env cs1 Q) := by
  unfold wOrV
  congr
  funext d cs'
  exact oTru_eq d _
theorem wNotV_eq (wa : WE) : wNotV wa env cs Q = wa env cs fun d cs1 => bindP (truD cs1 d) fun p => p.1 ∧ Q (.bl (!p.2)) cs1 := by
  unfold wNotV
  congr
  funext d cs'
  exact oTru_eq d _
theorem wIf_eq (t : WT) (wa wb : WE) : wIf t wa wb env cs Q = t env cs fun c cs1 => cond2 c (wa env cs1 Q) (wb env cs1 Q) := (rfl)
theorem wTup_eq (w : WA) : wTup w env cs Q = w env cs fun ds cs' => ds.length ≤ sizeLine ∧ Q (.tup ds) cs' := (rfl)
theorem wLst_eq (w : WA) : wLst w env cs Q = w env cs fun ds cs' => ds.length ≤ sizeLine ∧ Q (.lst ds) cs' := (rfl)
theorem wCel_eq (w : WA) : wCel w env cs Q = w env cs fun ds cs' => ds.length ≤ sizeLine ∧ Q (.cell cs'.length) (cs' ++ [.lst ds]) := (rfl)
theorem wNil_eq (Q : List D → Sto → Prop) : wNil env cs Q = Q [] cs := (rfl)
theorem wCons_eq (wa : WE) (wr : WA) (Q : List D → Sto → Prop) : wCons wa wr env cs Q = wa env cs fun d cs1 => wr env cs1 fun ds cs2 => Q (d :: ds) cs2 := (rfl)
theorem wB_eq (o : OC) (w : WA) : wB o w env cs Q = w env cs fun ds cs1 => o ds cs1 Q := (rfl)
theorem o1_eq (o : O1) (d : D) : o1 o [d] cs Q = o d cs Q := (rfl)
theorem wCall_eq (s : FSpec) (wa : WA) : wCall s wa env cs Q = wa env cs fun ds cs1 => callP s ds cs1 Q := (rfl)
theorem wCall0_eq (s : FSpec) : wCall0 s env cs Q = callP s [] cs Q := propext ⟨fun ⟨i, e, h⟩ => ⟨i, e.symm, h⟩, fun ⟨i, e, h⟩ => ⟨i, e.symm, h⟩⟩
theorem wCallK_eq (s : FSpec) (n m : Nat) (perm : List Nat) (wa wk : WA) : wCallK s n m perm wa wk env cs Q = wa env cs fun ds cs1 => wk env cs1 fun es cs2 => ds.length = n ∧ es.length = m ∧ callP s (gP perm (ds ++ es)) cs2 Q := (rfl)
theorem wPn_eq (Q : Option Int → Sto → Prop) : wPn env cs Q = Q none cs := (rfl)
def intD : D → Option Int
  | .int i => some i
  | _ => none
theorem wPs_eq (we : WE) (Q : Option Int → Sto → Prop) : wPs we env cs Q = we env cs fun d cs' => bindP (intD d) fun i => Q (some i) cs' := by
  unfold wPs
  congr
  funext d cs'
  cases d <;> rfl
theorem wSl_eq (we : WE) (wl wh : WO) : wSl we wl wh env cs Q = we env cs fun d cs1 => wl env cs1 fun lo cs2 => wh env cs2 fun hi cs3 => oSl d lo hi cs3 Q := (rfl)
theorem wLc_eq (wi : WI) (p : Pat) (tt : WT) (we : WE) (vs : List Nat) : wLc wi p tt we vs env cs Q = wi env cs fun ds W cs1 => ds.length ≤ sizeLine ∧ letE (wipeE env vs) fun env' => lcP p tt we env' W Q ds [] cs1 := (rfl)
def seqI (cs : Sto) : D → Option (List D × (Sto → Prop))
  | .lst ds => some (ds, wAll)
  | .tup ds => some (ds, wAll)
  | .cell n => match cs[n]? with
    | some (.lst ds) => some (ds, wCl n ds)
    | _ => none
  | _ => none
theorem wSeqI_eq (we : WE) (Q : List D → (Sto → Prop) → Sto → Prop) : wSeqI we env cs Q = we env cs fun d cs' => bindP (seqI cs' d) fun p => Q p.1 p.2 cs' := by
  unfold wSeqI
  congr
  funext d cs'
  cases d with
  | cell n =>
    simp only [seqI]
    cases e : cs'[n]? with
    | none => simp [*, bindP_some, bindP_none]
    | some c => cases c <;> simp [*, bindP_some, bindP_none]
  | _ => rfl
def rng1 : List D → Option (Prop × List D)
  | [.int j] => some (-(2 ^ 62) ≤ j ∧ j < 2 ^ 62, rngD 0 j.toNat)
  | _ => none
def rng2 : List D → Option (Prop × List D)
  | [.int i, .int j] => some (-(2 ^ 62) ≤ i ∧ i < 2 ^ 62 ∧ -(2 ^ 62) ≤ j ∧ j < 2 ^ 62, rngD i (j - i).toNat)
  | _ => none
theorem wRng1_eq (w : WA) (Q : List D → (Sto → Prop) → Sto → Prop) : wRng1 w env cs Q = w env cs fun ds cs' => bindP (rng1 ds) fun p => p.1 ∧ Q p.2 wAll cs' := by
  unfold wRng1
  congr
  funext ds cs'
  refine propext ⟨fun ⟨j, e, h1, h2, q⟩ => ?_, fun h => ?_⟩
  · subst e
    exact ⟨⟨h1, h2⟩, q⟩
  · unfold rng1 at h
    split at h
    · exact ⟨_, rfl, h.1.1, h.1.2, h.2⟩
    · exact h.elim
theorem wRng2_eq (w : WA) (Q : List D → (Sto → Prop) → Sto → Prop) : wRng2 w env cs Q = w env cs fun ds cs' => bindP (rng2 ds) fun p => p.1 ∧ Q p.2 wAll cs' := by
  unfold wRng2
  congr
  funext ds cs'
  refine propext ⟨fun ⟨i, j, e, h, q⟩ => ?_, fun h => ?_⟩
  · subst e
    exact ⟨h, q⟩
  · unfold rng2 at h
    split at h
    · exact ⟨_, _, rfl, h.1, h.2⟩
    · exact h.elim
def en1 : List D → Option (List D)
  | [d] => (stay d).map (enD 0)
  | _ => none
theorem wEnum_eq (w : WA) (Q : List D → (Sto → Prop) → Sto → Prop) : wEnum w env cs Q = w env cs fun ds cs' => bindP (en1 ds) fun xs => Q xs wAll cs' := by
  unfold wEnum
  congr
  funext ds cs'
  refine propext ⟨fun ⟨d, xs, e, e2, q⟩ => ?_, fun h => ?_⟩
  · subst e
    simp only [en1, e2, Option.map_some, bindP_some]
    exact q
  · unfold en1 at h
    split at h
    · rename_i d
      cases e : stay d with
      | none => rw [e] at h; exact h.elim
      | some xs => rw [e] at h; exact ⟨d, xs, rfl, e, h⟩
    · exact h.elim
def zip1 : List D → Option (List D)
  | [.lst xs, .lst ys] => some (zipD xs ys)
  | [.tup xs, .tup ys] => some (zipD xs ys)
  | _ => none
theorem wZip_eq (w : WA) (Q : List D → (Sto → Prop) → Sto → Prop) : wZip w env cs Q = w env cs fun ds cs' => bindP (zip1 ds) fun xs => Q xs wAll cs' := by
  unfold wZip
  congr
  funext ds cs'
  refine propext ⟨fun ⟨xs, ys, e, q⟩ => ?_, fun h => ?_⟩
  · rcases e with e | e <;> (subst e; exact q)
  · unfold zip1 at h
    split at h
    · exact ⟨_, _, .inl rfl, h⟩
    · exact ⟨_, _, .inr rfl, h⟩
    · exact h.elim
/-! ### operations: what must hold, and the value -/
def iD (C : Int → Int → Prop) (f : Int → Int → D) : D → D → Option (Prop × D)
  | .int i, .int j => some (C i j, f i j)
  | _, _ => none
theorem oI_eq (C : Int → Int → Prop) (f : Int → Int → D) (d1 d2 : D) : oI C f d1 d2 cs Q = bindP (iD C f d1 d2) fun p => p.1 ∧ Q p.2 cs := by
  cases d1 <;> cases d2 <;> rfl
def uD (f : Int → D) : D → Option D
  | .int i => some (f i)
  | _ => none
theorem oU_eq (f : Int → D) (d : D) : oU f d cs Q = bindP (uD f d) fun x => Q x cs := by
  cases d <;> rfl
def addD (cs : Sto) (d1 d2 : D) : Option (Prop × D) := match d1, d2 with
  | .int i, .int j => some (True, .int (i + j))
  | .int i, .bl k => some (True, .int (i + PyProof.Rows.b2i k))
  | .str x, .str y => some (x.length + y.length ≤ sizeLine, .str (x ++ y))
  | .tup xs, .tup ys => some (xs.length + ys.length ≤ sizeLine, .tup (xs ++ ys))
  | d1, d2 => match lstOf cs d1 with
    | some xs => match lstOf cs d2 with
      | some ys => some (xs.length + ys.length ≤ sizeLine, .lst (xs ++ ys))
      | none => none
    | none => none
theorem addB {d1 d2 : D} : (∃ xs ys, lstOf cs d1 = some xs ∧ lstOf cs d2 = some ys ∧ xs.length + ys.length ≤ sizeLine ∧ Q (.lst (xs ++ ys)) cs) = bindP (match lstOf cs d1 with
    | some xs => match lstOf cs d2 with
      | some ys => some (xs.length + ys.length ≤ sizeLine, D.lst (xs ++ ys))
      | none => none
    | none => none) fun p => p.1 ∧ Q p.2 cs := by
  cases e1 : lstOf cs d1 with
  | none => simp [bindP_none]
  | some xs =>
    cases e2 : lstOf cs d2 with
    | none => simp [bindP_none]
    | some ys => simp [bindP_some]
theorem oAdd_eq (d1 d2 : D) : oAdd d1 d2 cs Q = bindP (addD cs d1 d2) fun p => p.1 ∧ Q p.2 cs := by
  cases d1 <;> cases d2 <;> first | rfl | exact addB | exact (and_t).symm
def iaddD : D → D → Option (Prop × D)
  | .int i, .int j => some (True, .int (i + j))
  | .str x, .str y => some (x.length + y.length ≤ sizeLine, .str (x ++ y))
  | _, _ => none
theorem oIadd_eq (d1 d2 : D) : oIadd d1 d2 cs Q = bindP (iaddD d1 d2) fun p => p.1 ∧ Q p.2 cs := by
  cases d1 <;> cases d2 <;> first | rfl | exact (and_t).symm
def mulD (cs : Sto) (d1 d2 : D) : Option (Prop × D) := match d1, d2 with
  | .int i, .int j => some (cMul i j, .int (i * j))
  | .tup xs, .int k => some (xs ≠ [] ∧ 1 ≤ k ∧ xs.length * k.toNat ≤ sizeLine, .tup (List.replicate k.toNat xs).flatten)
  | d1, .int k => match lstOf cs d1 with
    | some xs => some (-(2 ^ 63) ≤ k ∧ k < 2 ^ 63 ∧ xs.length * k.toNat ≤ sizeLine, .lst (List.replicate k.toNat xs).flatten)
    | none => none
  | _, _ => none
theorem mulB {d1 : D} {k : Int} : (∃ xs, lstOf cs d1 = some xs ∧ -(2 ^ 63) ≤ k ∧ k < 2 ^ 63 ∧ xs.length * k.toNat ≤ sizeLine ∧ Q (.lst (List.replicate k.toNat xs).flatten) cs) = bindP (match lstOf cs d1 with
    | some xs => some (-(2 ^ 63) ≤ k ∧ k < 2 ^ 63 ∧ xs.length * k.toNat ≤ sizeLine, D.lst (List.replicate k.toNat xs).flatten)
    | none => none) fun p => p.1 ∧ Q p.2 cs := by
  cases e : lstOf cs d1 with
  | none => simp [bindP_none]
  | some ds => simp [bindP_some, and_assoc]
theorem oMul_eq (d1 d2 : D) : oMul d1 d2 cs Q = bindP (mulD cs d1 d2) fun p => p.1 ∧ Q p.2 cs := by
  cases d2 with
  | int k => cases d1 <;> first | rfl | exact mulB
  | _ => cases d1 <;> rfl
def eqD (cs : Sto) (neg : Bool) (d1 d2 : D) : Option (Prop × D) := match d1, d2 with
  | .str x, .str y => some (True, .bl (if neg = true then !decide (x = y) else decide (x = y)))
  | d1, d2 => match pyOf cs d1 with
    | some p => match pyOf cs d2 with
      | some q => some (SeqAt.shaped p = true ∧ SeqAt.shaped q = true, .bl (if neg = true then !PyData.eqv p q else PyData.eqv p q))
      | none => none
    | none => none
theorem eqB {neg : Bool} {d1 d2 : D} : (∃ p q, pyOf cs d1 = some p ∧ pyOf cs d2 = some q ∧ SeqAt.shaped p = true ∧ SeqAt.shaped q = true ∧ Q (.bl (if neg = true then !PyData.eqv p q else PyData.eqv p q)) cs) = bindP (match pyOf cs d1 with
    | some p => match pyOf cs d2 with
      | some q => some (SeqAt.shaped p = true ∧ SeqAt.shaped q = true, D.bl (if neg = true then !PyData.eqv p q else PyData.eqv p q))
      | none => none
    | none => none) fun p => p.1 ∧ Q p.2 cs := by
  cases e1 : pyOf cs d1 with
  | none => simp [bindP_none]
  | some p =>
    cases e2 : pyOf cs d2 with
    | none => simp [bindP_none]
    | some q => simp [bindP_some, and_assoc]
theorem oEq_eq (neg : Bool) (d1 d2 : D) : oEq neg d1 d2 cs Q = bindP (eqD cs neg d1 d2) fun p => p.1 ∧ Q p.2 cs := by
  cases d1 <;> cases d2 <;> first | exact eqB | exact (and_t).symm
theorem eqD_int (neg : Bool) (i j : Int) : eqD cs neg (.int i) (.int j) = some (True, .bl (if neg = true then !decide (i = j) else decide (i = j))) := by
  have e : PyData.eqv (.int i) (.int j) = decide (i = j) := by rw [Bool.eq_iff_iff]; simp [PyData.eqv]
  simp only [eqD, pyOf, toPy, e]
  simp [SeqAt.shaped, PyData.canLay0, PyData.depth]
theorem eqD_str (neg : Bool) (x y : Str) : eqD cs neg (.str x) (.str y) = some (True, .bl (if neg = true then !decide (x = y) else decide (x = y))) := (rfl)
theorem eqD_bl (neg : Bool) (i j : Bool) : eqD cs neg (.bl i) (.bl j) = some (True, .bl (if neg = true then !(i == j) else (i == j))) := by
  have e : PyData.eqv (.bool i) (.bool j) = (i == j) := by simp [PyData.eqv]
  simp only [eqD, pyOf, toPy, e]
  simp [SeqAt.shaped, PyData.canLay0, PyData.depth]
def isND (neg : Bool) : D → D → Option D
  | d1, .non => some (.bl (if neg = true then !isNon d1 else isNon d1))
  | .bl a, .bl b => some (.bl (if neg = true then !(decide (a = b)) else decide (a = b)))
  | _, _ => none
theorem oIsN_eq (neg : Bool) (d1 d2 : D) : oIsN neg d1 d2 cs Q = bindP (isND neg d1 d2) fun x => Q x cs := by
  cases d2 <;> first | rfl | (cases d1 <;> rfl)
def ixD (cs : Sto) (d1 d2 : D) : Option (Prop × D) := match d2 with
  | .int i => match d1 with
    | .str z => match atI z.cps.toList i with
      | some c => some (z.length ≤ sizeLine, .str ⟨#[c]⟩)
      | none => none
    | d1 => match seqOf cs d1 with
      | some ds => match atI ds i with
        | some d => some (True, d)
        | none => none
      | none => none
  | _ => none
theorem ixB {d1 : D} {i : Int} : (∃ ds d, seqOf cs d1 = some ds ∧ atI ds i = some d ∧ Q d cs) = bindP (match seqOf cs d1 with
      | some ds => match atI ds i with
        | some d => some (True, d)
        | none => none
      | none => none) fun p => p.1 ∧ Q p.2 cs := by
  cases e : seqOf cs d1 with
  | none => simp [bindP_none]
  | some ds => cases e2 : atI ds i <;> simp [*, bindP_some, bindP_none]
theorem oIx_eq (d1 d2 : D) : oIx d1 d2 cs Q = bindP (ixD cs d1 d2) fun p => p.1 ∧ Q p.2 cs := by
  cases d2 with
  | int i =>
    cases d1 with
    | str z =>
      unfold oIx ixD
      simp only
      cases e : atI z.cps.toList i with
      | none => simp [*, bindP_some, bindP_none]
      | some c => simp [*, bindP_some, bindP_none]
    | _ => exact ixB
  | _ => rfl
def slD (cs : Sto) (d : D) (lo hi : Option Int) : Option (Prop × D) := match d with
  | .scr ns => some (True, .lst (cutD (ns.map .int) lo hi))
  | .tup ds => some (True, .tup (cutD ds lo hi))
  | .str z => some (z.length ≤ sizeLine, .str (cutS z lo hi))
  | d => match lstOf cs d with
    | some ds => some (True, .lst (cutD ds lo hi))
    | none => none
theorem slB {d : D} {lo hi : Option Int} : (∃ ds, lstOf cs d = some ds ∧ Q (.lst (cutD ds lo hi)) cs) = bindP (match lstOf cs d with
    | some ds => some (True, D.lst (cutD ds lo hi))
    | none => none) fun p => p.1 ∧ Q p.2 cs := by
  cases e : lstOf cs d <;> simp [bindP_some, bindP_none]
theorem oSl_eq (d : D) (lo hi : Option Int) : oSl d lo hi cs Q = bindP (slD cs d lo hi) fun p => p.1 ∧ Q p.2 cs := by
  cases d <;> first | rfl | exact slB | exact (and_t).symm
def lenD (cs : Sto) (d : D) : Option (Prop × D) := match d with
  | .str y => some (y.length ≤ sizeLine, .int y.length)
  | d => match seqOf cs d with
    | some ds => some (True, .int ds.length)
    | none => none
theorem lenB {d : D} : (∃ ds, seqOf cs d = some ds ∧ Q (.int ds.length) cs) = bindP (match seqOf cs d with
    | some ds => some (True, D.int ds.length)
    | none => none) fun p => p.1 ∧ Q p.2 cs := by
  cases e : seqOf cs d <;> simp [bindP_some, bindP_none]
theorem oLen_eq (d : D) : oLen d cs Q = bindP (lenD cs d) fun p => p.1 ∧ Q p.2 cs := by
  cases d <;> first | rfl | exact lenB
def intOf : D → Option D
  | .int i => some (.int i)
  | .bl k => some (.int (if k = true then 1 else 0))
  | _ => none
theorem oInt_eq (d : D) : oInt d cs Q = bindP (intOf d) fun x => Q x cs := by
  cases d <;> rfl
def absD : D → Option D
  | .int i => some (.int (if i < 0 then -i else i))
  | _ => none
theorem oAbs_eq (d : D) : oAbs d cs Q = bindP (absD d) fun x => Q x cs := by
  cases d <;> rfl
theorem oTup_eq (d : D) : oTup d cs Q = bindP (seqOf cs d) fun ds => Q (.tup ds) cs := by
  unfold oTup
  cases seqOf cs d <;> simp [*, bindP_some, bindP_none]
theorem oList_eq (d : D) : oList d cs Q = bindP (seqOf cs d) fun ds => Q (.lst ds) cs := by
  unfold oList
  cases seqOf cs d <;> simp [*, bindP_some, bindP_none]
def blsD (cs : Sto) (d : D) : Option (List Bool) := match lstOf cs d with
  | some ds => bls ds
  | none => none
def numsD (cs : Sto) (d : D) : Option (List Int) := match lstOf cs d with
  | some ds => nums ds
  | none => none
theorem oAll_eq (d : D) : oAll d cs Q = bindP (blsD cs d) fun bs => Q (.bl (bs.all id)) cs := by
  unfold oAll blsD
  cases e : lstOf cs d with
  | none => simp [*, bindP_some, bindP_none]
  | some ds => cases e2 : bls ds <;> simp [*, bindP_some, bindP_none, e2]
theorem oAny_eq (d : D) : oAny d cs Q = bindP (blsD cs d) fun bs => Q (.bl (bs.any id)) cs := by
  unfold oAny blsD
  cases e : lstOf cs d with
  | none => simp [*, bindP_some, bindP_none]
  | some ds => cases e2 : bls ds <;> simp [*, bindP_some, bindP_none, e2]
theorem oSum_eq (d : D) : oSum d cs Q = bindP (numsD cs d) fun ns => Q (.int ns.sum) cs := by
  unfold oSum numsD
  cases e : lstOf cs d with
  | none => simp [*, bindP_some, bindP_none]
  | some ds => cases e2 : nums ds <;> simp [*, bindP_some, bindP_none, e2]
def isiD (cs : Sto) : List D → Option Bool
  | [d, .ty n] => match tyD cs d with
    | some T => kitB T n
    | none => none
  | [d, .tup ns] => match tyD cs d with
    | some T => kitAnyB T ns
    | none => none
  | _ => none
theorem isiB {o : Option String} {f : String → Option Bool} : (∃ T b, o = some T ∧ f T = some b ∧ Q (.bl b) cs) = bindP (match o with
    | some T => f T
    | none => none) fun b => Q (.bl b) cs := by
  refine propext ⟨fun ⟨T, b, e1, e2, q⟩ => ?_, fun h => ?_⟩
  · subst e1
    show bindP (f T) _
    rw [e2]
    exact q
  · cases o with
    | none => exact h.elim
    | some T =>
      have h' : bindP (f T) fun b => Q (.bl b) cs := h
      cases e : f T with
      | none => rw [e] at h'; exact h'.elim
      | some b => rw [e] at h'; exact ⟨T, b, rfl, e, h'⟩
theorem oIsi_eq (ds : List D) : oIsi ds cs Q = bindP (isiD cs ds) fun b => Q (.bl b) cs := by
  match ds with
  | [] => rfl
  | [_] => rfl
  | [d, e] => cases e <;> first | rfl | exact isiB (f := fun T => kitB T _) | exact isiB (f := fun T => kitAnyB T _)
  | _ :: e :: _ :: _ => cases e <;> rfl
def reprD (cs : Sto) (d : D) : Option (Prop × Str) := (pyOf cs d).map fun p => (p.showable = true ∧ p.shown.length ≤ sizeLine ∧ p.depth ≤ 60, p.shown)
theorem oRepr_eq (d : D) : oRepr d cs Q = bindP (reprD cs d) fun p => p.1 ∧ Q (.str p.2) cs := by
  unfold oRepr reprD
  cases pyOf cs d <;> simp [bindP_some, bindP_none, and_assoc]
/-! ### statements -/
theorem wSeq_eq (w u : WS) : wSeq w u E env cs = w { E with nx := fun env' cs' => u E env' cs' } env cs := (rfl)
theorem wNext_eq : wNext E env cs = E.nx env cs := (rfl)
theorem wSet_eq (i : Nat) (we : WE) : wSet i we E env cs = we env cs fun d cs' => letE (env.set i (some d)) fun env' => E.nx env' cs' := (rfl)
theorem wPar_eq (i j : Nat) (w : WA) : wPar i j w E env cs = w env cs fun ds cs' => bindP (match ds with | [d, e] => some ((env.set i (some d)).set j (some e)) | _ => none) fun env' => E.nx env' cs' := by
  unfold wPar
  congr
  funext ds cs'
  match ds with
  | [] => rfl
  | [_] => rfl
  | [_, _] => rfl
  | _ :: _ :: _ :: _ => rfl
theorem wPar3_eq (i j k : Nat) (w : WA) : wPar3 i j k w E env cs = w env cs fun ds cs' => bindP (match ds with | [d, e, f] => some (((env.set i (some d)).set j (some e)).set k (some f)) | _ => none) fun env' => E.nx env' cs' := by
  unfold wPar3
  congr
  funext ds cs'
  match ds with
  | [] => rfl
  | [_] => rfl
  | [_, _] => rfl
  | [_, _, _] => rfl
  | _ :: _ :: _ :: _ :: _ => rfl
theorem wPat_eq (p : Pat) (we : WE) : wPat p we E env cs = we env cs fun d cs' => bindP (patSet cs' p d env) fun env' => E.nx env' cs' := by
  unfold wPat
  congr
  funext d cs'
  cases patSet cs' p d env <;> rfl
theorem wAug_eq (i : Nat) (o : O2) (we : WE) : wAug i o we E env cs = bindP (envAt env i) fun x => we env cs fun d cs1 => o x d cs1 fun z cs2 => letE (env.set i (some z)) fun env' => E.nx env' cs2 := by
  unfold wAug envAt
  cases e : env[i]? with
  | none => simp only [e]; rfl
  | some o => cases o <;> simp only [e] <;> rfl
theorem wIfS_eq (t : WT) (w u : WS) : wIfS t w u E env cs = t env cs fun b cs1 => cond2 b (w E env cs1) (u E env cs1) := (rfl)
theorem wRet_eq (we : WE) : wRet we E env cs = we env cs E.rt := (rfl)
theorem wRetN_eq : wRetN E env cs = E.rt .non cs := (rfl)
theorem wDrop_eq (we : WE) : wDrop we E env cs = we env cs fun _ cs' => E.nx env cs' := (rfl)
theorem wBreak_eq : wBreak E env cs = E.bk env cs := (rfl)
theorem wCont_eq : wCont E env cs = E.ct env cs := (rfl)
theorem wFor_eq (wi : WI) (p : Pat) (wb : WS) : wFor wi p wb E env cs = wi env cs fun ds W cs1 => forP p wb E W ds env cs1 := (rfl)
def stoD (cs : Sto) (o k d : D) : Option Sto := match o, k with
  | .cell n, .int i => match cs[n]? with
    | some (.lst ds) => match ixN ds.length i with
      | some j => some (cs.set n (.lst (ds.set j d)))
      | none => none
    | _ => none
  | _, _ => none
theorem stoB {n : Nat} {i : Int} {d : D} {k : Sto → Prop} : (∃ ds j, cs[n]? = some (.lst ds) ∧ ixN ds.length i = some j ∧ k (cs.set n (.lst (ds.set j d)))) = bindP (match cs[n]? with
    | some (.lst ds) => match ixN ds.length i with
      | some j => some (cs.set n (.lst (ds.set j d)))
      | none => none
    | _ => none) k := by
  cases e : cs[n]? with
  | none => simp [bindP_none]
  | some c =>
    cases c with
    | lst ds => cases e2 : ixN ds.length i <;> simp [bindP_some, bindP_none, e2]
    | _ => simp [bindP_none]
theorem wStore_eq (we wo wi : WE) : wStore we wo wi E env cs = we env cs fun d cs1 => wo env cs1 fun o cs2 => wi env cs2 fun k cs3 => bindP (stoD cs3 o k d) fun cs4 => E.nx env cs4 := by
  unfold wStore
  congr
  funext d cs1
  congr
  funext o cs2
  congr
  funext k cs3
  cases o <;> first | rfl | (cases k <;> first | rfl | exact stoB)
def frzD (env : En) (cs : Sto) (i : Nat) : Option (En × Sto) := match envAt env i with
  | some (.cell n) => match cs[n]? with
    | some (.lst ds) => some (env.set i (some (.lst ds)), cs.set n .dead)
    | _ => none
  | _ => none
theorem wFrz_eq (i : Nat) (u : WS) : wFrz i u E env cs = bindP (frzD env cs i) fun p => u E p.1 p.2 := by
  unfold wFrz frzD envAt
  refine propext ⟨fun ⟨n, ds, e1, e2, h⟩ => ?_, fun h => ?_⟩
  · rw [e1]
    simp only [e2]
    exact h
  · cases e1 : env[i]? with
    | none => rw [e1] at h; exact h.elim
    | some o =>
      rw [e1] at h
      cases o with
      | none => exact h.elim
      | some d =>
        cases d with
        | cell n =>
          cases e2 : cs[n]? with
          | none => simp only [e2] at h; exact h.elim
          | some c =>
            cases c with
            | lst ds => simp only [e2] at h; exact ⟨n, ds, rfl, e2, h⟩
            | _ => simp only [e2] at h; exact h.elim
        | _ => exact h.elim
end

/-! ### lists, tuples and changing lists alike -/
def lstAt (cs : Sto) (n : Nat) : Option (List D) := match cs[n]? with
  | some (.lst ds) => some ds
  | _ => none
theorem lstOf_cell {cs : Sto} {n : Nat} : lstOf cs (.cell n) = lstAt cs n := (rfl)
theorem seqOf_cell {cs : Sto} {n : Nat} : seqOf cs (.cell n) = lstAt cs n := (rfl)
theorem seqI_cell {cs : Sto} {n : Nat} : seqI cs (.cell n) = (lstAt cs n).map fun ds => (ds, wCl n ds) := by
  unfold lstAt
  cases e : cs[n]? with
  | none => simp only [seqI, e, Option.map_none]
  | some c => cases c <;> simp only [seqI, e, Option.map_none, Option.map_some]
theorem lenD_cell {cs : Sto} {n : Nat} : lenD cs (.cell n) = (lstAt cs n).map fun xs => (True, .int xs.length) := by
  show (match lstAt cs n with | some ds => some (True, D.int ds.length) | none => none) = _
  cases lstAt cs n <;> rfl
theorem ixD_cell {cs : Sto} {n : Nat} (i : Int) : ixD cs (.cell n) (.int i) = (lstAt cs n).bind fun xs => (atI xs i).map fun d => (True, d) := by
  show (match lstAt cs n with | some ds => (match atI ds i with | some d => some (True, d) | none => none) | none => none) = _
  cases lstAt cs n with
  | none => rfl
  | some ds => cases h : atI ds i <;> simp only [h, Option.bind_some, Option.map_none, Option.map_some]
theorem truD_cell {cs : Sto} {n : Nat} : truD cs (.cell n) = (lstAt cs n).map fun xs => (True, !xs.isEmpty) := by
  show ((lstAt cs n).map fun ds => !ds.isEmpty).map (fun b => (truSz (.cell n), b)) = _
  cases lstAt cs n <;> rfl
theorem stoD_cell {cs : Sto} {n : Nat} (i : Int) (d : D) : stoD cs (.cell n) (.int i) d = (lstAt cs n).bind fun xs => (ixN xs.length i).map fun j => cs.set n (.lst (xs.set j d)) := by
  unfold lstAt
  cases e : cs[n]? with
  | none => simp only [stoD, e, Option.bind_none]
  | some c =>
    cases c with
    | lst xs => cases e2 : ixN xs.length i <;> simp only [stoD, e, e2, Option.bind_some, Option.map_none, Option.map_some]
    | _ => simp only [stoD, e, Option.bind_none]
theorem frzD_eq (env : En) (cs : Sto) (i : Nat) : frzD env cs i = (envAt env i).bind fun d => match d with
    | .cell n => (lstAt cs n).map fun ds => (env.set i (some (.lst ds)), cs.set n .dead)
    | _ => none := by
  unfold frzD lstAt
  cases envAt env i with
  | none => rfl
  | some d =>
    cases d with
    | cell n =>
      simp only [Option.bind_some]
      cases e : cs[n]? with
      | none => rfl
      | some c => cases c <;> rfl
    | _ => rfl
theorem lstAt_get {cs : Sto} {n : Nat} {xs : List D} (h : cs[n]? = some (.lst xs)) : lstAt cs n = some xs := by simp only [lstAt, h]
theorem lstAt_set {cs : Sto} {n : Nat} (xs : List D) (h : n < cs.length) : lstAt (cs.set n (.lst xs)) n = some xs := by simp only [lstAt, List.getElem?_set_self h]
theorem lstAt_ne {cs : Sto} {n m : Nat} {c : CO} (h : m ≠ n) : lstAt (cs.set m c) n = lstAt cs n := by simp only [lstAt, List.getElem?_set_ne h]
theorem lstAt_app {cs : Sto} (xs : List D) : lstAt (cs ++ [.lst xs]) cs.length = some xs := by simp [lstAt]
theorem lstAt_old {cs : Sto} {n : Nat} {c : CO} (h : n < cs.length) : lstAt (cs ++ [c]) n = lstAt cs n := by simp only [lstAt, List.getElem?_append_left h]
theorem set_app {cs : Sto} {c c' : CO} : (cs ++ [c]).set cs.length c' = cs ++ [c'] := by simp
theorem set_old {cs : Sto} {n : Nat} {c c' : CO} (h : n < cs.length) : (cs ++ [c]).set n c' = cs.set n c' ++ [c] := by rw [List.set_append_left _ _ h]
theorem lstAt_0 (c : List D) (r : Sto) : lstAt (.lst c :: r) 0 = some c := (rfl)
theorem lstAt_s (c : CO) (r : Sto) (n : Nat) : lstAt (c :: r) (n + 1) = lstAt r n := (rfl)
theorem app_len {cs : Sto} {c : CO} : (cs ++ [c]).length = cs.length + 1 := by simp
theorem isi_non {cs : Sto}  (n : String) : isiD cs [.non, .ty n] = kitB "NoneType" n := (rfl)
theorem isit_non {cs : Sto}  (ns : List D) : isiD cs [.non, .tup ns] = kitAnyB "NoneType" ns := (rfl)
theorem isi_bl {cs : Sto} (b : Bool) (n : String) : isiD cs [(.bl b), .ty n] = kitB "bool" n := (rfl)
theorem isit_bl {cs : Sto} (b : Bool) (ns : List D) : isiD cs [(.bl b), .tup ns] = kitAnyB "bool" ns := (rfl)
theorem isi_int {cs : Sto} (i : Int) (n : String) : isiD cs [(.int i), .ty n] = kitB "int" n := (rfl)
theorem isit_int {cs : Sto} (i : Int) (ns : List D) : isiD cs [(.int i), .tup ns] = kitAnyB "int" ns := (rfl)
theorem isi_str {cs : Sto} (x : Str) (n : String) : isiD cs [(.str x), .ty n] = kitB "str" n := (rfl)
theorem isit_str {cs : Sto} (x : Str) (ns : List D) : isiD cs [(.str x), .tup ns] = kitAnyB "str" ns := (rfl)
theorem isi_tup {cs : Sto} (xs : List D) (n : String) : isiD cs [(.tup xs), .ty n] = kitB "tuple" n := (rfl)
theorem isit_tup {cs : Sto} (xs : List D) (ns : List D) : isiD cs [(.tup xs), .tup ns] = kitAnyB "tuple" ns := (rfl)
theorem isi_lst {cs : Sto} (xs : List D) (n : String) : isiD cs [(.lst xs), .ty n] = kitB "list" n := (rfl)
theorem isit_lst {cs : Sto} (xs : List D) (ns : List D) : isiD cs [(.lst xs), .tup ns] = kitAnyB "list" ns := (rfl)
theorem isi_dic {cs : Sto} (kvs : List (Key × D)) (n : String) : isiD cs [(.dic kvs), .ty n] = kitB "dict" n := (rfl)
theorem isit_dic {cs : Sto} (kvs : List (Key × D)) (ns : List D) : isiD cs [(.dic kvs), .tup ns] = kitAnyB "dict" ns := (rfl)
theorem lstOf_lst {cs : Sto} (xs : List D) : lstOf cs (.lst xs) = some xs := (rfl)
theorem seqOf_lst {cs : Sto} (xs : List D) : seqOf cs (.lst xs) = some xs := (rfl)
theorem seqOf_tup {cs : Sto} (xs : List D) : seqOf cs (.tup xs) = some xs := (rfl)
theorem seqI_lst {cs : Sto} (xs : List D) : seqI cs (.lst xs) = some (xs, wAll) := (rfl)
theorem seqI_tup {cs : Sto} (xs : List D) : seqI cs (.tup xs) = some (xs, wAll) := (rfl)
theorem lenD_str {cs : Sto} (x : Str) : lenD cs (.str x) = some (x.length ≤ sizeLine, .int x.length) := (rfl)
theorem lenD_lst {cs : Sto} (xs : List D) : lenD cs (.lst xs) = some (True, .int xs.length) := (rfl)
theorem lenD_tup {cs : Sto} (xs : List D) : lenD cs (.tup xs) = some (True, .int xs.length) := (rfl)
theorem ixD_lst {cs : Sto} (xs : List D) (i : Int) : ixD cs (.lst xs) (.int i) = (atI xs i).map fun d => (True, d) := by simp only [ixD, seqOf, lstOf]; cases atI xs i <;> rfl
theorem ixD_tup {cs : Sto} (xs : List D) (i : Int) : ixD cs (.tup xs) (.int i) = (atI xs i).map fun d => (True, d) := by simp only [ixD, seqOf]; cases atI xs i <;> rfl
theorem ixD_seq {cs : Sto} {d : D} {xs : List D} (h : seqOf cs d = some xs) (i : Int) : ixD cs d (.int i) = (atI xs i).map fun d => (True, d) := by
  cases d <;> first | (cases h; done) | (simp only [ixD, h]; cases atI xs i <;> rfl)
theorem truD_non {cs : Sto}  : truD cs .non = some (True, false) := (rfl)
theorem truD_bl {cs : Sto} (b : Bool) : truD cs (.bl b) = some (True, b) := (rfl)
theorem truD_int {cs : Sto} (i : Int) : truD cs (.int i) = some (True, (i != 0)) := (rfl)
theorem truD_str {cs : Sto} (x : Str) : truD cs (.str x) = some (x.length ≤ sizeLine, ((x.length : Int) != 0)) := (rfl)
theorem truD_tup {cs : Sto} (xs : List D) : truD cs (.tup xs) = some (True, (!xs.isEmpty)) := (rfl)
theorem truD_lst {cs : Sto} (xs : List D) : truD cs (.lst xs) = some (True, (!xs.isEmpty)) := (rfl)
theorem truD_dic {cs : Sto} (kvs : List (Key × D)) : truD cs (.dic kvs) = some (True, (!kvs.isEmpty)) := (rfl)
theorem isi_cell {cs : Sto} {k : Nat} {xs : List D} (h : cs[k]? = some (.lst xs)) (n : String) : isiD cs [.cell k, .ty n] = kitB "list" n := by simp only [isiD, tyD, h]
theorem isit_cell {cs : Sto} {k : Nat} {xs : List D} (h : cs[k]? = some (.lst xs)) (ns : List D) : isiD cs [.cell k, .tup ns] = kitAnyB "list" ns := by simp only [isiD, tyD, h]
theorem lenD_seq {cs : Sto} {d : D} {ds : List D} (h : seqOf cs d = some ds) : lenD cs d = some (True, .int ds.length) := by
  cases d <;> first | (cases h; done) | (simp only [lenD, h])
theorem isiD_seq {cs : Sto} {d : D} {ds : List D} (h : seqOf cs d = some ds) : isiD cs [d, .tup [.ty "list", .ty "tuple"]] = some true := by
  cases d with
  | tup xs => simp only [isiD, tyD, kB_tuple_lt]
  | lst xs => simp only [isiD, tyD, kB_list_lt]
  | cell n =>
    simp only [seqOf, lstOf] at h
    cases e : cs[n]? with
    | none => rw [e] at h; cases h
    | some c =>
      rw [e] at h
      cases c with
      | lst xs => simp only [isiD, tyD, e, kB_list_lt]
      | _ => cases h
  | _ => cases h
theorem seqI_seq {cs : Sto} {d : D} {ds : List D} (h : seqOf cs d = some ds) : ∃ W, seqI cs d = some (ds, W) ∧ W cs := by
  cases d with
  | tup xs => cases h; exact ⟨wAll, rfl, trivial⟩
  | lst xs => cases h; exact ⟨wAll, rfl, trivial⟩
  | cell n =>
    simp only [seqOf, lstOf] at h
    cases e : cs[n]? with
    | none => rw [e] at h; cases h
    | some c =>
      rw [e] at h
      cases c with
      | lst xs => cases h; exact ⟨wCl n ds, by simp only [seqI, e], e⟩
      | _ => cases h
  | _ => cases h

/-! ### numbers, truths, None, in tuples and lists: what == and repr need -/
mutual
def DB (n : Nat) : Nat → D → Prop
  | _, .int i => Bd n i
  | _, .bl _ => True
  | _, .non => True
  | k + 1, .tup ds => DBL n k ds
  | k + 1, .lst ds => DBL n k ds
  | _, _ => False
def DBL (n : Nat) : Nat → List D → Prop
  | _, [] => True
  | k, d :: ds => DB n k d ∧ DBL n k ds
end
mutual
def dwt : D → Nat
  | .tup ds => dwts ds
  | .lst ds => dwts ds
  | _ => 0
def dwts : List D → Nat
  | [] => 0
  | d :: ds => dwt d + 1 + dwts ds
end
theorem log2_lt {n : Nat} {x : Int} (h : Bd n x) (l : n ≤ 1920) : x.natAbs.log2 < 1920 := by
  by_cases h0 : x.natAbs = 0
  · rw [h0]; decide
  · exact (Nat.log2_lt h0).mpr (Nat.lt_of_lt_of_le h (Nat.pow_le_pow_right (by decide) l))
structure PyOK (k w : Nat) (p : PyData) : Prop where
  lay : p.canLay0 = true
  dep : p.depth ≤ k
  sh : p.showable = true
  lv : p.leavesShort 1921 = true
  bk : p.bulk = w
structure PyOKL (k w : Nat) (p : List PyData) : Prop where
  lay : PyData.canLayAll0 p = true
  dep : PyData.depthAll p ≤ k
  sh : PyData.showableAll p = true
  lv : PyData.leavesShortAll 1921 p = true
  bk : PyData.bulkAll p = w
mutual
theorem DB.py {n : Nat} (l : n ≤ 1920) : ∀ {k : Nat} {d : D}, DB n k d → ∃ p, toPy d = some p ∧ PyOK k (dwt d) p
  | k, .int i, h => ⟨.int i, by simp only [toPy], by simp [PyData.canLay0], by simp [PyData.depth], by simp only [PyData.showable, decide_eq_true_eq]; exact log2_lt (by simpa [DB] using h) l, by
      simp only [PyData.leavesShort, decide_eq_true_eq]
      have e := int_text_length_le (a := i) (k := 1920) (by decide) (log2_lt (by simpa [DB] using h) l)
      show (Str.ofString (toString i)).length ≤ 1921
      rw [ofString_length]
      exact e, by simp [PyData.bulk, dwt]⟩
  | k, .bl b, h => ⟨.bool b, by simp only [toPy], by simp [PyData.canLay0], by simp [PyData.depth], by simp [PyData.showable], by simp [PyData.leavesShort], by simp [PyData.bulk, dwt]⟩
  | k, .non, h => ⟨.none, by simp only [toPy], by simp [PyData.canLay0], by simp [PyData.depth], by simp [PyData.showable], by simp [PyData.leavesShort], by simp [PyData.bulk, dwt]⟩
  | k + 1, .tup ds, h => by
    obtain ⟨ps, e, o⟩ := DBL.py l (k := k) (ds := ds) (by simpa [DB] using h)
    exact ⟨.tuple ps, by simp only [toPy, e], by simp only [PyData.canLay0]; exact o.lay, by simp only [PyData.depth]; have := o.dep; omega, by simp only [PyData.showable]; exact o.sh, by simp only [PyData.leavesShort]; exact o.lv, by simp only [PyData.bulk, dwt]; exact o.bk⟩
  | k + 1, .lst ds, h => by
    obtain ⟨ps, e, o⟩ := DBL.py l (k := k) (ds := ds) (by simpa [DB] using h)
    exact ⟨.list ps, by simp only [toPy, e], by simp only [PyData.canLay0]; exact o.lay, by simp only [PyData.depth]; have := o.dep; omega, by simp only [PyData.showable]; exact o.sh, by simp only [PyData.leavesShort]; exact o.lv, by simp only [PyData.bulk, dwt]; exact o.bk⟩
  | 0, .tup ds, h => by simp [DB] at h
  | 0, .lst ds, h => by simp [DB] at h
  | _, .str _, h => by simp [DB] at h
  | _, .ty _, h => by simp [DB] at h
  | _, .ref _, h => by simp [DB] at h
  | _, .dic _, h => by simp [DB] at h
  | _, .obj _ _, h => by simp [DB] at h
  | _, .cell _, h => by simp [DB] at h
  | _, .scr _, h => by simp [DB] at h
  | _, .err _ _, h => by simp [DB] at h
theorem DBL.py {n : Nat} (l : n ≤ 1920) : ∀ {k : Nat} {ds : List D}, DBL n k ds → ∃ p, toPyL ds = some p ∧ PyOKL k (dwts ds) p
  | k, [], h => ⟨[], by simp only [toPyL], by simp [PyData.canLayAll0], by simp [PyData.depthAll], by simp [PyData.showableAll], by simp [PyData.leavesShortAll], by simp [PyData.bulkAll, dwts]⟩
  | k, d :: ds, h => by
    have h' : DB n k d ∧ DBL n k ds := by simpa [DBL] using h
    obtain ⟨p, e1, o1⟩ := DB.py l h'.1
    obtain ⟨ps, e2, o2⟩ := DBL.py l h'.2
    refine ⟨p :: ps, by simp only [toPyL, e1, e2], by simp only [PyData.canLayAll0, o1.lay, o2.lay, Bool.and_self], by simp only [PyData.depthAll]; have := o1.dep; have := o2.dep; omega, by simp only [PyData.showableAll, o1.sh, o2.sh, Bool.and_self], by simp only [PyData.leavesShortAll, o1.lv, o2.lv, Bool.and_self], by simp only [PyData.bulkAll, dwts, o1.bk, o2.bk]⟩
end
def noC : D → Bool
  | .cell _ => false
  | _ => true
theorem pyOf_noC {cs : Sto} {d : D} (h : noC d = true) : pyOf cs d = toPy d := by
  cases d <;> first | rfl | cases h
theorem DB.noC {n k : Nat} : ∀ {d : D}, DB n k d → noC d = true := fun {d} h => by
  cases d <;> first | rfl | (cases k <;> simp [DB] at h)
/-- the text of a value -/
def shD (d : D) : Str := match toPy d with
  | some p => p.shown
  | none => ""
theorem reprD_ok {cs : Sto} {n k : Nat} {d : D} (h : DB n k d) (l : n ≤ 1920 := by decide) (hk : k ≤ 60 := by decide) (hw : dwt d ≤ 8000 := by decide) : reprD cs d = some (True, shD d) := by
  obtain ⟨p, e, o⟩ := h.py l
  have h3 : p.shown.length ≤ sizeLine := by
    have h := PyData.shown_le_bulk 1921 (by decide) p o.lv
    have := o.bk
    have h2 : (1921 + 2) * p.bulk ≤ 1923 * 8000 := Nat.mul_le_mul (by omega) (by omega)
    rw [sizeLine_eq]
    omega
  unfold reprD shD
  rw [pyOf_noC h.noC, e]
  simp only [Option.map_some, Option.some.injEq, Prod.mk.injEq, and_true]
  exact eq_true ⟨o.sh, h3, Nat.le_trans o.dep hk⟩
theorem eqD_self {cs : Sto} {n k : Nat} {d : D} {neg : Bool} (h : DB n k d) (l : n ≤ 1920 := by decide) (hk : k ≤ 60 := by decide) : eqD cs neg d d = some (True, .bl (!neg)) := by
  obtain ⟨p, e, o⟩ := h.py l
  have e2 : SeqAt.shaped p = true := by
    unfold SeqAt.shaped
    rw [o.lay]
    simp only [Bool.true_and, decide_eq_true_eq]
    have := o.dep
    omega
  unfold eqD
  split
  · simp [DB] at h
  · rw [pyOf_noC h.noC, e]
    simp only [e2, SeqAt.eqv_refl p o.lay, and_self]
    cases neg <;> rfl
end DL

/-! DTrim: a def's own changing lists are forgotten behind it. -/
namespace DL
open PySem PySem.Spec L2
open PyProof.Rows (envOfC)
variable [Tbs]

mutual
/-- all changing objects in it stand below n -/
def okD (n : Nat) : D → Prop
  | .cell i => i < n
  | .tup ds => okDs n ds
  | .lst ds => okDs n ds
  | .dic kvs => okKs n kvs
  | .obj _ fs => okFs n fs
  | .err _ fs => okFs n fs
  | _ => True
def okDs (n : Nat) : List D → Prop
  | [] => True
  | d :: ds => okD n d ∧ okDs n ds
def okKs (n : Nat) : List (Key × D) → Prop
  | [] => True
  | (_, d) :: ds => okD n d ∧ okKs n ds
def okFs (n : Nat) : List (Str × D) → Prop
  | [] => True
  | (_, d) :: ds => okD n d ∧ okFs n ds
end
def okCO (n : Nat) : CO → Prop
  | .lst ds => okDs n ds
  | .ins _ fs => okFs n fs
  | .dic kvs => okKs n kvs
  | .dead => True
def okS (n : Nat) (cs : Sto) : Prop := ∀ c ∈ cs, okCO n c
def G.cut (g : G) (n : Nat) : G := { g with as := g.as.take n }
section
variable {K : PySem.W.Frag} {g : G} {cs : Sto} {H : Hp}
mutual
theorem Rep.okD : ∀ (d : D) (v : V), Rep K g d v → DL.okD g.as.length d
  | .non, _, _ => by simp [DL.okD]
  | .bl _, _, _ => by simp [DL.okD]
  | .int _, _, _ => by simp [DL.okD]
  | .str _, _, _ => by simp [DL.okD]
  | .ty _, _, _ => by simp [DL.okD]
  | .ref _, _, _ => by simp [DL.okD]
  | .scr _, _, _ => by simp [DL.okD]
  | .tup ds, v, h => by
    obtain ⟨a, vs, e1, h1, h2⟩ := h
    simp only [DL.okD]
    exact RepL.okD ds vs h2
  | .lst ds, v, h => by
    obtain ⟨a, vs, e1, h1, h2⟩ := h
    simp only [DL.okD]
    exact RepL.okD ds vs h2
  | .dic ds, v, h => by
    obtain ⟨a, vs, e1, h1, h2⟩ := h
    simp only [DL.okD]
    exact RepK.okD ds vs h2
  | .obj C ds, v, h => by
    obtain ⟨a, dx, vs, e1, h1, h2⟩ := h
    simp only [DL.okD]
    exact RepF.okD ds vs h2
  | .err C ds, v, h => by
    obtain ⟨a, dx, vs, e1, h1, h3, h2⟩ := h
    simp only [DL.okD]
    exact RepF.okD ds vs h2
  | .cell i, v, h => by
    obtain ⟨a, e1, h1⟩ := h
    simp only [DL.okD]
    exact (List.getElem?_eq_some_iff.mp h1).1
theorem RepL.okD : ∀ (ds : List D) (vs : List V), RepL K g ds vs → okDs g.as.length ds
  | [], _, _ => by simp [okDs]
  | d :: ds, vs, h => by
    obtain ⟨v, r, e1, h1, h2⟩ := h
    simp only [okDs]
    exact ⟨Rep.okD d v h1, RepL.okD ds r h2⟩
theorem RepK.okD : ∀ (ds : List (Key × D)) (vs : List (Key × V)), RepK K g ds vs → okKs g.as.length ds
  | [], _, _ => by simp [okKs]
  | (k, d) :: ds, vs, h => by
    obtain ⟨v, r, e1, h1, h2⟩ := h
    simp only [okKs]
    exact ⟨Rep.okD d v h1, RepK.okD ds r h2⟩
theorem RepF.okD : ∀ (ds : List (Str × D)) (vs : List (Str × V)), RepF K g ds vs → okFs g.as.length ds
  | [], _, _ => by simp [okFs]
  | (k, d) :: ds, vs, h => by
    obtain ⟨v, r, e1, h1, h2⟩ := h
    simp only [okFs]
    exact ⟨Rep.okD d v h1, RepF.okD ds r h2⟩
end
mutual
theorem Rep.cut (n : Nat) : ∀ (d : D) (v : V), DL.okD n d → Rep K g d v → Rep K (g.cut n) d v
  | .non, _, _, h => h
  | .bl _, _, _, h => h
  | .int _, _, _, h => h
  | .str _, _, _, h => h
  | .ty _, _, _, h => h
  | .ref _, _, _, h => h
  | .scr _, _, _, h => h
  | .tup ds, v, o, h => by
    obtain ⟨a, vs, e1, h1, h2⟩ := h
    exact ⟨a, vs, e1, h1, RepL.cut n ds vs (by simpa only [DL.okD] using o) h2⟩
  | .lst ds, v, o, h => by
    obtain ⟨a, vs, e1, h1, h2⟩ := h
    exact ⟨a, vs, e1, h1, RepL.cut n ds vs (by simpa only [DL.okD] using o) h2⟩
  | .dic ds, v, o, h => by
    obtain ⟨a, vs, e1, h1, h2⟩ := h
    exact ⟨a, vs, e1, h1, RepK.cut n ds vs (by simpa only [DL.okD] using o) h2⟩
  | .obj C ds, v, o, h => by
    obtain ⟨a, dx, vs, e1, h1, h2⟩ := h
    exact ⟨a, dx, vs, e1, h1, RepF.cut n ds vs (by simpa only [DL.okD] using o) h2⟩
  | .err C ds, v, o, h => by
    obtain ⟨a, dx, vs, e1, h1, h3, h2⟩ := h
    exact ⟨a, dx, vs, e1, h1, h3, RepF.cut n ds vs (by simpa only [DL.okD] using o) h2⟩
  | .cell i, v, o, h => by
    obtain ⟨a, e1, h1⟩ := h
    refine ⟨a, e1, ?_⟩
    show (g.as.take n)[i]? = some a
    rw [List.getElem?_take_of_lt (by simpa only [DL.okD] using o)]
    exact h1
theorem RepL.cut (n : Nat) : ∀ (ds : List D) (vs : List V), okDs n ds → RepL K g ds vs → RepL K (g.cut n) ds vs
  | [], _, _, h => h
  | d :: ds, vs, o, h => by
    obtain ⟨v, r, e1, h1, h2⟩ := h
    have o' : DL.okD n d ∧ okDs n ds := by simpa only [okDs] using o
    exact ⟨v, r, e1, Rep.cut n d v o'.1 h1, RepL.cut n ds r o'.2 h2⟩
theorem RepK.cut (n : Nat) : ∀ (ds : List (Key × D)) (vs : List (Key × V)), okKs n ds → RepK K g ds vs → RepK K (g.cut n) ds vs
  | [], _, _, h => h
  | (k, d) :: ds, vs, o, h => by
    obtain ⟨v, r, e1, h1, h2⟩ := h
    have o' : DL.okD n d ∧ okKs n ds := by simpa only [okKs] using o
    exact ⟨v, r, e1, Rep.cut n d v o'.1 h1, RepK.cut n ds r o'.2 h2⟩
theorem RepF.cut (n : Nat) : ∀ (ds : List (Str × D)) (vs : List (Str × V)), okFs n ds → RepF K g ds vs → RepF K (g.cut n) ds vs
  | [], _, _, h => h
  | (k, d) :: ds, vs, o, h => by
    obtain ⟨v, r, e1, h1, h2⟩ := h
    have o' : DL.okD n d ∧ okFs n ds := by simpa only [okFs] using o
    exact ⟨v, r, e1, Rep.cut n d v o'.1 h1, RepF.cut n ds r o'.2 h2⟩
end
theorem COk.okCO {a : Addr} {c : CO} (h : COk K g H a c) : DL.okCO g.as.length c := by
  cases c with
  | lst ds => obtain ⟨vs, h1, h2, h3⟩ := h; exact RepL.okD ds vs h2
  | ins C ds => obtain ⟨dx, vs, h1, h2, h3⟩ := h; exact RepF.okD ds vs h2
  | dic ds => obtain ⟨vs, h1, h2, h3⟩ := h; exact RepK.okD ds vs h2
  | dead => trivial
theorem COk.cut {a : Addr} {c : CO} {n : Nat} (o : DL.okCO n c) (h : COk K g H a c) : COk K (g.cut n) H a c := by
  cases c with
  | lst ds => obtain ⟨vs, h1, h2, h3⟩ := h; exact ⟨vs, h1, RepL.cut n ds vs o h2, h3⟩
  | ins C ds => obtain ⟨dx, vs, h1, h2, h3⟩ := h; exact ⟨dx, vs, h1, RepF.cut n ds vs o h2, h3⟩
  | dic ds => obtain ⟨vs, h1, h2, h3⟩ := h; exact ⟨vs, h1, RepK.cut n ds vs o h2, h3⟩
  | dead => trivial
theorem Sr.okS (s : Sr K g cs H) : DL.okS cs.length cs := fun c hc => by
  obtain ⟨i, hi, e⟩ := List.getElem_of_mem hc
  have e2 : cs[i]? = some c := by rw [List.getElem?_eq_getElem hi, e]
  have hl : i < g.as.length := by rw [s.len]; exact hi
  have := (s.ok i g.as[i] c (List.getElem?_eq_getElem hl) e2).okCO
  rwa [s.len] at this
theorem Sr.cut (s : Sr K g cs H) {n : Nat} (o : DL.okS n (cs.take n)) : Sr K (g.cut n) (cs.take n) H :=
  ⟨s.le, by show (g.as.take n).length = _; rw [List.length_take, List.length_take, s.len], s.nd.sublist (List.take_sublist _ _), fun a ha => s.th a (List.mem_of_mem_take ha), fun i a c h1 h2 => by
    have h1' : (g.as.take n)[i]? = some a := h1
    have hi : i < n := by
      have := (List.getElem?_eq_some_iff.mp h1').1
      rw [List.length_take] at this
      omega
    have hc : c ∈ cs.take n := List.mem_of_getElem? h2
    rw [List.getElem?_take_of_lt hi] at h1' h2
    exact (s.ok i a c h1' h2).cut (o c hc), fun p hp => ⟨(s.rs p hp).1, (s.rs p hp).2.1, fun z => (s.rs p hp).2.2 (List.mem_of_mem_take z)⟩, s.rn, s.tz, s.rt, s.tb⟩
end
/-- as it is, or behind the def's own changing objects -/
def trimR (n : Nat) (R : PD) : PD := fun d cs' => R d cs' ∨ (okD n d ∧ okS n (cs'.take n) ∧ R d (cs'.take n))
theorem trim_up {K : PySem.W.Frag} {g : G} {cs : Sto} {H : Hp} {R : PD} {Q : VK} (s : Sr K g cs H) (hq : ∀ d cs', R d cs' → upV K g Q d cs') {d : D} {cs' : Sto} (h : trimR cs.length R d cs') : upV K g Q d cs' := by
  rcases h with h | ⟨h1, h2, h3⟩
  · exact hq d cs' h
  · intro g' H' v e s' r
    refine hq d _ h3 (g'.cut cs.length) H' v ⟨e.z, ⟨[], ?_⟩, e.r⟩ (s'.cut h2) (r.cut _ d v h1)
    obtain ⟨t, et⟩ := e.a
    show g'.as.take cs.length = g.as ++ []
    rw [et, ← s.len, List.take_left', List.append_nil]
    rfl
section
variable {P : Program} {w : World} {K : PySem.W.Frag} {mg : Str → Option Value} {base : Heap}
theorem dfunT {k : Nat} {f : Addr} {name qual : Str} {st : Stmt} {fd : FuncData} {N ps : List Str} {sp : FSpec} (F : Fun K name qual st f fd) (S : FnScope N ps (defScope st)) (len : ∀ i, (sp.args i).length = ps.length)
    (h : ∀ (cdv : Value) (A : Around) (outer : List PySem.Env) (s : Shared) (H : Hp) (E : XK), RoomG k (A.deeper (envOfC qual (defScope st) s.heap.objs.size f cdv)) → ∃ wS, DSs (cxOf CX0 P w K mg base N qual (defScope st) f cdv A outer s H E).nox (defBody st) wS ∧
      ∀ i cs, okS cs.length cs → sp.pre i cs → wS { nx := fun _ cs' => trimR cs.length (sp.res i cs) .non cs', rt := trimR cs.length (sp.res i cs) } (startE N.length (sp.args i)) cs) : FnG P w K mg base CX0 (k + 1) f fd ps (dSp K sp) := by
  refine fnG_of F S (fun vs H Q E ⟨g, cs, i, _, r, _⟩ => r.length.symm.trans (len i)) fun cdv A outer s H vs Q E hr ⟨g, cs, i, sr, r, hp, hq, _⟩ => ?_
  obtain ⟨wS, hd, hw⟩ := h cdv A outer s H E hr
  refine ⟨_, hd.pe.nox, g, cs, startE N.length (sp.args i), sr, Lr.start r, hd.mo { nx := fun _ cs' => trimR cs.length (sp.res i cs) .non cs', rt := trimR cs.length (sp.res i cs) } _ _ _ ⟨fun env cs' q g' H' σ e s' l => ?_, fun d cs' q => trim_up sr hq q, fun _ _ z => (show False from z).elim, fun _ _ z => (show False from z).elim⟩ (hw i cs sr.okS hp)⟩
  exact trim_up sr hq q g' H' .non e s' rfl
end
/-! ### what must hold of sizes -/
theorem cMul_l {i j : Int} (h1 : -18446744073709551616 < i) (h2 : i < 18446744073709551616) : cMul i j = True := eq_true (.inl (.inl ⟨by omega, by omega⟩))
theorem cMul_r {i j : Int} (h1 : -18446744073709551616 < j) (h2 : j < 18446744073709551616) : cMul i j = True := eq_true (.inl (.inr ⟨by omega, by omega⟩))
theorem CPow_lit {i j : Int} (h1 : 0 ≤ j) (h2 : j ≤ 1000000) (h3 : -18446744073709551616 < i) (h4 : i < 18446744073709551616) : CPow i j = True := eq_true ⟨h1, h2, by omega⟩
theorem CDivW_lit {i j : Int} (h1 : 0 < j) (h2 : j < 18446744073709551616) : CDivW i j = True := eq_true ⟨h1, by
  have : j.natAbs.log2 < 64 := by
    rw [Nat.log2_lt (by omega)]
    omega
  omega⟩
theorem toPyL_ints : ∀ ns : List Int, toPyL (ns.map .int) = some (ns.map PyData.int)
  | [] => rfl
  | n :: ns => by simp only [List.map_cons, toPyL, toPy, toPyL_ints ns]
theorem lay_ints : ∀ ns : List Int, PyData.canLayAll0 (ns.map PyData.int) = true
  | [] => rfl
  | n :: ns => by simp only [List.map_cons, PyData.canLayAll0, PyData.canLay0, lay_ints ns, Bool.and_self]
theorem dep_ints : ∀ ns : List Int, PyData.depthAll (ns.map PyData.int) = 0
  | [] => rfl
  | n :: ns => by simp only [List.map_cons, PyData.depthAll, PyData.depth, dep_ints ns, Nat.max_self]
theorem eqD_ints {cs : Sto} (ns : List Int) : eqD cs true (.lst (ns.map .int)) (.lst []) = some (True, .bl (!ns.isEmpty)) := by
  simp only [eqD, pyOf, toPy, toPyL_ints]
  have h1 : SeqAt.shaped (.list (ns.map PyData.int)) = true := by
    simp only [SeqAt.shaped, PyData.canLay0, lay_ints, PyData.depth, dep_ints]
    decide
  have h2 : SeqAt.shaped (.list []) = true := by decide
  simp only [toPyL, h1, h2, and_self, Option.some.injEq, Prod.mk.injEq, true_and, if_true, D.bl.injEq]
  cases ns <;> simp [PyData.eqv, PyData.eqvAll]
theorem atI_mod {ns : List Int} {k : Int} (h : ns.isEmpty = false) (h0 : 0 ≤ k) : ∃ x, atI (ns.map D.int) (k % (ns.length : Int)) = some (.int x) := by
  have hp : 0 < ns.length := by cases ns <;> simp_all
  have h1 := Int.emod_nonneg k (b := (ns.length : Int)) (by omega)
  have h2 := Int.emod_lt_of_pos k (b := (ns.length : Int)) (by omega)
  obtain ⟨m, hm⟩ := Int.eq_ofNat_of_zero_le h1
  rw [hm, atI_nat]
  have : m < ns.length := by omega
  exact ⟨ns[m], by rw [List.getElem?_map, List.getElem?_eq_getElem this]; rfl⟩
theorem len_pos {ns : List Int} (h : ns.isEmpty = false) : (0 : Int) < ns.length := by
  have hp : 0 < ns.length := by cases ns <;> simp_all
  omega
theorem pmulB {a b A B : Int} (h1 : 0 ≤ a) (h2 : a ≤ A) (h3 : 0 ≤ b) (h4 : b ≤ B) : 0 ≤ a * b ∧ a * b ≤ A * B :=
  ⟨Int.mul_nonneg h1 h3, Int.mul_le_mul h2 h4 h3 (Int.le_trans h1 h2)⟩
theorem mix1 {x k M c1 c2 e : Int} (hM : 0 < M) (hM2 : M ≤ 4294967296) (k0 : 0 ≤ k) (k1 : k ≤ 100001) (a0 : 0 ≤ c1) (a1 : c1 ≤ 1048576) (b0 : 0 ≤ c2) (b1 : c2 ≤ 1048576) (e0 : 0 ≤ e) (e1 : e ≤ 1000000) : CPow (x % M + c1 * k + c2) e := by
  have h1 := Int.emod_nonneg x (b := M) (by omega)
  have h2 := Int.emod_lt_of_pos x hM
  have h3 := pmulB a0 a1 k0 k1
  exact ⟨e0, e1, by omega⟩
theorem mix2 {m k c1 c2 c3 c4 e : Int} (m0 : 0 ≤ m) (m1 : m < 4294967296) (k0 : 0 ≤ k) (k1 : k ≤ 100001) (a0 : 0 ≤ c1) (a1 : c1 ≤ 64) (b0 : 0 ≤ c2) (b1 : c2 ≤ 1048576) (d0 : 0 ≤ c3) (d1 : c3 ≤ 1048576) (f0 : 0 ≤ c4) (f1 : c4 ≤ 1048576) (e0 : 0 ≤ e) (e1 : e ≤ 1000000) : CPow (m * (c1 * k + c2) + c3 * k * k + c4) e := by
  have h1 := pmulB a0 a1 k0 k1
  have h2 := pmulB (a := m) (b := c1 * k + c2) (A := 4294967296) (B := 64 * 100001 + 1048576) m0 (by omega) (by omega) (by omega)
  have h3 := pmulB d0 d1 k0 k1
  have h4 := pmulB h3.1 h3.2 k0 k1
  exact ⟨e0, e1, by omega⟩
theorem cMul_mod {z M j : Int} (hM : 0 < M) (hM2 : M ≤ 4294967296) : cMul (z % M) j := by
  have h1 := Int.emod_nonneg z (b := M) (by omega)
  have h2 := Int.emod_lt_of_pos z hM
  exact .inl (.inl ⟨by omega, by omega⟩)
theorem mix3 {z k M c1 c2 c3 c4 e : Int} (hM : 0 < M) (hM2 : M ≤ 4294967296) (k0 : 0 ≤ k) (k1 : k ≤ 100001) (a0 : 0 ≤ c1) (a1 : c1 ≤ 64) (b0 : 0 ≤ c2) (b1 : c2 ≤ 1048576) (d0 : 0 ≤ c3) (d1 : c3 ≤ 1048576) (f0 : 0 ≤ c4) (f1 : c4 ≤ 1048576) (e0 : 0 ≤ e) (e1 : e ≤ 1000000) : CPow (z % M * (c1 * k + c2) + c3 * k * k + c4) e :=
  mix2 (Int.emod_nonneg z (by omega)) (Int.lt_of_lt_of_le (Int.emod_lt_of_pos z hM) hM2) k0 k1 a0 a1 b0 b1 d0 d1 f0 f1 e0 e1
theorem rngD_len {lo : Int} {n : Nat} : (rngD lo n).length = n := by simp [rngD]
theorem rngD_get {lo : Int} {n i : Nat} {d : D} (h : (rngD lo n)[i]? = some d) : i < n ∧ d = .int (lo + i) := by
  have hi : i < n := by
    have := (List.getElem?_eq_some_iff.mp h).1
    rwa [rngD_len] at this
  refine ⟨hi, ?_⟩
  unfold rngD at h
  rw [List.getElem?_map, List.getElem?_range hi] at h
  cases h
  rfl
theorem rngD_z {lo : Int} : rngD lo 0 = [] := (rfl)
theorem rngD_s {lo : Int} {n : Nat} : rngD lo (n + 1) = .int lo :: rngD (lo + 1) n := by
  unfold rngD
  rw [List.range_succ_eq_map, List.map_cons, List.map_map]
  congr 1
  · simp
  · apply List.map_congr_left
    intro i _
    simp only [Function.comp_apply, D.int.injEq]
    omega
theorem trim_app {cs tail : Sto} {R : PD} {d : D} (hk : okS cs.length cs) (hd : okD cs.length d) (h : R d cs) : trimR cs.length R d (cs ++ tail) :=
  .inr ⟨hd, by rw [List.take_left' rfl]; exact hk, by rw [List.take_left' rfl]; exact h⟩
/-! ### tuples and lists of ints compared -/
theorem eqv_ints : ∀ xs ys : List Int, PyData.eqvAll (xs.map .int) (ys.map .int) = decide (xs = ys)
  | [], [] => rfl
  | [], y :: ys => by simp [PyData.eqvAll]
  | x :: xs, [] => by simp [PyData.eqvAll]
  | x :: xs, y :: ys => by
    simp only [List.map_cons, PyData.eqvAll, eqv_ints xs ys]
    rw [Bool.eq_iff_iff]
    simp [PyData.eqv]
theorem shaped_ints (ns : List Int) : SeqAt.shaped (.tuple (ns.map PyData.int)) = true ∧ SeqAt.shaped (.list (ns.map PyData.int)) = true := by
  simp only [SeqAt.shaped, PyData.canLay0, lay_ints, PyData.depth, dep_ints]
  decide
theorem eqD_tints {cs : Sto} (neg : Bool) (xs ys : List Int) : eqD cs neg (.tup (xs.map .int)) (.tup (ys.map .int)) = some (True, .bl (if neg = true then !decide (xs = ys) else decide (xs = ys))) := by
  simp only [eqD, pyOf, toPy, toPyL_ints, (shaped_ints _).1, and_self, PyData.eqv, eqv_ints]
theorem eqD_lints {cs : Sto} (neg : Bool) (xs ys : List Int) : eqD cs neg (.lst (xs.map .int)) (.lst (ys.map .int)) = some (True, .bl (if neg = true then !decide (xs = ys) else decide (xs = ys))) := by
  simp only [eqD, pyOf, toPy, toPyL_ints, (shaped_ints _).2, and_self, PyData.eqv, eqv_ints]
theorem eqD_t2 {cs : Sto} (neg : Bool) (a b c d : Int) : eqD cs neg (.tup [.int a, .int b]) (.tup [.int c, .int d]) = some (True, .bl (if neg = true then !decide (a = c ∧ b = d) else decide (a = c ∧ b = d))) := by
  have h := eqD_tints (cs := cs) neg [a, b] [c, d]
  simp only [List.cons.injEq, and_true] at h
  exact h
end DL

/-! DMore: methods of lists and ints, in, any and all over ints, module constants that are tuples. -/
namespace DL
open PySem PySem.Spec L2
variable [Tbs]
section
variable {X : Cx} {a b c : Expr} {wa wb wc : WE} {pos : Pos}
/-! ### methods of built-in types -/
abbrev OM := D → List D → Sto → PD → Prop
def lowM (K : PySem.W.Frag) (o : OM) : V → List V → Hp → VK → Prop := fun x xs H Q => ∃ g cs d ds, Sr K g cs H ∧ Rep K g d x ∧ RepL K g ds xs ∧ o d ds cs (upV K g Q)
structure MtD (X : Cx) (id : String) (o : OM) : Prop where
  op : MtR X id (lowM X.K o)
  mo : ∀ d ds cs Q Q', (∀ d cs, Q d cs → Q' d cs) → o d ds cs Q → o d ds cs Q'
theorem MtD.mk' {id : String} {o : OM} (mo : ∀ d ds cs Q Q', (∀ d cs, Q d cs → Q' d cs) → o d ds cs Q → o d ds cs Q')
    (h : ∀ (pins : List (Addr × Obj)) (s : Shared) (σ : L2.St) (H : Hp) (x : V) (xs : List V) (v : Value) (us : List Value) (Q : VK) (g : G) (cs : Sto) (d : D) (ds : List D), Inv X pins σ H s → RelV x v → Vals xs us → Sr X.K g cs H → Rep X.K g d x → RepL X.K g ds xs → o d ds cs (upV X.K g Q) →
      wpAny (model X.prog X.w) X.A (call (.builtin id) (v :: us)) (EP X pins σ Q) X.xe s) : MtD X id o :=
  ⟨fun pins s σ H x xs v us Q I rx r ⟨g, cs, d, ds, sr, r1, r2, q⟩ => h pins s σ H x xs v us Q g cs d ds I rx r sr r1 r2 q, mo⟩
/-- what kind of receiver -/
def rcvT (cs : Sto) : D → Option String
  | .str _ => some "str"
  | .int _ => some "int"
  | .lst _ => some "list"
  | .dic _ => some "dict"
  | .cell i => match cs[i]? with
    | some (.lst _) => some "list"
    | some (.dic _) => some "dict"
    | _ => none
  | _ => none
theorem rcv_ty {K : PySem.W.Frag} {g : G} {cs : Sto} {H : Hp} (s : Sr K g cs H) {d : D} {v : V} {T : String} (e : rcvT cs d = some T) (r : Rep K g d v) : tyV K T v H := by
  cases d with
  | str x => cases r; cases e; rfl
  | int x => cases r; cases e; rfl
  | lst ds =>
    cases e
    obtain ⟨a, vs, e1, h1, h2⟩ := r
    subst e1
    exact .inl ⟨rfl, vs, .of (s.le _ _ h1)⟩
  | dic ds =>
    cases e
    obtain ⟨a, vs, e1, h1, h2⟩ := r
    subst e1
    exact .inr (.inr (.inl ⟨rfl, .inl ⟨vs, s.le _ _ h1⟩⟩))
  | cell i =>
    simp only [rcvT] at e
    obtain ⟨a, e1, h1⟩ := r
    subst e1
    split at e
    · rename_i ds hc
      cases e
      obtain ⟨vs, q1, q2, q3⟩ := s.ok i a _ h1 hc
      exact .inl ⟨rfl, vs, .of q1⟩
    · rename_i ds hc
      cases e
      obtain ⟨vs, q1, q2, q3⟩ := s.ok i a _ h1 hc
      exact .inr (.inr (.inl ⟨rfl, .inl ⟨vs, q1⟩⟩))
    · cases e
  | _ => cases e
def wMt (T : String) (o : OM) (wo : WE) (wa : WA) : WE := fun env cs Q => wo env cs fun d cs1 => rcvT cs1 d = some T ∧ wa env cs1 fun ds cs2 => o d ds cs2 Q
theorem wMt.mo {T : String} {o : OM} {wo : WE} {wa : WA} (mo : ∀ d ds cs Q Q', (∀ d cs, Q d cs → Q' d cs) → o d ds cs Q → o d ds cs Q') (ho : MonoE wo) (ha : MonoA wa) : MonoE (wMt T o wo wa) := fun env cs Q Q' hq q =>
  ho _ _ _ _ (fun d cs1 ⟨t, q⟩ => ⟨t, ha _ _ _ _ (fun ds cs2 q => mo _ _ _ _ _ hq q) q⟩) q
variable {o e : Expr} {es : List Expr} {wo : WE} {name : Str} {apos cpos : Pos} {T id : String}
theorem de_mt {f : OM} {w : WA} (hm : MtD X id f) (pa : PlainAttrs T) (slot : Slot T name id) (hty : typeOf (.builtin id) = pure (.type "method_descriptor")) (ho : DE X o wo) (ha : DA X (e :: es) w)
    (hbase : attributeBase o name X.env (eval o X.env) = eval o X.env := by rfl)
    (hfew : ((backTo cpos (starEach (e :: es) X.env)).all (fun x => !x.1) && (backToKw cpos (keywordEach [] X.env)).all (fun x => x.1.isSome)
      && decide ((e :: es).length + ([] : List Keyword).length + (if ([] : List Keyword).isEmpty then 0 else 1) < 30)) = true := by rfl)
    (hline : (apos.endLine == cpos.line) = true := by rfl) (hs : starEach (e :: es) X.env = (false, eval e X.env) :: starEach es X.env := by rfl) (hplain : (backTo cpos (starEach es X.env)).any (·.1) = false := by rfl) :
    DE X (.Call (.Attribute o name apos) (e :: es) [] cpos) (wMt T f wo w) :=
  ⟨PE.imp (pe_bm pa slot hty hm.op ho.pe ha.pe hbase hfew hline hs hplain) fun σ H Q ⟨g, cs, env, s, l, h⟩ => lowE.go ho.mo s l h fun d1 cs1 g1 H1 v1 ⟨t1, h1⟩ e1 s1 r1 => ⟨rcv_ty s1 t1 r1, lowA.go ha.mo s1 (l.mono e1) h1 fun ds cs2 g2 H2 vs h2 e2 s2 r2 => ⟨g2, cs2, d1, ds, s2, r1.mono e2, r2, hm.mo _ _ _ _ _ (fun _ _ q => upV.mono (e1.trans e2) q) h2⟩⟩, wMt.mo hm.mo ho.mo ha.mo⟩
theorem de_mt0 {f : OM} (hm : MtD X id f) (pa : PlainAttrs T) (slot : Slot T name id) (hty : typeOf (.builtin id) = pure (.type "method_descriptor")) (ho : DE X o wo)
    (hbase : attributeBase o name X.env (eval o X.env) = eval o X.env := by rfl) (hline : (apos.endLine == cpos.line) = true := by rfl) :
    DE X (.Call (.Attribute o name apos) [] [] cpos) (wMt T f wo wNil) :=
  ⟨PE.imp (pe_bm0 pa slot hty hm.op ho.pe hbase hline) fun σ H Q ⟨g, cs, env, s, l, h⟩ => lowE.go ho.mo s l h fun d1 cs1 g1 H1 v1 ⟨t1, h1⟩ e1 s1 r1 => ⟨rcv_ty s1 t1 r1, g1, cs1, d1, [], s1, r1, rfl, hm.mo _ _ _ _ _ (fun _ _ q => upV.mono e1 q) h1⟩, wMt.mo hm.mo ho.mo (fun _ cs _ _ h q => h _ _ q)⟩
/-- l.append(y) -/
def appS (cs : Sto) (d : D) (ds : List D) : Option (Prop × Sto) := match d, ds with
  | .cell n, [y] => (lstAt cs n).map fun xs => (xs.length < sizeLine, cs.set n (.lst (xs ++ [y])))
  | _, _ => none
theorem lstAt_some {cs : Sto} {n : Nat} {xs : List D} (h : lstAt cs n = some xs) : cs[n]? = some (.lst xs) := by
  unfold lstAt at h
  split at h
  · rename_i ds e
    cases h
    exact e
  · cases h
def oApp : OM := fun d ds cs Q => bindP (appS cs d ds) fun p => p.1 ∧ Q .non p.2
theorem bindP_mo {α : Type} {o : Option α} {k k' : α → Prop} {z : Lz k} {z' : Lz k'} (h : ∀ a, k a → k' a) (q : bindP o k z) : bindP o k' z' := by
  cases o with
  | none => exact q.elim
  | some a => exact h a q
theorem md_append : MtD X "list.append" oApp := .mk' (fun d ds cs Q Q' h q => bindP_mo (fun p q => ⟨q.1, h _ _ q.2⟩) q) fun pins s σ H x xs v us Q g cs d ds I rx r sr r1 r2 q => by
  unfold oApp at q
  cases ea : appS cs d ds with
  | none => rw [ea] at q; exact q.elim
  | some p =>
    rw [ea] at q
    obtain ⟨hz, q⟩ := q
    unfold appS at ea
    split at ea
    · rename_i n y
      cases el : lstAt cs n with
      | none => rw [el] at ea; cases ea
      | some ys =>
        rw [el] at ea
        cases ea
        obtain ⟨a, e1, h1⟩ := r1
        subst e1
        obtain ⟨vs, q1, q2, q3⟩ := sr.ok n a _ h1 (lstAt_some el)
        obtain ⟨u, ur, e2, h2, h3⟩ := r2
        have h3' : ur = [] := h3
        subst e2 h3'
        exact mt_append pins s σ H _ _ v us Q I rx r ⟨a, vs, u, rfl, rfl, q1, by rw [← q2.length]; exact hz, q g _ _ (Ext.refl g) (sr.put h1 (lstAt_some el) (by simp) ⟨_, upd_same, q2.append (.cons h2 .nil), q3⟩) rfl⟩
    · cases ea
theorem de_append {w : WA} (ho : DE X o wo) (ha : DA X [e] w)
    (hbase : attributeBase o "append" X.env (eval o X.env) = eval o X.env := by rfl)
    (hfew : ((backTo cpos (starEach [e] X.env)).all (fun x => !x.1) && (backToKw cpos (keywordEach [] X.env)).all (fun x => x.1.isSome)
      && decide (([e] : List Expr).length + ([] : List Keyword).length + (if ([] : List Keyword).isEmpty then 0 else 1) < 30)) = true := by rfl)
    (hline : (apos.endLine == cpos.line) = true := by rfl) (hs : starEach [e] X.env = (false, eval e X.env) :: starEach [] X.env := by rfl) (hplain : (backTo cpos (starEach [] X.env)).any (·.1) = false := by rfl) :
    DE X (.Call (.Attribute o "append" apos) [e] [] cpos) (wMt "list" oApp wo w) :=
  de_mt md_append PySem.F.plainAttrs_list PySem.F.slot_list_append PySem.F.type_list_append ho ha hbase hfew hline hs hplain
/-- l.pop(): the last one -/
def popS (cs : Sto) (d : D) (ds : List D) : Option (D × Sto) := match d, ds with
  | .cell n, [] => (lstAt cs n).bind fun xs => (xs[xs.length - 1]?).map fun y => (y, cs.set n (.lst xs.dropLast))
  | _, _ => none
def oPop : OM := fun d ds cs Q => bindP (popS cs d ds) fun p => Q p.1 p.2
theorem RepL.dropLast {K : PySem.W.Frag} {g : G} {ds : List D} {vs : List V} (r : RepL K g ds vs) : RepL K g ds.dropLast vs.dropLast := by
  rw [List.dropLast_eq_take, List.dropLast_eq_take, r.length]
  exact r.take _
theorem md_pop : MtD X "list.pop" oPop := .mk' (fun d ds cs Q Q' h q => bindP_mo (fun p q => h _ _ q) q) fun pins s σ H x xs v us Q g cs d ds I rx r sr r1 r2 q => by
  unfold oPop at q
  cases ea : popS cs d ds with
  | none => rw [ea] at q; exact q.elim
  | some p =>
    rw [ea] at q
    unfold popS at ea
    split at ea
    · rename_i n
      cases el : lstAt cs n with
      | none => rw [el] at ea; cases ea
      | some ys =>
        rw [el] at ea
        obtain ⟨y, hy, ep⟩ := Option.map_eq_some_iff.mp ea
        subst ep
        obtain ⟨a, e1, h1⟩ := r1
        subst e1
        obtain ⟨vs, q1, q2, q3⟩ := sr.ok n a _ h1 (lstAt_some el)
        have h3' : xs = [] := r2
        subst h3'
        obtain ⟨u, hu, ru⟩ := q2.get hy
        exact mt_pop pins s σ H _ _ v us Q I rx r ⟨a, vs, u, rfl, rfl, q1, by rw [← q2.length]; exact hu, q g _ _ (Ext.refl g) (sr.put h1 (lstAt_some el) (by simp) ⟨_, upd_same, q2.dropLast, q3⟩) ru⟩
    · cases ea
/-- i.bit_length() -/
def wBits (w : WE) : WE := fun env cs Q => w env cs fun d cs' => bindP (intD d) fun i => Q (.int (Builtin.Int.intBits i : Nat)) cs'
theorem de_bits {w : WE} (ho : DE X o w) (hbase : attributeBase o "bit_length" X.env (eval o X.env) = eval o X.env := by rfl) (hline : (apos.endLine == pos.line) = true := by rfl) : DE X (.Call (.Attribute o "bit_length" apos) [] [] pos) (wBits w) :=
  ⟨PE.imp (pe_bits ho.pe hbase hline) fun σ H Q ⟨g, cs, env, s, l, h⟩ => lowE.go ho.mo s l h fun d1 cs1 g1 H1 v1 h1 e1 s1 r1 => by
    cases d1 with
    | int i => cases r1; exact ⟨i, rfl, h1 g1 H1 _ e1 s1 rfl⟩
    | _ => exact h1.elim, fun env cs Q Q' h q => ho.mo env cs _ _ (fun d cs1 q => bindP_mo (fun i q => h _ _ q) q) q⟩
/-! ### x in xs -/
def inD (cs : Sto) (neg : Bool) (d1 d2 : D) : Option (Prop × D) := match pyOf cs d1 with
  | some p => match seqOf cs d2 with
    | some ds => match toPyL ds with
      | some qs => some (SeqAt.shaped p = true ∧ SeqAt.shaped (.list qs) = true, .bl (if neg = true then !(qs.any fun z => PyData.eqv z p) else qs.any fun z => PyData.eqv z p))
      | none => none
    | none => none
  | none => none
def oIn (neg : Bool) : O2 := fun d1 d2 cs Q => bindP (inD cs neg d1 d2) fun p => p.1 ∧ Q p.2 cs
theorem dp_sq {K : PySem.W.Frag} {g : G} {cs : Sto} {H : Hp} (s : Sr K g cs H) {d : D} {v : V} {ds : List D} {qs : List PyData} (e : seqOf cs d = some ds) (e2 : toPyL ds = some qs) (r : Rep K g d v) : Dp K H v (.list qs) ∨ Dp K H v (.tuple qs) := by
  obtain ⟨a, vs, e1, h1, h2⟩ := seq_of s e r
  subst e1
  rcases h1 with h1 | h1
  · exact .inl (.lst h1 (dp_toPyL s ds vs qs e2 h2))
  · exact .inr (.tup h1 (dp_toPyL s ds vs qs e2 h2))
theorem opd_inB (neg : Bool) (hu : X.A.units + 65 < cLine) {pins : List (Addr × Obj)} {s : Shared} {σ : L2.St} {H : Hp} {x y : V} {v u : Value} {Q : VK} {g : G} {cs : Sto} {d1 d2 : D} (I : Inv X pins σ H s) (rx : RelV x v) (ry : RelV y u) (sr : Sr X.K g cs H) (r1 : Rep X.K g d1 x) (r2 : Rep X.K g d2 y) (q : oIn neg d1 d2 cs (upV X.K g Q)) :
    wpAny (model X.prog X.w) X.A (compareOp (if neg = true then .NotIn else .In) v u) (EP X pins σ Q) X.xe s := by
  unfold oIn inD at q
  cases e1 : pyOf cs d1 with
  | none => rw [e1] at q; exact q.elim
  | some p =>
    cases e2 : seqOf cs d2 with
    | none => rw [e1, e2] at q; exact q.elim
    | some ds =>
      cases e3 : toPyL ds with
      | none => simp only [e1, e2, e3, bindP_none] at q
      | some qs =>
        simp only [e1, e2, e3, bindP_some] at q
        obtain ⟨as, ra⟩ := Dp.reads I p x v (dp_pyOf sr e1 r1) rx
        have fin := q.2 g H _ (Ext.refl g) sr rfl
        rcases dp_sq sr e2 e3 r2 with h | h
        · obtain ⟨bs, rb⟩ := Dp.reads I (.list qs) y u h ry
          cases neg with
          | false => exact SeqAt.in_list_reads rb ra (SeqAt.canLay_of_shaped q.1.2) (SeqAt.canLay_of_shaped q.1.1) (PyProof.Rows.room_in_shaped q.1.1 hu) ⟨.bl _, H, I, rfl, fin⟩
          | true => exact SeqAt.notIn_list_reads rb ra (SeqAt.canLay_of_shaped q.1.2) (SeqAt.canLay_of_shaped q.1.1) (PyProof.Rows.room_in_shaped q.1.1 hu) ⟨.bl _, H, I, rfl, fin⟩
        · obtain ⟨bs, rb⟩ := Dp.reads I (.tuple qs) y u h ry
          cases neg with
          | false => exact SeqAt.in_tuple_reads rb ra (SeqAt.canLay_of_shaped q.1.2) (SeqAt.canLay_of_shaped q.1.1) (PyProof.Rows.room_in_shaped q.1.1 hu) ⟨.bl _, H, I, rfl, fin⟩
          | true => exact SeqAt.notIn_tuple_reads rb ra (SeqAt.canLay_of_shaped q.1.2) (SeqAt.canLay_of_shaped q.1.1) (PyProof.Rows.room_in_shaped q.1.1 hu) ⟨.bl _, H, I, rfl, fin⟩
theorem opd_in (hu : X.A.units + 65 < cLine) : OpD X (compareOp .In) (oIn false) := .mk' (fun d1 d2 cs Q Q' h q => bindP_mo (fun p q => ⟨q.1, h _ _ q.2⟩) q) fun pins s σ H x y v u Q g cs d1 d2 I rx ry sr r1 r2 q => opd_inB false hu I rx ry sr r1 r2 q
theorem opd_notin (hu : X.A.units + 65 < cLine) : OpD X (compareOp .NotIn) (oIn true) := .mk' (fun d1 d2 cs Q Q' h q => bindP_mo (fun p q => ⟨q.1, h _ _ q.2⟩) q) fun pins s σ H x y v u Q g cs d1 d2 I rx ry sr r1 r2 q => opd_inB true hu I rx ry sr r1 r2 q
theorem any_ints (i : Int) : ∀ ns : List Int, ((ns.map PyData.int).any fun z => PyData.eqv z (.int i)) = decide (i ∈ ns)
  | [] => rfl
  | n :: ns => by
    simp only [List.map_cons, List.any_cons, any_ints i ns]
    rw [Bool.eq_iff_iff]
    simp only [PyData.eqv, Bool.or_eq_true, decide_eq_true_eq, beq_iff_eq, List.mem_cons]
    exact or_congr ⟨Eq.symm, Eq.symm⟩ Iff.rfl
theorem inD_ints {cs : Sto} (neg : Bool) (i : Int) (ns : List Int) : inD cs neg (.int i) (.lst (ns.map .int)) = some (True, .bl (if neg = true then !decide (i ∈ ns) else decide (i ∈ ns))) := by
  simp only [inD, pyOf, toPy, seqOf, lstOf, toPyL_ints, (shaped_ints ns).2, any_ints]
  simp [SeqAt.shaped, PyData.canLay0, PyData.depth]
theorem inD_tints {cs : Sto} (neg : Bool) (i : Int) (ns : List Int) : inD cs neg (.int i) (.tup (ns.map .int)) = some (True, .bl (if neg = true then !decide (i ∈ ns) else decide (i ∈ ns))) := by
  simp only [inD, pyOf, toPy, seqOf, lstOf, toPyL_ints, (shaped_ints ns).2, any_ints]
  simp [SeqAt.shaped, PyData.canLay0, PyData.depth]
/-! ### any, all over ints -/
def anyI (cs : Sto) (d : D) : Option (List Int) := match seqOf cs d with
  | some ds => nums ds
  | none => none
def oAnyI : O1 := fun d cs Q => bindP (anyI cs d) fun ns => Q (.bl (ns.any (· != 0))) cs
theorem nums_some : ∀ {ds : List D} {ns : List Int}, nums ds = some ns → ds = ns.map .int
  | [], ns, h => by cases h; rfl
  | d :: ds, ns, h => by
    cases d with
    | int i =>
      simp only [nums] at h
      cases e : nums ds with
      | none => rw [e] at h; cases h
      | some ms =>
        rw [e] at h
        cases h
        rw [List.map_cons, ← nums_some e]
    | _ => cases h
theorem any_truthy : ∀ ns : List Int, (ns.map PyData.int).any PyData.truthy = ns.any (· != 0)
  | [] => rfl
  | n :: ns => by
    rw [List.map_cons, List.any_cons, List.any_cons, any_truthy ns]
    rfl
theorem plain_ints : ∀ ns : List Int, PyData.plainAll (ns.map .int) = true
  | [] => rfl
  | n :: ns => by
    rw [List.map_cons, PyData.plainAll, plain_ints ns]
    rfl
theorem reads_ints {h : Heap} : ∀ {ns : List Int} {us : List Value}, Vals (ns.map V.int) us → ∃ as, ReadsAll h us (ns.map .int) as
  | [], _, .nil => ⟨_, ReadsAll.nil⟩
  | n :: ns, _, .cons r t => by
    obtain ⟨tk, rfl⟩ := r
    obtain ⟨as, q⟩ := reads_ints (h := h) t
    exact ⟨_, ReadsAll.cons (Reads.int n tk) q⟩
theorem cd_anyI (hc : X.calm = true) : CallD X (.builtin "any") (o1 oAnyI) := cd1 (fun d cs Q Q' h q => bindP_mo (fun ns q => h _ _ q) q) fun pins s σ H x u Q g cs d I ru rv sr r q => by
  unfold oAnyI anyI at q
  cases e : seqOf cs d with
  | none => rw [e] at q; exact q.elim
  | some ds =>
    cases e2 : nums ds with
    | none => simp only [e, e2, bindP_none] at q
    | some ns =>
      simp only [e, e2, bindP_some] at q
      obtain ⟨p, vs, e1, h1, h2⟩ := seq_of sr e r
      subst e1
      have ev : vs = ns.map V.int := RepL.ints (by rw [← nums_some e2]; exact h2)
      subst ev
      rw [Vals.ref1 rv]
      have fin : ∀ h' tk, (∀ b o, s.heap.get? b = some o → h'.get? b = some o) → EP X pins σ Q (.bool ((ns.map PyData.int).any PyData.truthy)) { s with heap := h', toks := tk } := fun h' tk hk => by
        rw [any_truthy]
        exact ⟨.bl _, H, I.kept hk, rfl, q g H _ (Ext.refl g) sr rfl⟩
      rcases h1 with h1 | h1
      · obtain ⟨its, r', pl, hz⟩ := I.list h1
        obtain ⟨as, ra⟩ := reads_ints (h := s.heap) r'
        exact PySem.W.any_list_data (I.ok.hd hc) pl.isList (by simpa using ra) (plain_ints ns) (fun x hx => by obtain ⟨i, _, rfl⟩ := List.mem_map.mp hx; trivial) fin
      · obtain ⟨its, r', pl, hz⟩ := I.tuple h1
        obtain ⟨as, ra⟩ := reads_ints (h := s.heap) r'
        exact PySem.W.any_tuple_data (I.ok.hd hc) pl (by simpa using ra) (plain_ints ns) (fun x hx => by obtain ⟨i, _, rfl⟩ := List.mem_map.mp hx; trivial) fin
end
/-- a module's tuple of ints -/
theorem kon_tup {K : PySem.W.Frag} {h : Heap} {mg : Str → Option Value} (X : K.In h) (G : h.Ns mainGlobals mg) {x : Str} {a : Addr} (q : PySem.W.nsIn K mainGlobals x = some (some (.ref a))) {od : Option Addr} {its : Array Value} {n : Nat} {sl : Array (Option Value)} (l : K.lookup a = some ⟨.type "tuple", od, .seq its n, sl⟩) (ns : List Int) (hv : Vals (ns.map V.int) its.toList) (hz : its.size ≤ sizeLine) : KonD K mg x (.tup (ns.map .int)) :=
  ⟨_, .ref a, PySem.W.mg_of X G q, rfl, fun _ => ⟨a, ns.map V.int, rfl, .inr ⟨_, its, n, l, rfl, rfl, hz, hv⟩, RepL.of_ints ns⟩⟩
section
variable {env : En} {cs : Sto} {Q : PD} {E : DN}
theorem wMt_eq (T : String) (o : OM) (wo : WE) (wa : WA) : wMt T o wo wa env cs Q = wo env cs fun d cs1 => rcvT cs1 d = some T ∧ wa env cs1 fun ds cs2 => o d ds cs2 Q := (rfl)
theorem oApp_eq (d : D) (ds : List D) : oApp d ds cs Q = bindP (appS cs d ds) fun p => p.1 ∧ Q .non p.2 := (rfl)
theorem oPop_eq (d : D) (ds : List D) : oPop d ds cs Q = bindP (popS cs d ds) fun p => Q p.1 p.2 := (rfl)
theorem wBits_eq (w : WE) : wBits w env cs Q = w env cs fun d cs' => bindP (intD d) fun i => Q (.int (Builtin.Int.intBits i : Nat)) cs' := (rfl)
theorem oIn_eq (neg : Bool) (d1 d2 : D) : oIn neg d1 d2 cs Q = bindP (inD cs neg d1 d2) fun p => p.1 ∧ Q p.2 cs := (rfl)
theorem oAnyI_eq (d : D) : oAnyI d cs Q = bindP (anyI cs d) fun ns => Q (.bl (ns.any (· != 0))) cs := (rfl)
theorem appS_cell (n : Nat) (y : D) : appS cs (.cell n) [y] = (lstAt cs n).map fun xs => (xs.length < sizeLine, cs.set n (.lst (xs ++ [y]))) := (rfl)
theorem popS_cell (n : Nat) : popS cs (.cell n) [] = (lstAt cs n).bind fun xs => (xs[xs.length - 1]?).map fun y => (y, cs.set n (.lst xs.dropLast)) := (rfl)
theorem rcvT_cell {n : Nat} {xs : List D} (h : lstAt cs n = some xs) : rcvT cs (.cell n) = some "list" := by simp only [rcvT, lstAt_some h]
theorem rcvT_str (x : Str) : rcvT cs (.str x) = some "str" := (rfl)
theorem rcvT_lst (x : List D) : rcvT cs (.lst x) = some "list" := (rfl)
end
theorem room65 {k : Nat} {A : Around} (r : Room k A) : A.units + 65 < cLine := by
  have := r.un
  omega
theorem rcv_list {cs : Sto} {n : Nat} : (rcvT cs (.cell n) = some "list") = ((lstAt cs n).isSome = true) := by
  unfold rcvT lstAt
  cases e : cs[n]? with
  | none => simp [e]
  | some c => cases c <;> simp [e]
theorem rcv_lst {cs : Sto} {x : List D} : (rcvT cs (.lst x) = some "list") = True := eq_true rfl
theorem szS_lt {n : Nat} (h : n < 4096) : (n < sizeLine) = True := eq_true (Nat.lt_trans h (by rw [sizeLine_eq]; decide))
/-- while, by a measure that falls -/
theorem wloop_inv {t : WT} {wb : WS} {E : DN} (I : Nat → En → Sto → Prop)
    (hs : ∀ k env cs, I k env cs → ∀ E' : DN, (∀ k' env' cs', k' < k → I k' env' cs' → E'.nx env' cs') → (∀ k' env' cs', k' < k → I k' env' cs' → E'.ct env' cs') → (∀ d cs, E.rt d cs → E'.rt d cs) → (∀ env cs, E.nx env cs → E'.bk env cs) → t env cs fun b cs1 => if b = true then wb E' env cs1 else E.nx env cs1) :
    ∀ (n k : Nat) (env : En) (cs : Sto), k < n → I k env cs → wloop t wb E n env cs
  | 0, k, env, cs, h, _ => absurd h (Nat.not_lt_zero k)
  | n + 1, k, env, cs, h, hi => hs k env cs hi { E with nx := wloop t wb E n, ct := wloop t wb E n, bk := E.nx } (fun k' env' cs' hk hi' => wloop_inv I hs n k' env' cs' (by omega) hi') (fun k' env' cs' hk hi' => wloop_inv I hs n k' env' cs' (by omega) hi') (fun _ _ q => q) (fun _ _ q => q)
theorem while_inv {t : WT} {wb : WS} {E : DN} (I : Nat → En → Sto → Prop) {k : Nat} {env : En} {cs : Sto} {z : Lz (t, wb, E, env)} (h : I k env cs)
    (hs : ∀ k env cs, I k env cs → ∀ E' : DN, (∀ k' env' cs', k' < k → I k' env' cs' → E'.nx env' cs') → (∀ k' env' cs', k' < k → I k' env' cs' → E'.ct env' cs') → (∀ d cs, E.rt d cs → E'.rt d cs) → (∀ env cs, E.nx env cs → E'.bk env cs) → t env cs fun b cs1 => cond2 b (wb E' env cs1) (E.nx env cs1)) : whileP t wb E env cs z :=
  ⟨k + 1, wloop_inv I (fun k env cs hi E' h1 h2 h3 h4 => hs k env cs hi E' h1 h2 h3 h4) (k + 1) k env cs (Nat.lt_succ_self k) h⟩
end DL

/-! DComp: comprehensions with two fors, over data. -/
namespace DL
open PySem PySem.Spec L2
open PyProof.Rows (envOfC)
variable [Tbs]

def lc2in (p1 : Pat) (tt1 : WT) (we : WE) (env2 : En) (W1 : Sto → Prop) (k : List D → Sto → Prop) : List D → List D → Sto → Prop
  | [], acc, cs => W1 cs ∧ k acc cs
  | d :: ds, acc, cs => W1 cs ∧ match patSet cs p1 d env2 with
    | some env' => tt1 env' cs fun b cs2 => if b = true then we env' cs2 fun y cs3 => acc.length < sizeLine ∧ lc2in p1 tt1 we env2 W1 k ds (acc ++ [y]) cs3 else lc2in p1 tt1 we env2 W1 k ds acc cs2
    | none => False
theorem lc2in.mo {p1 : Pat} {tt1 : WT} {we : WE} {env2 : En} {W1 : Sto → Prop} {k k' : List D → Sto → Prop} (mt : MonoT tt1) (me : MonoE we) (h : ∀ acc cs, k acc cs → k' acc cs) : ∀ (ds acc : List D) (cs : Sto), lc2in p1 tt1 we env2 W1 k ds acc cs → lc2in p1 tt1 we env2 W1 k' ds acc cs
  | [], acc, cs, q => ⟨q.1, h _ _ q.2⟩
  | d :: ds, acc, cs, q => by
    unfold lc2in at q ⊢
    obtain ⟨q0, q⟩ := q
    refine ⟨q0, ?_⟩
    split at q
    · exact mt _ _ _ _ (fun b cs2 q => ite_mono (fun q => me _ _ _ _ (fun y cs3 q => ⟨q.1, lc2in.mo mt me h ds _ cs3 q.2⟩) q) (fun q => lc2in.mo mt me h ds _ cs2 q) q) q
    · exact q
def lc2out (p : Pat) (tt : WT) (wi1 : WI) (p1 : Pat) (tt1 : WT) (we : WE) (vs1 : List Nat) (env : En) (W : Sto → Prop) (Q : PD) : List D → List D → Sto → Prop
  | [], acc, cs => W cs ∧ Q (.lst acc) cs
  | d :: ds, acc, cs => W cs ∧ match patSet cs p d env with
    | some env' => tt env' cs fun b cs2 => if b = true then wi1 env' cs2 fun ds1 W1 cs3 => lc2in p1 tt1 we (wipeE env' vs1) W1 (fun acc cs => lc2out p tt wi1 p1 tt1 we vs1 env W Q ds acc cs) ds1 acc cs3 else lc2out p tt wi1 p1 tt1 we vs1 env W Q ds acc cs2
    | none => False
theorem lc2out.mo {p : Pat} {tt : WT} {wi1 : WI} {p1 : Pat} {tt1 : WT} {we : WE} {vs1 : List Nat} {env : En} {W : Sto → Prop} {Q Q' : PD} (mt : MonoT tt) (mi1 : MonoI wi1) (mt1 : MonoT tt1) (me : MonoE we) (h : ∀ d cs, Q d cs → Q' d cs) : ∀ (ds acc : List D) (cs : Sto), lc2out p tt wi1 p1 tt1 we vs1 env W Q ds acc cs → lc2out p tt wi1 p1 tt1 we vs1 env W Q' ds acc cs
  | [], acc, cs, q => ⟨q.1, h _ _ q.2⟩
  | d :: ds, acc, cs, q => by
    unfold lc2out at q ⊢
    obtain ⟨q0, q⟩ := q
    refine ⟨q0, ?_⟩
    split at q
    · exact mt _ _ _ _ (fun b cs2 q => ite_mono (fun q => mi1 _ _ _ _ (fun ds1 W1 cs3 q => lc2in.mo mt1 me (fun acc cs q => lc2out.mo mt mi1 mt1 me h ds acc cs q) ds1 acc cs3 q) q) (fun q => lc2out.mo mt mi1 mt1 me h ds _ cs2 q) q) q
    · exact q
def wLc2 (wi : WI) (p : Pat) (tt : WT) (wi1 : WI) (p1 : Pat) (tt1 : WT) (we : WE) (vs vs1 : List Nat) : WE := fun env cs Q => wi env cs fun ds W cs1 => lc2out p tt wi1 p1 tt1 we vs1 (wipeE env vs) W Q ds [] cs1
theorem wLc2.mo {wi : WI} {p : Pat} {tt : WT} {wi1 : WI} {p1 : Pat} {tt1 : WT} {we : WE} {vs vs1 : List Nat} (mi : MonoI wi) (mt : MonoT tt) (mi1 : MonoI wi1) (mt1 : MonoT tt1) (me : MonoE we) : MonoE (wLc2 wi p tt wi1 p1 tt1 we vs vs1) := fun env cs Q Q' h q =>
  mi env cs _ _ (fun ds W cs1 q => lc2out.mo mt mi1 mt1 me h ds [] cs1 q) q
theorem low_lc2 {K : PySem.W.Frag} {wi : WI} {p : Pat} {tt : WT} {wi1 : WI} {p1 : Pat} {tt1 : WT} {we : WE} {vs vs1 : List Nat} (mi : MonoI wi) (mt : MonoT tt) (mi1 : MonoI wi1) (mt1 : MonoT tt1) (me : MonoE we) (hsl : ∀ i ∈ slots p, i ∈ vs) (hsl1 : ∀ i ∈ slots p1, i ∈ vs1) {σ : L2.St} {H : Hp} {Q : VK}
    (h : lowE K (wLc2 wi p tt wi1 p1 tt1 we vs vs1) σ H Q) : tLc2 (lowI K wi) (gOf K p) (lowT K tt) (lowI K wi1) (gOf K p1) (lowT K tt1) (lowE K we) vs vs1 σ H Q := by
  obtain ⟨g, cs, env, s, l, h⟩ := h
  refine lowI.go mi s l h fun ds W cs1 g1 H1 J h1 e1 s1 hJ => ?_
  intro Dd hD
  have sub_trans : ∀ {a b c : G}, Sub a b → Sub b c → Sub a c := fun {a b c} x y => ⟨fun u o h => y.z u o (x.z u o h), by
    obtain ⟨t, q⟩ := x.a
    obtain ⟨t3, q3⟩ := y.a
    exact ⟨t ++ t3, by rw [q3, q]; simp⟩⟩
  refine ⟨fun i m H => m = ds.length - i ∧ i ≤ ds.length ∧ ∃ g2 cs2 acc vacc, Sub g1 g2 ∧ g2.rs = (Dd, .lst vacc) :: g1.rs ∧ Sr K g2 cs2 H ∧ RepL K g2 acc vacc ∧ lc2out p tt wi1 p1 tt1 we vs1 (wipeE env vs) W (upV K g Q) (ds.drop i) acc cs2,
    ⟨ds.length, by simp, Nat.zero_le _, g1.hold Dd (.lst []), cs1, [], [], ⟨fun _ _ h => h, ⟨[], by simp [G.hold]⟩⟩, rfl, s1.hold hD _, rfl, by simpa using h1⟩, ?_⟩
  rintro i m H2 ⟨rfl, hi', g2, cs2, acc, vacc, sb, er, s2, ra, hf⟩
  by_cases hlt : i < ds.length
  · rw [List.drop_eq_getElem_cons hlt] at hf
    unfold lc2out at hf
    obtain ⟨hw, hf⟩ := hf
    obtain ⟨stop, go⟩ := hJ g2 cs2 H2 sb s2 hw
    obtain ⟨hgo, hy⟩ := go i ds[i] (by simp [hlt])
    refine .inr ⟨hgo, fun H' => ∃ g3 cs3 acc3 vacc3, Sub g1 g3 ∧ g3.rs = (Dd, .lst vacc3) :: g1.rs ∧ Sr K g3 cs3 H' ∧ RepL K g3 acc3 vacc3 ∧ lc2out p tt wi1 p1 tt1 we vs1 (wipeE env vs) W (upV K g Q) (ds.drop (i + 1)) acc3 cs3,
      fun H' ⟨g3, cs3, acc3, vacc3, q⟩ => ⟨ds.length - (i + 1), by omega, rfl, hlt, g3, cs3, acc3, vacc3, q⟩, fun x H' y => ?_⟩
    obtain ⟨g3, e3, s3, r3⟩ := hy x H' y
    split at hf
    · rename_i env' hp'
      have lw : Lr K g3 (wipeE env vs) (wipe σ vs) := ⟨((l.mono e1).wiped vs).len, fun i d h => by
        obtain ⟨v, q1, q2⟩ := ((l.mono e1).wiped vs).ok i d h
        exact ⟨v, q1, Rep.sub e3.sub _ _ (Rep.sub sb _ _ q2)⟩⟩
      refine gOf_ok s3 p _ x (wipeE env vs) env' (wipe σ vs) _ r3 lw hp' fun σ' l' hwp => ⟨(hwp vs hsl).trans (wipe_wipe σ (fun i h => h)), ?_⟩
      refine lowT.go mt s3 l' hf fun b cs4 g4 H4 h4 e4 s4 => ?_
      have sb4 : Sub g1 g4 := sub_trans (sub_trans sb e3.sub) e4.sub
      have er4 : g4.rs = (Dd, .lst vacc) :: g1.rs := by rw [e4.r, e3.r, er]
      refine ite_mono (fun h4 => ?_) (fun h4 => ?_) h4
      · refine lowI.go mi1 s4 (l'.mono e4) h4 fun ds1 W1 cs5 g5 H5 J1 h5 e5 s5 hJ1 => ?_
        have sb5 : Sub g1 g5 := sub_trans sb4 e5.sub
        have er5 : g5.rs = (Dd, .lst vacc) :: g1.rs := by rw [e5.r, er4]
        refine ⟨fun j k H => k = ds1.length - j ∧ j ≤ ds1.length ∧ ∃ g6 cs6 acc6 vacc6, Sub g5 g6 ∧ g6.rs = (Dd, .lst vacc6) :: g1.rs ∧ Sr K g6 cs6 H ∧ RepL K g6 acc6 vacc6 ∧ lc2in p1 tt1 we (wipeE env' vs1) W1 (fun acc cs => lc2out p tt wi1 p1 tt1 we vs1 (wipeE env vs) W (upV K g Q) (ds.drop (i + 1)) acc cs) (ds1.drop j) acc6 cs6,
          ⟨ds1.length, by simp, Nat.zero_le _, g5, cs5, acc, vacc, ⟨fun _ _ h => h, ⟨[], by simp⟩⟩, er5, s5, ((ra.mono e3).mono e4).mono e5, by simpa using h5⟩, ?_⟩
        rintro j k H6 ⟨rfl, hj', g6, cs6, acc6, vacc6, sb6, er6, s6, ra6, hf6⟩
        by_cases hlt1 : j < ds1.length
        · rw [List.drop_eq_getElem_cons hlt1] at hf6
          unfold lc2in at hf6
          obtain ⟨hw6, hf6⟩ := hf6
          obtain ⟨stop6, go6⟩ := hJ1 g6 cs6 H6 sb6 s6 hw6
          obtain ⟨hgo6, hy6⟩ := go6 j ds1[j] (by simp [hlt1])
          refine .inr ⟨hgo6, fun H' => ∃ g7 cs7 acc7 vacc7, Sub g5 g7 ∧ g7.rs = (Dd, .lst vacc7) :: g1.rs ∧ Sr K g7 cs7 H' ∧ RepL K g7 acc7 vacc7 ∧ lc2in p1 tt1 we (wipeE env' vs1) W1 (fun acc cs => lc2out p tt wi1 p1 tt1 we vs1 (wipeE env vs) W (upV K g Q) (ds.drop (i + 1)) acc cs) (ds1.drop (j + 1)) acc7 cs7,
            fun H' ⟨g7, cs7, acc7, vacc7, q⟩ => ⟨ds1.length - (j + 1), by omega, rfl, hlt1, g7, cs7, acc7, vacc7, q⟩, fun x1 H7 y1 => ?_⟩
          obtain ⟨g7, e7, s7, r7⟩ := hy6 x1 H7 y1
          split at hf6
          · rename_i env2 hp2
            have lw2 : Lr K g7 (wipeE env' vs1) (wipe σ' vs1) := ⟨((l'.mono (e4.trans e5)).wiped vs1).len, fun i d h => by
              obtain ⟨v, q1, q2⟩ := ((l'.mono (e4.trans e5)).wiped vs1).ok i d h
              exact ⟨v, q1, Rep.sub e7.sub _ _ (Rep.sub sb6 _ _ q2)⟩⟩
            refine gOf_ok s7 p1 _ x1 (wipeE env' vs1) env2 (wipe σ' vs1) _ r7 lw2 hp2 fun σ2 l2 hwp2 => ⟨(hwp2 vs1 hsl1).trans (wipe_wipe σ' (fun i h => h)), ?_⟩
            refine lowT.go mt1 s7 l2 hf6 fun b1 cs8 g8 H8 h8 e8 s8 => ?_
            have sb8 : Sub g5 g8 := sub_trans (sub_trans sb6 e7.sub) e8.sub
            have er8 : g8.rs = (Dd, .lst vacc6) :: g1.rs := by rw [e8.r, e7.r, er6]
            refine ite_mono (fun h8 => ?_) (fun h8 => ?_) h8
            · refine lowE.go me s8 (l2.mono e8) h8 fun y' cs9 g9 H9 v9 ⟨hz9, h9⟩ e9 s9 r9 => ?_
              have er9 : g9.rs = (Dd, .lst vacc6) :: g1.rs := by rw [e9.r, er8]
              obtain ⟨q1, q2, q3⟩ := s9.rs (Dd, .lst vacc6) (by rw [er9]; exact List.mem_cons_self)
              have ra9 : RepL K g9 acc6 vacc6 := ((ra6.mono e7).mono e8).mono e9
              have l9 : vacc6.length = acc6.length := ra6.length.symm
              have sb9 : Sub g9 { g9 with rs := (Dd, .lst (vacc6 ++ [v9])) :: g1.rs } := ⟨fun _ _ h => h, ⟨[], by simp⟩⟩
              exact ⟨vacc6, q1, by omega, { g9 with rs := (Dd, .lst (vacc6 ++ [v9])) :: g1.rs }, cs9, acc6 ++ [y'], vacc6 ++ [v9], sub_trans (sub_trans sb8 e9.sub) sb9, rfl, s9.rehold er9, (ra9.append (.cons r9 .nil)).sub' sb9, h9⟩
            · exact ⟨g8, cs8, acc6, vacc6, sb8, er8, s8, (ra6.mono e7).mono e8, h8⟩
          · exact hf6.elim
        · have e : j = ds1.length := by omega
          subst e
          rw [List.drop_length] at hf6
          obtain ⟨hw6, hf6⟩ := hf6
          obtain ⟨stop6, go6⟩ := hJ1 g6 cs6 H6 sb6 s6 hw6
          exact .inl ⟨stop6 _ (Nat.le_refl _), g6, cs6, acc6, vacc6, sub_trans sb5 sb6, er6, s6, ra6, hf6⟩
      · exact ⟨g4, cs4, acc, vacc, sb4, er4, s4, (ra.mono e3).mono e4, h4⟩
    · exact hf.elim
  · have e : i = ds.length := by omega
    subst e
    rw [List.drop_length] at hf
    obtain ⟨hw, hf⟩ := hf
    obtain ⟨stop, go⟩ := hJ g2 cs2 H2 sb s2 hw
    refine .inl ⟨stop _ (Nat.le_refl _), ?_⟩
    have s3 := s2.unhold er
    have e3 : Ext g1 { g2 with Z := upd g2.Z Dd (.lst vacc), rs := g1.rs } := by
      obtain ⟨q1, q2, q3⟩ := s2.rs (Dd, .lst vacc) (by rw [er]; exact List.mem_cons_self)
      refine ⟨fun a o h => ?_, sb.a, rfl⟩
      show upd g2.Z Dd _ a = some o
      rw [upd_ne (ne_of_none (sb.z a o h) q2)]
      exact sb.z a o h
    have sb3 : Sub g2 { g2 with Z := upd g2.Z Dd (.lst vacc), rs := g1.rs } := by
      obtain ⟨q1, q2, q3⟩ := s2.rs (Dd, .lst vacc) (by rw [er]; exact List.mem_cons_self)
      refine ⟨fun a o h => ?_, ⟨[], by simp⟩⟩
      show upd g2.Z Dd _ a = some o
      rw [upd_ne (ne_of_none h q2)]
      exact h
    exact hf _ H2 _ (e1.trans e3) s3 ⟨Dd, vacc, rfl, upd_same, ra.sub' sb3⟩
section
variable {X : Cx} {pos : Pos}
theorem de_lc2 {elt tg iter tg1 iter1 : Expr} {ifs ifs1 : List Expr} {scope : Scope} {own : List (Str × Nat)} {vs1 : List Nat} {wi wi1 : WI} {p p1 : Pat} {tt tt1 : WT} {we : WE} (hc : X.calm = true) (hN : X.N.Nodup) (hi : DI X tg iter wi) (ok : BlkOk X.N X.env.scope scope own)
    (hg : ∀ (s : Shared) (H : Hp) (C : Addr) (cl : List (Str × Addr)) (fp : List Addr), DG (X.blk s H scope (compEnvC scope cl C X.env) fp) tg p) (ht : ∀ (s : Shared) (H : Hp) (C : Addr) (cl : List (Str × Addr)) (fp : List Addr), DTs (X.blk s H scope (compEnvC scope cl C X.env) fp) ifs tt)
    (hi1 : ∀ (s : Shared) (H : Hp) (C : Addr) (cl : List (Str × Addr)) (fp : List Addr), DI (X.blk s H scope (compEnvC scope cl C X.env) fp) tg1 iter1 wi1)
    (hg1 : ∀ (s : Shared) (H : Hp) (C : Addr) (cl : List (Str × Addr)) (fp : List Addr), DG (X.blk s H scope (compEnvC scope cl C X.env) fp) tg1 p1) (ht1 : ∀ (s : Shared) (H : Hp) (C : Addr) (cl : List (Str × Addr)) (fp : List Addr), DTs (X.blk s H scope (compEnvC scope cl C X.env) fp) ifs1 tt1)
    (he : ∀ (s : Shared) (H : Hp) (C : Addr) (cl : List (Str × Addr)) (fp : List Addr), DE (X.blk s H scope (compEnvC scope cl C X.env) fp) elt we) (hs : ∀ x, foldedSetIterable iter X.env x = pure x := by intro _; rfl) (hs1 : ∀ env x, foldedSetIterable iter1 env x = pure x := by intro _ _; rfl)
    (hv : ∀ i ∈ vs1, i ∈ own.map (·.2) := by decide) (hsl : ∀ i ∈ slots p, i ∈ own.map (·.2) := by decide) (hsl1 : ∀ i ∈ slots p1, i ∈ vs1 := by decide) :
    DE X (.ListComp elt [⟨tg, iter, ifs, 0⟩, ⟨tg1, iter1, ifs1, 0⟩] scope pos) (wLc2 wi p tt wi1 p1 tt1 we (own.map (·.2)) vs1) := by
  have mt : MonoT tt := (ht {} (fun _ => none) 0 [] []).mo
  have mi1 : MonoI wi1 := (hi1 {} (fun _ => none) 0 [] []).mo
  have mt1 : MonoT tt1 := (ht1 {} (fun _ => none) 0 [] []).mo
  have me : MonoE we := (he {} (fun _ => none) 0 [] []).mo
  exact ⟨PE.imp (pe_lc2 (wi := lowI X.K wi) (g := gOf X.K p) (tt := lowT X.K tt) (wi1 := lowI X.K wi1) (g1 := gOf X.K p1) (tt1 := lowT X.K tt1) (te := lowE X.K we) hc hN hi.pe ok hv (fun s H C cl fp => (hg s H C cl fp).pg) (fun s H C cl fp => (ht s H C cl fp).pe) (fun s H C cl fp => (hi1 s H C cl fp).pe) (fun s H C cl fp => (hg1 s H C cl fp).pg) (fun s H C cl fp => (ht1 s H C cl fp).pe) (fun s H C cl fp => (he s H C cl fp).pe) hs hs1) fun σ H Q h => low_lc2 hi.mo mt mi1 mt1 me hsl hsl1 h, wLc2.mo hi.mo mt mi1 mt1 me⟩
theorem ds_setLc2 {i : Nat} {y : Str} {py : Pos} {spos : Pos} {elt tg iter tg1 iter1 : Expr} {ifs ifs1 : List Expr} {scope : Scope} {own : List (Str × Nat)} {vs1 : List Nat} {wi wi1 : WI} {p p1 : Pat} {tt tt1 : WT} {we : WE} (hc : X.calm = true) (hN : X.N.Nodup)
    (hsw : swapsWith (.ListComp elt [⟨tg, iter, ifs, 0⟩, ⟨tg1, iter1, ifs1, 0⟩] scope pos) (some (.Name y py)) spos.line X.env = pure true) (hi : DI X tg iter wi) (ok : BlkOk X.N X.env.scope scope own)
    (hg : ∀ (s : Shared) (H : Hp) (C : Addr) (cl : List (Str × Addr)) (fp : List Addr), DG (X.blk s H scope (compEnvC scope cl C X.env) fp) tg p) (ht : ∀ (s : Shared) (H : Hp) (C : Addr) (cl : List (Str × Addr)) (fp : List Addr), DTs (X.blk s H scope (compEnvC scope cl C X.env) fp) ifs tt)
    (hi1 : ∀ (s : Shared) (H : Hp) (C : Addr) (cl : List (Str × Addr)) (fp : List Addr), DI (X.blk s H scope (compEnvC scope cl C X.env) fp) tg1 iter1 wi1)
    (hg1 : ∀ (s : Shared) (H : Hp) (C : Addr) (cl : List (Str × Addr)) (fp : List Addr), DG (X.blk s H scope (compEnvC scope cl C X.env) fp) tg1 p1) (ht1 : ∀ (s : Shared) (H : Hp) (C : Addr) (cl : List (Str × Addr)) (fp : List Addr), DTs (X.blk s H scope (compEnvC scope cl C X.env) fp) ifs1 tt1)
    (he : ∀ (s : Shared) (H : Hp) (C : Addr) (cl : List (Str × Addr)) (fp : List Addr), DE (X.blk s H scope (compEnvC scope cl C X.env) fp) elt we) (hy : X.N[i]? = some y := by rfl) (hyl : X.env.scope.names.lookup y = some .local := by rfl) (hs : ∀ x, foldedSetIterable iter X.env x = pure x := by intro _; rfl) (hs1 : ∀ env x, foldedSetIterable iter1 env x = pure x := by intro _ _; rfl)
    (hv : ∀ i ∈ vs1, i ∈ own.map (·.2) := by decide) (hsl : ∀ i ∈ slots p, i ∈ own.map (·.2) := by decide) (hsl1 : ∀ i ∈ slots p1, i ∈ vs1 := by decide) :
    DS X (.Assign [.Name y py] (.ListComp elt [⟨tg, iter, ifs, 0⟩, ⟨tg1, iter1, ifs1, 0⟩] scope pos) spos) (wSet i (wLc2 wi p tt wi1 p1 tt1 we (own.map (·.2)) vs1)) := by
  have mt : MonoT tt := (ht {} (fun _ => none) 0 [] []).mo
  have mi1 : MonoI wi1 := (hi1 {} (fun _ => none) 0 [] []).mo
  have mt1 : MonoT tt1 := (ht1 {} (fun _ => none) 0 [] []).mo
  have me : MonoE we := (he {} (fun _ => none) 0 [] []).mo
  refine ⟨PS.imp (ps_setLc2 (wi := lowI X.K wi) (g := gOf X.K p) (tt := lowT X.K tt) (wi1 := lowI X.K wi1) (g1 := gOf X.K p1) (tt1 := lowT X.K tt1) (te := lowE X.K we) hc hN hy hyl hsw hi.pe ok hv (fun s H C cl fp => (hg s H C cl fp).pg) (fun s H C cl fp => (ht s H C cl fp).pe) (fun s H C cl fp => (hi1 s H C cl fp).pe) (fun s H C cl fp => (hg1 s H C cl fp).pg) (fun s H C cl fp => (ht1 s H C cl fp).pe) (fun s H C cl fp => (he s H C cl fp).pe) hs hs1) fun D σ H h => ?_, wSet.mo (wLc2.mo hi.mo mt mi1 mt1 me)⟩
  obtain ⟨g, cs, env, s, l, h⟩ := h
  refine low_lc2 hi.mo mt mi1 mt1 me hsl hsl1 ⟨g, cs, env, s, l, wLc2.mo hi.mo mt mi1 mt1 me _ _ _ _ (fun d cs1 q => ?_) h⟩
  exact fun g1 H1 v e1 s1 r1 => q g1 H1 _ e1 s1 ((l.mono e1).set r1)
end
/-! ### evaluation -/
def lc2P (p : Pat) (tt : WT) (wi1 : WI) (p1 : Pat) (tt1 : WT) (we : WE) (vs1 : List Nat) (env : En) (W : Sto → Prop) (Q : PD) (ds acc : List D) (cs : Sto) (_z : Lz (p, tt, wi1, p1, tt1, we, vs1, env, W, Q) := ⟨⟩) : Prop := lc2out p tt wi1 p1 tt1 we vs1 env W Q ds acc cs
def lc2Q (p1 : Pat) (tt1 : WT) (we : WE) (env2 : En) (W1 : Sto → Prop) (k : List D → Sto → Prop) (ds acc : List D) (cs : Sto) (_z : Lz (p1, tt1, we, env2, W1, k) := ⟨⟩) : Prop := lc2in p1 tt1 we env2 W1 k ds acc cs
theorem lc2P_i {p : Pat} {tt : WT} {wi1 : WI} {p1 : Pat} {tt1 : WT} {we : WE} {vs1 : List Nat} {env : En} {W : Sto → Prop} {Q : PD} {ds acc : List D} {cs : Sto} {z : Lz (p, tt, wi1, p1, tt1, we, vs1, env, W, Q)} (h : lc2out p tt wi1 p1 tt1 we vs1 env W Q ds acc cs) : lc2P p tt wi1 p1 tt1 we vs1 env W Q ds acc cs z := h
theorem lc2Q_i {p1 : Pat} {tt1 : WT} {we : WE} {env2 : En} {W1 : Sto → Prop} {k : List D → Sto → Prop} {ds acc : List D} {cs : Sto} {z : Lz (p1, tt1, we, env2, W1, k)} (h : lc2in p1 tt1 we env2 W1 k ds acc cs) : lc2Q p1 tt1 we env2 W1 k ds acc cs z := h
theorem wLc2_eq (wi : WI) (p : Pat) (tt : WT) (wi1 : WI) (p1 : Pat) (tt1 : WT) (we : WE) (vs vs1 : List Nat) {env : En} {cs : Sto} {Q : PD} : wLc2 wi p tt wi1 p1 tt1 we vs vs1 env cs Q = wi env cs fun ds W cs1 => letE (wipeE env vs) fun env' => lc2P p tt wi1 p1 tt1 we vs1 env' W Q ds [] cs1 := (rfl)
theorem lc2P_nil (p : Pat) (tt : WT) (wi1 : WI) (p1 : Pat) (tt1 : WT) (we : WE) (vs1 : List Nat) (env : En) (W : Sto → Prop) (Q : PD) (acc : List D) (cs : Sto) (z : Lz (p, tt, wi1, p1, tt1, we, vs1, env, W, Q)) : lc2P p tt wi1 p1 tt1 we vs1 env W Q [] acc cs z = (W cs ∧ Q (.lst acc) cs) := (rfl)
theorem lc2P_cons (p : Pat) (tt : WT) (wi1 : WI) (p1 : Pat) (tt1 : WT) (we : WE) (vs1 : List Nat) (env : En) (W : Sto → Prop) (Q : PD) (d : D) (ds acc : List D) (cs : Sto) (z : Lz (p, tt, wi1, p1, tt1, we, vs1, env, W, Q)) : lc2P p tt wi1 p1 tt1 we vs1 env W Q (d :: ds) acc cs z = (W cs ∧ bindP (patSet cs p d env) fun env' => tt env' cs fun b cs2 => cond2 b (wi1 env' cs2 fun ds1 W1 cs3 => letE (wipeE env' vs1) fun env2 => lc2Q p1 tt1 we env2 W1 (fun acc cs => lc2P p tt wi1 p1 tt1 we vs1 env W Q ds acc cs) ds1 acc cs3) (lc2P p tt wi1 p1 tt1 we vs1 env W Q ds acc cs2)) := by
  show lc2out p tt wi1 p1 tt1 we vs1 env W Q (d :: ds) acc cs = _
  unfold lc2out
  cases patSet cs p d env <;> rfl
theorem lc2Q_nil (p1 : Pat) (tt1 : WT) (we : WE) (env2 : En) (W1 : Sto → Prop) (k : List D → Sto → Prop) (acc : List D) (cs : Sto) (z : Lz (p1, tt1, we, env2, W1, k)) : lc2Q p1 tt1 we env2 W1 k [] acc cs z = (W1 cs ∧ k acc cs) := (rfl)
theorem lc2Q_cons (p1 : Pat) (tt1 : WT) (we : WE) (env2 : En) (W1 : Sto → Prop) (k : List D → Sto → Prop) (d : D) (ds acc : List D) (cs : Sto) (z : Lz (p1, tt1, we, env2, W1, k)) : lc2Q p1 tt1 we env2 W1 k (d :: ds) acc cs z = (W1 cs ∧ bindP (patSet cs p1 d env2) fun env' => tt1 env' cs fun b cs2 => cond2 b (we env' cs2 fun y cs3 => acc.length < sizeLine ∧ lc2Q p1 tt1 we env2 W1 k ds (acc ++ [y]) cs3) (lc2Q p1 tt1 we env2 W1 k ds acc cs2)) := by
  show lc2in p1 tt1 we env2 W1 k (d :: ds) acc cs = _
  unfold lc2in
  cases patSet cs p1 d env2 <;> rfl
/-- two walks that change nothing: all pairs -/
theorem lc2_map {p : Pat} {wi1 : WI} {p1 : Pat} {we : WE} {vs1 : List Nat} {env : En} {W : Sto → Prop} {Q : PD} {cs : Sto} (L : D → List D) (f : D → D → D) (W1 : D → Sto → Prop) (hW : W cs) (m : Nat) : ∀ (ds acc : List D)
    (hz : acc.length + (ds.flatMap fun d => (L d).map (f d)).length ≤ sizeLine)
    (hs : ∀ d ∈ ds, ∃ env', patSet cs p d env = some env' ∧ W1 d cs ∧ (∀ R : List D → (Sto → Prop) → Sto → Prop, R (L d) (W1 d) cs → wi1 env' cs R) ∧ ∀ e ∈ L d, ∃ env2, patSet cs p1 e (wipeE env' vs1) = some env2 ∧ ∀ R : PD, R (f d e) cs → we env2 cs R)
    (hd : Q (.lst (acc ++ ds.flatMap fun d => (L d).map (f d))) cs), lc2out p wYes wi1 p1 wYes we vs1 env W Q ds acc cs
  | [], acc, hz, hs, hd => ⟨hW, by simpa using hd⟩
  | d :: ds, acc, hz, hs, hd => by
    obtain ⟨env', e1, hw1, hi, he⟩ := hs d List.mem_cons_self
    refine ⟨hW, ?_⟩
    simp only [e1]
    simp only [wYes, if_true]
    refine hi _ ?_
    have inner : ∀ (es acc' : List D) (k : List D → Sto → Prop), (∀ e ∈ es, ∃ env2, patSet cs p1 e (wipeE env' vs1) = some env2 ∧ ∀ R : PD, R (f d e) cs → we env2 cs R) → acc'.length + es.length ≤ sizeLine → k (acc' ++ es.map (f d)) cs → lc2in p1 wYes we (wipeE env' vs1) (W1 d) k es acc' cs := by
      intro es
      induction es with
      | nil => intro acc' k _ _ hk; exact ⟨hw1, by simpa using hk⟩
      | cons e es ih =>
        intro acc' k hes hz' hk
        obtain ⟨env2, e2, q⟩ := hes e List.mem_cons_self
        refine ⟨hw1, ?_⟩
        simp only [e2]
        simp only [wYes, if_true]
        rw [List.length_cons] at hz'
        exact q _ ⟨by omega, ih _ _ (fun x hx => hes x (List.mem_cons_of_mem _ hx)) (by rw [List.length_append]; simp; omega) (by simpa using hk)⟩
    rw [List.flatMap_cons, List.length_append, List.length_map] at hz
    refine inner _ _ _ he (by omega) ?_
    refine lc2_map L f W1 hW m ds _ ?_ (fun x hx => hs x (List.mem_cons_of_mem _ hx)) ?_
    · rw [List.length_append, List.length_map]
      omega
    · rw [List.flatMap_cons] at hd
      rw [List.append_assoc]
      exact hd
end DL

/-! DEq: == of plain data (no truths among numbers): the data are the same. -/
namespace DL
open PySem PySem.Spec L2
variable [Tbs]

mutual
/-- ints, None, texts, in tuples and lists -/
def PL : Nat → D → Prop
  | _, .int _ => True
  | _, .non => True
  | _, .str x => PySem.PyData.strOk x = true
  | k + 1, .tup ds => PLs k ds
  | k + 1, .lst ds => PLs k ds
  | _, _ => False
def PLs : Nat → List D → Prop
  | _, [] => True
  | k, d :: ds => PL k d ∧ PLs k ds
end
mutual
theorem PL.py : ∀ {k : Nat} {d : D}, PL k d → ∃ p, toPy d = some p ∧ p.canLay0 = true ∧ p.depth ≤ k
  | k, .int i, h => ⟨.int i, by simp only [toPy], by simp [PyData.canLay0], by simp [PyData.depth]⟩
  | k, .non, h => ⟨.none, by simp only [toPy], by simp [PyData.canLay0], by simp [PyData.depth]⟩
  | k, .str x, h => ⟨.str x, by simp only [toPy], by simpa [PyData.canLay0, PL] using h, by simp [PyData.depth]⟩
  | k + 1, .tup ds, h => by
    obtain ⟨ps, e, l, o⟩ := PLs.py (k := k) (ds := ds) (by simpa [PL] using h)
    exact ⟨.tuple ps, by simp only [toPy, e], by simp only [PyData.canLay0]; exact l, by simp only [PyData.depth]; omega⟩
  | k + 1, .lst ds, h => by
    obtain ⟨ps, e, l, o⟩ := PLs.py (k := k) (ds := ds) (by simpa [PL] using h)
    exact ⟨.list ps, by simp only [toPy, e], by simp only [PyData.canLay0]; exact l, by simp only [PyData.depth]; omega⟩
  | 0, .tup ds, h => by simp [PL] at h
  | 0, .lst ds, h => by simp [PL] at h
  | _, .bl _, h => by simp [PL] at h
  | _, .ty _, h => by simp [PL] at h
  | _, .ref _, h => by simp [PL] at h
  | _, .dic _, h => by simp [PL] at h
  | _, .obj _ _, h => by simp [PL] at h
  | _, .cell _, h => by simp [PL] at h
  | _, .scr _, h => by simp [PL] at h
  | _, .err _ _, h => by simp [PL] at h
theorem PLs.py : ∀ {k : Nat} {ds : List D}, PLs k ds → ∃ p, toPyL ds = some p ∧ PyData.canLayAll0 p = true ∧ PyData.depthAll p ≤ k
  | k, [], h => ⟨[], by simp only [toPyL], by simp [PyData.canLayAll0], by simp [PyData.depthAll]⟩
  | k, d :: ds, h => by
    have h' : PL k d ∧ PLs k ds := by simpa [PLs] using h
    obtain ⟨p, e1, l1, o1⟩ := PL.py h'.1
    obtain ⟨ps, e2, l2, o2⟩ := PLs.py h'.2
    exact ⟨p :: ps, by simp only [toPyL, e1, e2], by simp only [PyData.canLayAll0, l1, l2, Bool.and_self], by simp only [PyData.depthAll]; omega⟩
end
mutual
theorem PL.eqv : ∀ {k k' : Nat} {d e : D} {p q : PyData}, PL k d → PL k' e → toPy d = some p → toPy e = some q → (PyData.eqv p q = true ↔ d = e) := by
  intro k k' d e p q h1 h2 e1 e2
  cases d with
  | int i =>
    simp only [toPy, Option.some.injEq] at e1
    subst e1
    cases e with
    | int j => simp only [toPy, Option.some.injEq] at e2; subst e2; simp [PyData.eqv]
    | non => simp only [toPy, Option.some.injEq] at e2; subst e2; simp [PyData.eqv]
    | str y => simp only [toPy, Option.some.injEq] at e2; subst e2; simp [PyData.eqv]
    | tup ds => obtain ⟨p, e3, _⟩ := h2.py; rw [e2] at e3; unfold toPy at e2; split at e2 <;> cases e2; simp [PyData.eqv]
    | lst ds => obtain ⟨p, e3, _⟩ := h2.py; rw [e2] at e3; unfold toPy at e2; split at e2 <;> cases e2; simp [PyData.eqv]
    | _ => simp [toPy] at e2 <;> (cases k' <;> simp [PL] at h2)
  | non =>
    simp only [toPy, Option.some.injEq] at e1
    subst e1
    cases e with
    | int j => simp only [toPy, Option.some.injEq] at e2; subst e2; simp [PyData.eqv]
    | non => simp only [toPy, Option.some.injEq] at e2; subst e2; simp [PyData.eqv]
    | str y => simp only [toPy, Option.some.injEq] at e2; subst e2; simp [PyData.eqv]
    | tup ds => unfold toPy at e2; split at e2 <;> cases e2; simp [PyData.eqv]
    | lst ds => unfold toPy at e2; split at e2 <;> cases e2; simp [PyData.eqv]
    | _ => simp [toPy] at e2 <;> (cases k' <;> simp [PL] at h2)
  | str x =>
    simp only [toPy, Option.some.injEq] at e1
    subst e1
    cases e with
    | int j => simp only [toPy, Option.some.injEq] at e2; subst e2; simp [PyData.eqv]
    | non => simp only [toPy, Option.some.injEq] at e2; subst e2; simp [PyData.eqv]
    | str y => simp only [toPy, Option.some.injEq] at e2; subst e2; simp [PyData.eqv]
    | tup ds => unfold toPy at e2; split at e2 <;> cases e2; simp [PyData.eqv]
    | lst ds => unfold toPy at e2; split at e2 <;> cases e2; simp [PyData.eqv]
    | _ => simp [toPy] at e2 <;> (cases k' <;> simp [PL] at h2)
  | tup ds =>
    cases k with
    | zero => simp [PL] at h1
    | succ k =>
      have h1' : PLs k ds := by simpa [PL] using h1
      obtain ⟨ps, e3, _⟩ := h1'.py
      simp only [toPy, e3, Option.some.injEq] at e1
      subst e1
      cases e with
      | int j => simp only [toPy, Option.some.injEq] at e2; subst e2; simp [PyData.eqv]
      | non => simp only [toPy, Option.some.injEq] at e2; subst e2; simp [PyData.eqv]
      | str y => simp only [toPy, Option.some.injEq] at e2; subst e2; simp [PyData.eqv]
      | tup es =>
        cases k' with
        | zero => simp [PL] at h2
        | succ k' =>
          have h2' : PLs k' es := by simpa [PL] using h2
          obtain ⟨qs, e4, _⟩ := h2'.py
          simp only [toPy, e4, Option.some.injEq] at e2
          subst e2
          simp only [PyData.eqv, D.tup.injEq]
          exact PLs.eqv h1' h2' e3 e4
      | lst es => unfold toPy at e2; split at e2 <;> cases e2; simp [PyData.eqv]
      | _ => simp [toPy] at e2 <;> (cases k' <;> simp [PL] at h2)
  | lst ds =>
    cases k with
    | zero => simp [PL] at h1
    | succ k =>
      have h1' : PLs k ds := by simpa [PL] using h1
      obtain ⟨ps, e3, _⟩ := h1'.py
      simp only [toPy, e3, Option.some.injEq] at e1
      subst e1
      cases e with
      | int j => simp only [toPy, Option.some.injEq] at e2; subst e2; simp [PyData.eqv]
      | non => simp only [toPy, Option.some.injEq] at e2; subst e2; simp [PyData.eqv]
      | str y => simp only [toPy, Option.some.injEq] at e2; subst e2; simp [PyData.eqv]
      | tup es => unfold toPy at e2; split at e2 <;> cases e2; simp [PyData.eqv]
      | lst es =>
        cases k' with
        | zero => simp [PL] at h2
        | succ k' =>
          have h2' : PLs k' es := by simpa [PL] using h2
          obtain ⟨qs, e4, _⟩ := h2'.py
          simp only [toPy, e4, Option.some.injEq] at e2
          subst e2
          simp only [PyData.eqv, D.lst.injEq]
          exact PLs.eqv h1' h2' e3 e4
      | _ => simp [toPy] at e2 <;> (cases k' <;> simp [PL] at h2)
  | _ => simp [toPy] at e1 <;> (cases k <;> simp [PL] at h1)
theorem PLs.eqv : ∀ {k k' : Nat} {ds es : List D} {ps qs : List PyData}, PLs k ds → PLs k' es → toPyL ds = some ps → toPyL es = some qs → (PyData.eqvAll ps qs = true ↔ ds = es) := by
  intro k k' ds es ps qs h1 h2 e1 e2
  cases ds with
  | nil =>
    simp only [toPyL, Option.some.injEq] at e1
    subst e1
    cases es with
    | nil => simp only [toPyL, Option.some.injEq] at e2; subst e2; simp [PyData.eqvAll]
    | cons e es =>
      have h2' : PL k' e ∧ PLs k' es := by simpa [PLs] using h2
      obtain ⟨q, e3, _⟩ := h2'.1.py
      obtain ⟨qs', e4, _⟩ := h2'.2.py
      simp only [toPyL, e3, e4, Option.some.injEq] at e2
      subst e2
      simp [PyData.eqvAll]
  | cons d ds =>
    have h1' : PL k d ∧ PLs k ds := by simpa [PLs] using h1
    obtain ⟨p, e5, _⟩ := h1'.1.py
    obtain ⟨ps', e6, _⟩ := h1'.2.py
    simp only [toPyL, e5, e6, Option.some.injEq] at e1
    subst e1
    cases es with
    | nil => simp only [toPyL, Option.some.injEq] at e2; subst e2; simp [PyData.eqvAll]
    | cons e es =>
      have h2' : PL k' e ∧ PLs k' es := by simpa [PLs] using h2
      obtain ⟨q, e3, _⟩ := h2'.1.py
      obtain ⟨qs', e4, _⟩ := h2'.2.py
      simp only [toPyL, e3, e4, Option.some.injEq] at e2
      subst e2
      simp only [PyData.eqvAll, Bool.and_eq_true, List.cons.injEq, PL.eqv h1'.1 h2'.1 e5 e3, PLs.eqv h1'.2 h2'.2 e6 e4]
end
theorem PL.noC {k : Nat} : ∀ {d : D}, PL k d → noC d = true := fun {d} h => by
  cases d <;> first | rfl | (cases k <;> simp [PL] at h)
/-- == of plain data -/
theorem eqD_pl {cs : Sto} {neg : Bool} {k k' : Nat} {d e : D} {p : Prop} [Decidable p] (h1 : PL k d) (h2 : PL k' e) (hp : d = e ↔ p) (hk : k ≤ 60 := by decide) (hk' : k' ≤ 60 := by decide) : eqD cs neg d e = some (True, .bl (if neg = true then !decide p else decide p)) := by
  obtain ⟨a, e1, l1, o1⟩ := h1.py
  obtain ⟨b, e2, l2, o2⟩ := h2.py
  have s1 : SeqAt.shaped a = true := by
    unfold SeqAt.shaped
    rw [l1]
    simp only [Bool.true_and, decide_eq_true_eq]
    omega
  have s2 : SeqAt.shaped b = true := by
    unfold SeqAt.shaped
    rw [l2]
    simp only [Bool.true_and, decide_eq_true_eq]
    omega
  have ev : PyData.eqv a b = decide p := by
    rw [Bool.eq_iff_iff, PL.eqv h1 h2 e1 e2, hp, decide_eq_true_iff]
  unfold eqD
  split
  · rename_i x y
    have : decide (x = y) = decide p := by
      rw [Bool.eq_iff_iff, decide_eq_true_iff, decide_eq_true_iff, ← hp]
      simp
    rw [this]
  · rw [pyOf_noC h1.noC, pyOf_noC h2.noC, e1, e2]
    simp only [s1, s2, and_self, ev]
theorem eqD_rfl {cs : Sto} {neg : Bool} {k : Nat} {d : D} (h : PL k d) (hk : k ≤ 60 := by decide) : eqD cs neg d d = some (True, .bl (!neg)) := by
  rw [eqD_pl (p := True) h h (by simp) hk hk]
  cases neg <;> rfl
theorem reprD_bl (cs : Sto) (b : Bool) : reprD cs (.bl b) = some (True, shD (.bl b)) := reprD_ok (n := 1) (k := 0) (by simp [DB]) (by decide) (by decide) (by simp [dwt])
theorem PLs.ints {k : Nat} : ∀ ns : List Int, PLs k (ns.map .int)
  | [] => by simp [PLs]
  | n :: ns => by simp only [List.map_cons, PLs, PL, true_and]; exact PLs.ints ns
theorem PLs.map {α : Type} {k : Nat} {f : α → D} : ∀ {xs : List α}, (∀ x ∈ xs, PL k (f x)) → PLs k (xs.map f)
  | [], _ => by simp [PLs]
  | x :: xs, h => by simp only [List.map_cons, PLs]; exact ⟨h x List.mem_cons_self, PLs.map fun y hy => h y (List.mem_cons_of_mem _ hy)⟩
theorem PLs.app {k : Nat} : ∀ {ds es : List D}, PLs k ds → PLs k es → PLs k (ds ++ es)
  | [], _, _, h => h
  | d :: ds, es, h, h2 => by
    have h' : PL k d ∧ PLs k ds := by simpa [PLs] using h
    simp only [List.cons_append, PLs]
    exact ⟨h'.1, PLs.app h'.2 h2⟩
/-! ### comprehensions over ranges -/
theorem lc_rng {pt : Pat} {we : WE} {env : En} {W : Sto → Prop} {Q : PD} {cs : Sto} {z : Lz (pt, wYes, we, env, W, Q)} (f : Nat → D) (hW : W cs) (m : Nat)
    (hs : ∀ k < m, ∃ env', patSet cs pt (.int (k : Int)) env = some env' ∧ ∀ R : PD, R (f k) cs → we env' cs R) (hd : Q (.lst ((List.range m).map f)) cs) : lcP pt wYes we env W Q (rngD 0 m) [] cs z := by
  refine lcP_i (lc_inv (fun i acc cs' => (acc = (List.range i).map f) ∧ cs' = cs) _ _ _ ⟨rfl, rfl⟩ (fun _ _ _ e => e.2 ▸ hW) ?_ ?_)
  · rintro i d _ _ he ⟨rfl, rfl⟩
    obtain ⟨hi, rfl⟩ := rngD_get he
    obtain ⟨env', e, q⟩ := hs i hi
    rw [Int.zero_add]
    refine ⟨env', e, fun R1 R2 r1 r2 => ?_⟩
    simp only [wYes, if_true]
    exact q _ (r1 _ _ ⟨by rw [List.range_succ, List.map_append]; rfl, rfl⟩)
  · rintro _ _ ⟨rfl, rfl⟩
    rw [rngD_len]
    exact hd
theorem lc_rngf {pt : Pat} {tt : WT} {we : WE} {env : En} {W : Sto → Prop} {Q : PD} {cs : Sto} {z : Lz (pt, tt, we, env, W, Q)} (t : Nat → Bool) (f : Nat → D) (hW : W cs) (m : Nat)
    (hs : ∀ k < m, ∃ env', patSet cs pt (.int (k : Int)) env = some env' ∧ (∀ R : Bool → Sto → Prop, R (t k) cs → tt env' cs R) ∧ (t k = true → ∀ R : PD, R (f k) cs → we env' cs R)) (hd : Q (.lst (((List.range m).filter t).map f)) cs) : lcP pt tt we env W Q (rngD 0 m) [] cs z := by
  refine lcP_i (lc_inv (fun i acc cs' => (acc = ((List.range i).filter t).map f) ∧ cs' = cs) _ _ _ ⟨rfl, rfl⟩ (fun _ _ _ e => e.2 ▸ hW) ?_ ?_)
  · rintro i d _ _ he ⟨rfl, rfl⟩
    obtain ⟨hi, rfl⟩ := rngD_get he
    obtain ⟨env', e, q1, q2⟩ := hs i hi
    rw [Int.zero_add]
    refine ⟨env', e, fun R1 R2 r1 r2 => q1 _ ?_⟩
    have e2 : ((List.range (i + 1)).filter t).map f = ((List.range i).filter t).map f ++ if t i = true then [f i] else [] := by
      rw [List.range_succ, List.filter_append, List.map_append]
      congr 1
      cases ht : t i <;> simp [ht]
    cases ht : t i with
    | true =>
      rw [if_pos rfl]
      rw [ht, if_pos rfl] at e2
      exact q2 ht _ (r1 _ _ ⟨e2.symm, rfl⟩)
    | false =>
      rw [if_neg (by simp)]
      rw [ht, if_neg (by simp), List.append_nil] at e2
      exact r2 _ ⟨e2.symm, rfl⟩
  · rintro _ _ ⟨rfl, rfl⟩
    rw [rngD_len]
    exact hd
/-- enumerate -/
theorem lc_en {α : Type} {pt : Pat} {we : WE} {env : En} {W : Sto → Prop} {Q : PD} {cs : Sto} {z : Lz (pt, wYes, we, env, W, Q)} (xs : List α) (g : α → D) (f : Nat → α → D) (hW : W cs)
    (hs : ∀ (k : Nat) x, xs[k]? = some x → ∃ env', patSet cs pt (.tup [.int (k : Int), g x]) env = some env' ∧ ∀ R : PD, R (f k x) cs → we env' cs R) (hd : Q (.lst (xs.mapIdx f)) cs) : lcP pt wYes we env W Q (enD 0 (xs.map g)) [] cs z := by
  refine lcP_i (lc_inv (fun i acc cs' => (acc = (xs.take i).mapIdx f) ∧ cs' = cs) _ _ _ ⟨by simp, rfl⟩ (fun _ _ _ e => e.2 ▸ hW) ?_ ?_)
  · rintro i d _ _ he ⟨rfl, rfl⟩
    obtain ⟨y, h1, rfl⟩ := enD_get _ _ _ _ he
    rw [List.getElem?_map] at h1
    obtain ⟨x, hx, rfl⟩ := Option.map_eq_some_iff.mp h1
    have hi : i < xs.length := (List.getElem?_eq_some_iff.mp hx).1
    obtain ⟨env', e, q⟩ := hs i x hx
    rw [Nat.zero_add]
    refine ⟨env', e, fun R1 R2 r1 r2 => ?_⟩
    simp only [wYes, if_true]
    refine q _ (r1 _ _ ⟨?_, rfl⟩)
    rw [List.take_add_one, hx, List.mapIdx_append, List.length_take, Nat.min_eq_left (by omega)]
    simp
  · rintro _ _ ⟨rfl, rfl⟩
    have e : xs.take (enD 0 (xs.map g)).length = xs := by rw [enD_len, List.length_map, List.take_length]
    rw [e]
    exact hd
end DL

/-! DSeq: len(set(x)), list(range(..)), pop(i), extend; changing lists made by list(..). -/
namespace DL
open PySem PySem.Spec L2
open PyProof.Rows (IntsAre)
variable [Tbs]

/-- how many unlike ones -/
def ddup : List Int → List Int
  | [] => []
  | n :: ns => if n ∈ ns then ddup ns else n :: ddup ns
theorem mem_ddup : ∀ {ns : List Int} {k : Int}, k ∈ ddup ns ↔ k ∈ ns
  | [], k => Iff.rfl
  | n :: ns, k => by
    unfold ddup
    split
    · rename_i h
      rw [mem_ddup, List.mem_cons]
      constructor
      · exact .inr
      · rintro (rfl | h2)
        · exact h
        · exact h2
    · rw [List.mem_cons, List.mem_cons, mem_ddup]
theorem nodup_ddup : ∀ ns : List Int, (ddup ns).Nodup
  | [] => List.nodup_nil
  | n :: ns => by
    unfold ddup
    split
    · exact nodup_ddup ns
    · rename_i h
      exact List.nodup_cons.mpr ⟨fun z => h (mem_ddup.mp z), nodup_ddup ns⟩
def dnum (ns : List Int) : Nat := (ddup ns).length
theorem dnum_nodup {ns : List Int} (h : ns.Nodup) : dnum ns = ns.length := by
  induction ns with
  | nil => rfl
  | cons n ns ih =>
    obtain ⟨h1, h2⟩ := List.nodup_cons.mp h
    have := ih h2
    unfold dnum at this ⊢
    unfold ddup
    rw [if_neg h1, List.length_cons, List.length_cons, this]
theorem dnum_le : ∀ ns : List Int, dnum ns ≤ ns.length
  | [] => Nat.le_refl _
  | n :: ns => by
    have := dnum_le ns
    unfold dnum at this ⊢
    unfold ddup
    split
    · rw [List.length_cons]; omega
    · rw [List.length_cons, List.length_cons]; omega
theorem nodup_dnum : ∀ {ns : List Int}, dnum ns = ns.length → ns.Nodup
  | [], _ => List.nodup_nil
  | n :: ns, h => by
    have h0 := dnum_le ns
    unfold dnum at h h0
    unfold ddup at h
    split at h
    · rw [List.length_cons] at h; omega
    · rename_i hn
      rw [List.length_cons, List.length_cons] at h
      exact List.nodup_cons.mpr ⟨hn, nodup_dnum (by unfold dnum; omega)⟩
theorem nodup_len {l l' : List Int} (h : l.Nodup) (h' : l'.Nodup) (e : ∀ k, k ∈ l ↔ k ∈ l') : l.length = l'.length :=
  ((List.perm_ext_iff_of_nodup h h').mpr e).length_eq
theorem dnum_of {l ns : List Int} (h : l.Nodup) (e : ∀ k, k ∈ l ↔ k ∈ ns) : l.length = dnum ns := nodup_len h (nodup_ddup ns) fun k => (e k).trans mem_ddup.symm
theorem fm_nodup (val : Nat → Int) : ∀ i, (PyProof.Rows.firstMet val i).Nodup
  | 0 => List.nodup_nil
  | i + 1 => by
    rw [PyProof.Rows.firstMet_succ]
    unfold PyProof.Rows.step_dedup
    split
    · exact fm_nodup val i
    · rename_i h
      rw [List.nodup_append]
      refine ⟨fm_nodup val i, by simp, ?_⟩
      intro a ha b hb e
      have : b = val i := by simpa using hb
      subst this
      subst e
      exact h (List.any_eq_true.mpr ⟨_, ha, beq_self_eq_true _⟩)
theorem fm_mem (ns : List Int) (k : Int) : k ∈ PyProof.Rows.firstMet (fun i => ns.getD i 0) ns.length ↔ k ∈ ns := by
  have h := PyProof.Rows.firstMet_any (fun i => ns.getD i 0) ns.length k
  have e : (List.range ns.length).map (fun i => ns.getD i 0) = ns := by
    apply List.ext_getElem
    · simp
    · intro i h1 h2
      simp only [List.getElem_map, List.getElem_range, List.getD_eq_getElem?_getD, List.getElem?_eq_getElem h2]
      rfl
  rw [e] at h
  have a : ∀ l : List Int, (l.any (· == k)) = true ↔ k ∈ l := fun l => by
    rw [List.any_eq_true]
    exact ⟨fun ⟨x, hx, q⟩ => by rw [← beq_iff_eq.mp q]; exact hx, fun hk => ⟨k, hk, beq_self_eq_true _⟩⟩
  rw [← a, ← a, h]
section
variable {X : Cx}
def tLenSetA (K : PySem.W.Frag) (ta : TE) : TE := fun σ H Q => ta σ H fun x H1 => ∃ (l : Addr) (ns : List Int), x = V.ref l ∧ (SqL K H1 l (ns.map V.int) ∨ SqT K H1 l (ns.map V.int)) ∧ ns.length < 60 ∧ Q (.int (dnum ns)) H1
theorem pe_lenSetA {a : Expr} {ta : TE} {p p2 q pos : Pos} (hc : X.calm = true) (hg : Gl X "len") (hm : X.mg "len" = none) (hg2 : Gl X "set") (hm2 : X.mg "set" = none) (ha : PE X a ta)
    (na : starEach [a] X.env = (false, eval a X.env) :: starEach [] X.env := by rfl) : PE X (.Call (.Name "len" p) [.Call (.Name "set" p2) [a] [] q] [] pos) (tLenSetA X.K ta) := by
  refine ⟨fun pins s σ H Q I h => ?_⟩
  refine PyProof.Rows.Call_ (ld_blt I hg hm PySem.boot_len ?_)
  refine PyProof.Rows.callWith_builtin1 (PyProof.Rows.args_cons ?_ rfl) rfl rfl
  refine PyProof.Rows.Call_ (ld_blt I hg2 hm2 PyProof.Rows.boot_set ?_)
  refine PyProof.Rows.callWith_type1 (PyProof.Rows.args_cons (thn (ha.run pins s σ H _ I h) fun v s1 ⟨x, H1, I1, r1, q1⟩ => PyProof.Rows.args_nil ?_) na) na rfl
  obtain ⟨l, ns, rfl, hq, h1, q1⟩ := q1
  cases r1
  rcases hq with hq | hq
  · obtain ⟨its, r, pl, hz⟩ := I1.list hq
    have hl : its.toArray.size = ns.length := by rw [List.size_toArray, ← r.length, List.length_map]
    refine call_set_list (I1.ok.hd hc) pl.isList (ns := ns) (by simpa using r.ints) (by unfold scanBound; omega) fun h' tk hS hk => ?_
    rw [hl] at hS
    refine PyProof.Rows.args_nil ?_
    have hd0 := dnum_of (fm_nodup (fun i => ns.getD i 0) ns.length) (fm_mem ns)
    have hle := dnum_le ns
    obtain ⟨o, es, ep, t, ho, hex, hd, _, _, _, hf, hn⟩ := hS
    have I2 : Inv X pins σ H1 { s1 with heap := h', toks := tk } := I1.kept fun b o e => hk b o (Heap.lt_size e) e
    exact call_len_set ho hex hd hf (by rw [hn] <;> omega) ⟨.int (dnum ns), H1, I2.tok _, ⟨_, by rw [hn, hd0]⟩, q1⟩
  · obtain ⟨its, r, pt, hz⟩ := I1.tuple hq
    refine call_set_tupI (items := its.toArray) ns (I1.ok.hd hc) (show s1.heap.IsTuple l its.toArray from pt) (by simpa using r.ints) (by unfold scanBound; omega) fun h' tk c hS _ hk => ?_
    refine PyProof.Rows.args_nil ?_
    have hle := dnum_le ns
    obtain ⟨o, es, ep, t, ho, hex, hd, hge, hnd, hmem, _, hf, hn, _⟩ := hS
    have hc2 : (es.toList.map keyOf).length = dnum ns := dnum_of hnd fun k => by
      rw [← hmem k]
      exact decide_eq_true_iff
    rw [List.length_map, Array.length_toList] at hc2
    have I2 : Inv X pins σ H1 { s1 with heap := h', toks := tk } := I1.kept hk
    exact call_len_set ho hex hd hf (by rw [hc2] <;> omega) ⟨.int (dnum ns), H1, I2.tok _, ⟨_, by rw [hc2]⟩, q1⟩
/-- ints in a list or tuple -/
def wLenSet (w : WE) : WE := fun env cs Q => w env cs fun d cs' => bindP (anyI cs' d) fun ns => ns.length < 60 ∧ Q (.int (dnum ns)) cs'
theorem de_lenSet {a : Expr} {wa : WE} {p p2 q pos : Pos} (hc : X.calm = true) (hm : X.mg "len" = none) (hm2 : X.mg "set" = none) (ha : DE X a wa) (hg : Gl X "len" := by rfl) (hg2 : Gl X "set" := by rfl)
    (na : starEach [a] X.env = (false, eval a X.env) :: starEach [] X.env := by rfl) : DE X (.Call (.Name "len" p) [.Call (.Name "set" p2) [a] [] q] [] pos) (wLenSet wa) :=
  ⟨PE.imp (pe_lenSetA hc hg hm hg2 hm2 ha.pe na) fun σ H Q ⟨g, cs, env, s, l, h⟩ => lowE.go ha.mo s l h fun d cs1 g1 H1 v1 h1 e1 s1 r1 => by
    unfold anyI at h1
    cases e : seqOf cs1 d with
    | none => rw [e] at h1; exact h1.elim
    | some ds =>
      cases e2 : nums ds with
      | none => simp only [e, e2, bindP_none] at h1
      | some ns =>
        simp only [e, e2, bindP_some] at h1
        obtain ⟨p', vs, f1, hq, r2⟩ := seq_of s1 e r1
        have ev : vs = ns.map V.int := nums_rep r2 e2
        subst ev
        exact ⟨p', ns, f1, hq, h1.1, h1.2 g1 H1 _ e1 s1 rfl⟩,
    fun env cs Q Q' h q => ha.mo env cs _ _ (fun d cs1 q => bindP_mo (fun ns q => ⟨q.1, h _ _ q.2⟩) q) q⟩
/-! ### list(range(..)) -/
theorem rg_rep {K : PySem.W.Frag} {g : G} (a b : Int) : RepL K g (rngD a (b - a).toNat) (rgV a b) := by
  unfold rngD rgV
  have : ∀ (l : List Nat), RepL K g (l.map fun i : Nat => D.int (a + (i : Nat))) (l.map fun i : Nat => V.int (a + (i : Nat))) := fun l => by
    induction l with
    | nil => exact rfl
    | cons x l ih => exact ⟨_, _, rfl, rfl, ih⟩
  exact this _
def wLRg1 (wa : WE) : WE := fun env cs Q => wa env cs fun d cs' => bindP (intD d) fun n => RgOk 0 n ∧ Q (.lst (rngD 0 n.toNat)) cs'
def wCRg1 (wa : WE) : WE := fun env cs Q => wa env cs fun d cs' => bindP (intD d) fun n => RgOk 0 n ∧ Q (.cell cs'.length) (cs' ++ [.lst (rngD 0 n.toNat)])
theorem new_cel {K : PySem.W.Frag} {g : G} {cs : Sto} {H : Hp} {Q : VK} {ds : List D} {vs : List V} (s : Sr K g cs H) (r : RepL K g ds vs) (h : upV K g Q (.cell cs.length) (cs ++ [.lst ds])) : ∀ p, H p = none → Q (.ref p) (upd H p (.lst vs)) := fun p hp =>
  h (g.cel p) _ _ (Ext.cel p) (s.cel hp ⟨vs, upd_same, r.mono (Ext.cel p), s.free hp⟩) ⟨p, rfl, by
    rw [← s.len]
    show (g.as ++ [p])[g.as.length]? = some p
    simp⟩
theorem de_lstRg1 {a : Expr} {wa : WE} {p p2 q pos : Pos} (hc : X.calm = true) (hm : X.mg "list" = none) (hm2 : X.mg "range" = none) (ha : DE X a wa) (hg : Gl X "list" := by rfl) (hg2 : Gl X "range" := by rfl)
    (na : starEach [a] X.env = (false, eval a X.env) :: starEach [] X.env := by rfl)
    (na2 : starEach [.Call (.Name "range" p2) [a] [] q] X.env = (false, eval (.Call (.Name "range" p2) [a] [] q) X.env) :: starEach [] X.env := by rfl) : DE X (.Call (.Name "list" p) [.Call (.Name "range" p2) [a] [] q] [] pos) (wLRg1 wa) :=
  ⟨PE.imp (pe_listRg hc hg hm (prg_1 hg2 hm2 ha.pe na) na2) fun σ H Q ⟨g, cs, env, s, l, h⟩ => lowE.go ha.mo s l h fun d cs1 g1 H1 v1 h1 e1 s1 r1 => by
    cases d with
    | int n =>
      cases r1
      have e : (n - 0).toNat = n.toNat := by rw [Int.sub_zero]
      have r := rg_rep (K := X.K) (g := g1) 0 n
      rw [e] at r
      exact ⟨n, rfl, h1.1, new_lst s1 r (upV.mono e1 h1.2)⟩
    | _ => exact h1.elim,
    fun env cs Q Q' h q => ha.mo env cs _ _ (fun d cs1 q => bindP_mo (fun ns q => ⟨q.1, h _ _ q.2⟩) q) q⟩
theorem de_celRg1 {a : Expr} {wa : WE} {p p2 q pos : Pos} (hc : X.calm = true) (hm : X.mg "list" = none) (hm2 : X.mg "range" = none) (ha : DE X a wa) (hg : Gl X "list" := by rfl) (hg2 : Gl X "range" := by rfl)
    (na : starEach [a] X.env = (false, eval a X.env) :: starEach [] X.env := by rfl)
    (na2 : starEach [.Call (.Name "range" p2) [a] [] q] X.env = (false, eval (.Call (.Name "range" p2) [a] [] q) X.env) :: starEach [] X.env := by rfl) : DE X (.Call (.Name "list" p) [.Call (.Name "range" p2) [a] [] q] [] pos) (wCRg1 wa) :=
  ⟨PE.imp (pe_listRg hc hg hm (prg_1 hg2 hm2 ha.pe na) na2) fun σ H Q ⟨g, cs, env, s, l, h⟩ => lowE.go ha.mo s l h fun d cs1 g1 H1 v1 h1 e1 s1 r1 => by
    cases d with
    | int n =>
      cases r1
      have e : (n - 0).toNat = n.toNat := by rw [Int.sub_zero]
      have r := rg_rep (K := X.K) (g := g1) 0 n
      rw [e] at r
      exact ⟨n, rfl, h1.1, new_cel s1 r (upV.mono e1 h1.2)⟩
    | _ => exact h1.elim,
    fun env cs Q Q' h q => ha.mo env cs _ _ (fun d cs1 q => bindP_mo (fun ns q => ⟨q.1, h _ _ q.2⟩) q) q⟩
/-- list(x), which will change -/
def oListC : O1 := fun d cs Q => bindP (seqOf cs d) fun ds => Q (.cell cs.length) (cs ++ [.lst ds])
theorem cd_listC : CallD X (.type "list") (o1 oListC) := cd1 (fun d cs Q Q' h q => bindP_mo (fun ds q => h _ _ q) q) fun pins s σ H x u Q g cs d I ru rv sr r q => by
  unfold oListC at q
  cases e : seqOf cs d with
  | none => rw [e] at q; exact q.elim
  | some ds =>
    rw [e] at q
    simp only [bindP_some] at q
    obtain ⟨a, vs, e1, h1, h2⟩ := seq_of sr e r
    subst e1
    exact call_list_of pins s σ H _ _ Q I rv ⟨a, vs, rfl, h1, new_cel sr h2 q⟩
/-! ### pop(i), extend -/
def popAtS (cs : Sto) (d : D) (ds : List D) : Option (Prop × D × Sto) := match d, ds with
  | .cell n, [.int i] => (lstAt cs n).bind fun xs => (seqIndex? i xs.length).bind fun k => (xs[k]?).map fun y => (-(2 ^ 63) ≤ i ∧ i < 2 ^ 63, y, cs.set n (.lst (xs.eraseIdx k)))
  | _, _ => none
def oPopAt : OM := fun d ds cs Q => bindP (popAtS cs d ds) fun p => p.1 ∧ Q p.2.1 p.2.2
theorem RepL.erase {K : PySem.W.Frag} {g : G} : ∀ {ds : List D} {vs : List V} (k : Nat), RepL K g ds vs → RepL K g (ds.eraseIdx k) (vs.eraseIdx k)
  | [], vs, k, r => by
    have r' : vs = [] := r
    subst r'
    exact rfl
  | d :: ds, vs, 0, r => by
    obtain ⟨v, r', e1, h1, h2⟩ := r
    subst e1
    exact h2
  | d :: ds, vs, k + 1, r => by
    obtain ⟨v, r', e1, h1, h2⟩ := r
    subst e1
    exact ⟨v, _, rfl, h1, RepL.erase k h2⟩
theorem md_popAt : MtD X "list.pop" oPopAt := .mk' (fun d ds cs Q Q' h q => bindP_mo (fun p q => ⟨q.1, h _ _ q.2⟩) q) fun pins s σ H x xs v us Q g cs d ds I rx r sr r1 r2 q => by
  unfold oPopAt at q
  cases ea : popAtS cs d ds with
  | none => rw [ea] at q; exact q.elim
  | some p =>
    rw [ea] at q
    unfold popAtS at ea
    split at ea
    · rename_i n i
      cases el : lstAt cs n with
      | none => rw [el] at ea; cases ea
      | some ys =>
        rw [el] at ea
        simp only [Option.bind_some] at ea
        cases ek : seqIndex? i ys.length with
        | none => rw [ek] at ea; cases ea
        | some k =>
          rw [ek] at ea
          simp only [Option.bind_some] at ea
          obtain ⟨y, hy, ep⟩ := Option.map_eq_some_iff.mp ea
          subst ep
          obtain ⟨a, e1, h1⟩ := r1
          subst e1
          obtain ⟨vs, q1, q2, q3⟩ := sr.ok n a _ h1 (lstAt_some el)
          obtain ⟨v1, r', ev, w1, w2⟩ := r2
          have w2' : r' = [] := w2
          subst w2' ev
          cases w1
          obtain ⟨u, hu, ru⟩ := q2.get hy
          simp only [bindP_some] at q
          exact mt_popAt pins s σ H _ _ v us Q I rx r ⟨a, vs, i, k, u, rfl, rfl, q1, q.1.1, q.1.2, by rw [← q2.length]; exact ek, hu, q.2 g _ _ (Ext.refl g) (sr.put h1 (lstAt_some el) (by simp) ⟨_, upd_same, q2.erase k, q3⟩) ru⟩
    · cases ea
def extS (cs : Sto) (d : D) (ds : List D) : Option (Prop × Sto) := match d, ds with
  | .cell n, [e] => (lstAt cs n).bind fun xs => (lstOf cs e).map fun ys => (xs.length + ys.length ≤ sizeLine, cs.set n (.lst (xs ++ ys)))
  | _, _ => none
def oExt : OM := fun d ds cs Q => bindP (extS cs d ds) fun p => p.1 ∧ Q .non p.2
theorem md_extend : MtD X "list.extend" oExt := .mk' (fun d ds cs Q Q' h q => bindP_mo (fun p q => ⟨q.1, h _ _ q.2⟩) q) fun pins s σ H x xs v us Q g cs d ds I rx r sr r1 r2 q => by
  unfold oExt at q
  cases ea : extS cs d ds with
  | none => rw [ea] at q; exact q.elim
  | some p =>
    rw [ea] at q
    unfold extS at ea
    split at ea
    · rename_i n e
      cases el : lstAt cs n with
      | none => rw [el] at ea; cases ea
      | some ys =>
        rw [el] at ea
        simp only [Option.bind_some] at ea
        obtain ⟨zs, hz, ep⟩ := Option.map_eq_some_iff.mp ea
        subst ep
        obtain ⟨a, e1, h1⟩ := r1
        subst e1
        obtain ⟨vs, q1, q2, q3⟩ := sr.ok n a _ h1 (lstAt_some el)
        obtain ⟨v1, r', ev, w1, w2⟩ := r2
        have w2' : r' = [] := w2
        subst w2' ev
        obtain ⟨b, ws, eb, hb, rb⟩ := rd_of sr hz w1
        subst eb
        simp only [bindP_some] at q
        exact mt_extend pins s σ H _ _ v us Q I rx r ⟨a, b, vs, ws, rfl, rfl, q1, hb, by rw [← q2.length, ← rb.length]; exact q.1, q.2 g _ _ (Ext.refl g) (sr.put h1 (lstAt_some el) (by simp) ⟨_, upd_same, q2.append rb, q3⟩) rfl⟩
    · cases ea
end
/-! ### evaluation -/
section
variable {env : En} {cs : Sto} {Q : PD}
theorem wLenSet_eq (w : WE) : wLenSet w env cs Q = w env cs fun d cs' => bindP (anyI cs' d) fun ns => ns.length < 60 ∧ Q (.int (dnum ns)) cs' := (rfl)
theorem wLRg1_eq (w : WE) : wLRg1 w env cs Q = w env cs fun d cs' => bindP (intD d) fun n => RgOk 0 n ∧ Q (.lst (rngD 0 n.toNat)) cs' := (rfl)
theorem wCRg1_eq (w : WE) : wCRg1 w env cs Q = w env cs fun d cs' => bindP (intD d) fun n => RgOk 0 n ∧ Q (.cell cs'.length) (cs' ++ [.lst (rngD 0 n.toNat)]) := (rfl)
theorem oListC_eq (d : D) : oListC d cs Q = bindP (seqOf cs d) fun ds => Q (.cell cs.length) (cs ++ [.lst ds]) := (rfl)
theorem oPopAt_eq (d : D) (ds : List D) : oPopAt d ds cs Q = bindP (popAtS cs d ds) fun p => p.1 ∧ Q p.2.1 p.2.2 := (rfl)
theorem oExt_eq (d : D) (ds : List D) : oExt d ds cs Q = bindP (extS cs d ds) fun p => p.1 ∧ Q .non p.2 := (rfl)
theorem popAtS_cell (n : Nat) (i : Int) : popAtS cs (.cell n) [.int i] = (lstAt cs n).bind fun xs => (seqIndex? i xs.length).bind fun k => (xs[k]?).map fun y => (-(2 ^ 63) ≤ i ∧ i < 2 ^ 63, y, cs.set n (.lst (xs.eraseIdx k))) := (rfl)
theorem extS_cell (n : Nat) (e : D) : extS cs (.cell n) [e] = (lstAt cs n).bind fun xs => (lstOf cs e).map fun ys => (xs.length + ys.length ≤ sizeLine, cs.set n (.lst (xs ++ ys))) := (rfl)
theorem eqD_cellL {n : Nat} {ds : List D} {d : D} {neg : Bool} (h : lstAt cs n = some ds) : eqD cs neg (.cell n) d = eqD cs neg (.lst ds) d := by
  have e : pyOf cs (.cell n) = pyOf cs (.lst ds) := by
    show (match cs[n]? with | some (.lst ds) => (match toPyL ds with | some ps => some (PyData.list ps) | none => none) | _ => none) = _
    rw [lstAt_some h]
    show _ = toPy (.lst ds)
    simp only [toPy]
    all_goals (cases toPyL ds <;> rfl)
  unfold eqD
  cases d <;> simp only [e]
theorem seqIx {i : Int} {n : Nat} (h0 : 0 ≤ i) (h1 : i < (n : Int)) : seqIndex? i n = some i.toNat := by
  unfold seqIndex?
  have e : (if i < 0 then i + (n : Int) else i) = i := if_neg (by omega)
  simp only [e]
  rw [if_pos (by simp; omega)]
theorem RgOk_nat {n : Nat} (h : n ≤ 4096) : RgOk 0 (n : Int) = True := eq_true (RgOk.of_le (by omega) (by omega) (by omega) (by omega))
end
end DL

/-! DRep: the text of many small numbers. -/
namespace DL
open PySem PySem.Spec L2
variable [Tbs]
mutual
theorem DB.lvS {n m : Nat} (hm : n + 1 ≤ m) (h5 : 8 ≤ m) : ∀ {k : Nat} {d : D} {p : PyData}, DB n k d → toPy d = some p → p.leavesShort m = true
  | k, .int i, p, h, e => by
    simp only [toPy, Option.some.injEq] at e
    subst e
    have hb : Bd n i := by simpa [DB] using h
    have hl : i.natAbs.log2 < max n 1 := by
      by_cases h0 : i.natAbs = 0
      · rw [h0]; exact Nat.lt_of_lt_of_le (by decide : Nat.log2 0 < 1) (Nat.le_max_right _ _)
      · exact Nat.lt_of_lt_of_le ((Nat.log2_lt h0).mpr hb) (Nat.le_max_left _ _)
    have e1 := int_text_length_le (a := i) (k := max n 1) (Nat.le_max_right _ _) hl
    simp only [PyData.leavesShort, decide_eq_true_eq]
    show (Str.ofString (toString i)).length ≤ m
    rw [ofString_length]
    omega
  | k, .bl b, p, h, e => by
    simp only [toPy, Option.some.injEq] at e
    subst e
    have h2 : (PyData.bool b).leavesShort 5 = true := by cases b <;> simp [PyData.leavesShort]
    simp [PyData.leavesShort] at h2 ⊢ <;> omega
  | k, .non, p, h, e => by
    simp only [toPy, Option.some.injEq] at e
    subst e
    simp [PyData.leavesShort] <;> omega
  | k + 1, .tup ds, p, h, e => by
    unfold toPy at e
    split at e
    · rename_i ps hp
      cases e
      simp only [PyData.leavesShort]
      exact DBL.lvS hm h5 (k := k) (by simpa [DB] using h) hp
    · cases e
  | k + 1, .lst ds, p, h, e => by
    unfold toPy at e
    split at e
    · rename_i ps hp
      cases e
      simp only [PyData.leavesShort]
      exact DBL.lvS hm h5 (k := k) (by simpa [DB] using h) hp
    · cases e
  | 0, .tup ds, _, h, _ => by simp [DB] at h
  | 0, .lst ds, _, h, _ => by simp [DB] at h
  | _, .str _, _, h, _ => by simp [DB] at h
  | _, .ty _, _, h, _ => by simp [DB] at h
  | _, .ref _, _, h, _ => by simp [DB] at h
  | _, .dic _, _, h, _ => by simp [DB] at h
  | _, .obj _ _, _, h, _ => by simp [DB] at h
  | _, .cell _, _, h, _ => by simp [DB] at h
  | _, .scr _, _, h, _ => by simp [DB] at h
  | _, .err _ _, _, h, _ => by simp [DB] at h
theorem DBL.lvS {n m : Nat} (hm : n + 1 ≤ m) (h5 : 8 ≤ m) : ∀ {k : Nat} {ds : List D} {ps : List PyData}, DBL n k ds → toPyL ds = some ps → PyData.leavesShortAll m ps = true
  | k, [], ps, h, e => by
    simp only [toPyL, Option.some.injEq] at e
    subst e
    simp [PyData.leavesShortAll]
  | k, d :: ds, ps, h, e => by
    have h' : DB n k d ∧ DBL n k ds := by simpa [DBL] using h
    unfold toPyL at e
    split at e
    · rename_i p hp
      split at e
      · rename_i qs hq
        cases e
        simp only [PyData.leavesShortAll, DB.lvS hm h5 h'.1 hp, DBL.lvS hm h5 h'.2 hq, Bool.and_self]
      · cases e
    · cases e
end
/-- many small numbers -/
theorem reprD_okS {cs : Sto} {n k m : Nat} {d : D} (h : DB n k d) (hm : n + 1 ≤ m) (h5 : 8 ≤ m) (hw : (m + 2) * dwt d + m ≤ 16000000) (l : n ≤ 1920 := by decide) (hk : k ≤ 60 := by decide) : reprD cs d = some (True, shD d) := by
  obtain ⟨p, e, o⟩ := h.py l
  have lv := h.lvS hm h5 e
  have h3 : p.shown.length ≤ sizeLine := by
    have h := PyData.shown_le_bulk m h5 p lv
    have := o.bk
    rw [this] at h
    rw [sizeLine_eq]
    omega
  unfold reprD shD
  rw [pyOf_noC h.noC, e]
  simp only [Option.map_some, Option.some.injEq, Prod.mk.injEq, and_true]
  exact eq_true ⟨o.sh, h3, Nat.le_trans o.dep hk⟩
end DL

/-! DDic: dicts as data: what repr shows of data with dicts in them, dict displays. -/
namespace DL
open PySem PySem.Spec PyProof.Rows L2
variable [Tbs]
/-! ### data with dicts -/
def keyPy : Key → PyData
  | .inl i => .int i
  | .inr x => .str x
mutual
def toPyR : D → Option PyData
  | .non => some .none
  | .bl b => some (.bool b)
  | .int i => some (.int i)
  | .str x => some (.str x)
  | .tup ds => match toPyRL ds with
    | some ps => some (.tuple ps)
    | none => none
  | .lst ds => match toPyRL ds with
    | some ps => some (.list ps)
    | none => none
  | .dic ds => match toPyRK ds with
    | some ps => some (.dict ps)
    | none => none
  | _ => none
def toPyRL : List D → Option (List PyData)
  | [] => some []
  | d :: ds => match toPyR d with
    | some p => match toPyRL ds with
      | some ps => some (p :: ps)
      | none => none
    | none => none
def toPyRK : List (Key × D) → Option (List (PyData × PyData))
  | [] => some []
  | (k, d) :: ds => match toPyR d with
    | some p => match toPyRK ds with
      | some ps => some ((keyPy k, p) :: ps)
      | none => none
    | none => none
end
def pyR (cs : Sto) : D → Option PyData
  | .cell i => match cs[i]? with
    | some (.lst ds) => match toPyRL ds with
      | some ps => some (.list ps)
      | none => none
    | _ => none
  | d => toPyR d

/-! ### what is shown -/
section
variable {prog : Program} {w : World} {h : Heap}
def Shw (prog : Program) (w : World) (h : Heap) (u : Value) (p : PyData) : Prop := ∃ as bs, Reads h u p as ∧ ReadAtMost h p.depth bs ∧ ReprK prog w bs h p.depth u p.shown
def ShwA (prog : Program) (w : World) (h : Heap) (us : List Value) (ps : List PyData) : Prop :=
  ∃ as bs, ReadsAll h us ps as ∧ ReadAtMost h (PyData.depthAll ps) bs ∧ ReprAllK prog w bs h (PyData.depthAll ps) us (PyData.shownAll ps)
theorem ShwA.nil : ShwA prog w h [] [] := ⟨[], [], .nil, (fun _ m => nomatch m), by simp only [PyData.shownAll]; exact .nil⟩
theorem ShwA.cons {u : Value} {us : List Value} {p : PyData} {ps : List PyData} (a : Shw prog w h u p) (b : ShwA prog w h us ps) : ShwA prog w h (u :: us) (p :: ps) := by
  obtain ⟨a1, b1, r1, m1, k1⟩ := a
  obtain ⟨a2, b2, r2, m2, k2⟩ := b
  refine ⟨_, b1 ++ b2, .cons r1 r2, ?_, ?_⟩
  · simp only [PyData.depthAll]
    exact (m1.mono (Nat.le_max_left _ _)).append (m2.mono (Nat.le_max_right _ _))
  · simp only [PyData.depthAll, PyData.shownAll]
    exact .cons ((k1.more fun b hb => List.mem_append_left _ hb).level_le (Nat.le_max_left _ _)) (k2.more_le (fun b hb => List.mem_append_right _ hb) (Nat.le_max_right _ _))
theorem Shw.non : Shw prog w h .none .none := ⟨_, [], .none, (fun _ m => nomatch m), by simp only [PyData.shown]; exact .of_is ReprIs.none _ _ _⟩
theorem Shw.bl (b : Bool) : Shw prog w h (.bool b) (.bool b) := ⟨_, [], .bool b, (fun _ m => nomatch m), by simp only [PyData.shown]; exact .of_is (ReprIs.bool b) _ _ _⟩
theorem Shw.int (i : Int) (t : Tok) (hs : i.natAbs.log2 < 1920) : Shw prog w h (.int i t) (.int i) := ⟨_, [], .int i t, (fun _ m => nomatch m), by simp only [PyData.shown]; exact .of_is (ReprIs.int t hs) _ _ _⟩
theorem Shw.str (x : Str) (t : Tok) (hs : (reprText x).length ≤ sizeLine) : Shw prog w h (.str x t) (.str x) := ⟨_, [], .str x t, (fun _ m => nomatch m), by simp only [PyData.shown]; exact .of_is (ReprIs.str x t hs) _ _ _⟩
theorem Shw.lst {a : Addr} {o : Obj} {vs : Array Value} {n : Nat} {ps : List PyData} (h1 : h.get? a = some o) (h2 : o.cls = .type "list") (h3 : o.data = .seq vs n) (q : ShwA prog w h vs.toList ps) : Shw prog w h (.ref a) (.list ps) := by
  obtain ⟨as, bs, r, m, k⟩ := q
  have rr : Reads h (.ref a) (.list ps) _ := .list h1 h2 h3 r
  have hna : a ∉ bs := not_mem_of_deeper rr (by simp only [PyData.depth]; omega) m
  refine ⟨_, a :: bs, rr, ReadAtMost.cons rr (by simp only [PyData.depth]; omega) m, ?_⟩
  simp only [PyData.depth, PyData.shown]
  obtain ⟨l⟩ := vs
  cases l with
  | nil =>
    have r' : ReadsAll h [] ps _ := r
    cases r'
    simp only [PyData.shownAll, listText_nil]
    exact ReprK.listEmpty h1 h2 h3
  | cons x l => exact ReprK.list h1 h2 h3 hna (by simpa using k.length_eq) (fun i y e => k.item i y (by simpa using e))
theorem Shw.tup {a : Addr} {o : Obj} {vs : Array Value} {n : Nat} {ps : List PyData} (h1 : h.get? a = some o) (h2 : o.cls = .type "tuple") (h3 : o.data = .seq vs n) (q : ShwA prog w h vs.toList ps) : Shw prog w h (.ref a) (.tuple ps) := by
  obtain ⟨as, bs, r, m, k⟩ := q
  have rr : Reads h (.ref a) (.tuple ps) _ := .tuple h1 h2 h3 r
  have hna : a ∉ bs := not_mem_of_deeper rr (by simp only [PyData.depth]; omega) m
  refine ⟨_, a :: bs, rr, ReadAtMost.cons rr (by simp only [PyData.depth]; omega) m, ?_⟩
  simp only [PyData.depth, PyData.shown]
  exact ReprK.tuple h1 h2 h3 hna k
theorem Shw.dic {a : Addr} {o : Obj} {es : Array DictEntry} {n : Nat} {ps : List (PyData × PyData)} (h1 : h.get? a = some o) (h2 : o.cls = .type "dict") (h3 : o.data = .dict es n) (hs : (a == sysModules) = false)
    (q1 : ShwA prog w h (es.toList.map (·.key)) (ps.map (·.1))) (q2 : ShwA prog w h (es.toList.map (·.val)) (ps.map (·.2))) : Shw prog w h (.ref a) (.dict ps) := by
  obtain ⟨a1, b1, r1, m1, k1⟩ := q1
  obtain ⟨a2, b2, r2, m2, k2⟩ := q2
  have rr : Reads h (.ref a) (.dict ps) _ := .dict h1 h2 h3 r1 r2
  have m : ReadAtMost h (PyData.depthKv ps) (b1 ++ b2) := (m1.mono (PyData.depthAll_keys_le ps)).append (m2.mono (PyData.depthAll_vals_le ps))
  have hna : a ∉ b1 ++ b2 := not_mem_of_deeper rr (by simp only [PyData.depth]; omega) m
  refine ⟨_, a :: (b1 ++ b2), rr, ReadAtMost.cons rr (by simp only [PyData.depth]; omega) m, ?_⟩
  simp only [PyData.depth, PyData.shown, PyData.shownKv_eq]
  exact ReprK.dict h1 h2 h3 hs hna (ReprEntriesK.of_two es.toList _ _
    (k1.more_le (fun b hb => List.mem_append_left _ hb) (PyData.depthAll_keys_le ps)) (k2.more_le (fun b hb => List.mem_append_right _ hb) (PyData.depthAll_vals_le ps)))
end
/-! ### data is shown so -/
section
variable {X : Cx} {g : G} {cs : Sto} {pins : List (Addr × Obj)} {σ : L2.St} {H : Hp} {s : Shared}
theorem keys_shw {h : Heap} : ∀ {es : List DictEntry} {kvs : List (Key × V)} {vs : List (Key × Value)} {ds : List (Key × D)} {ps : List (PyData × PyData)}, KV kvs vs → Pairs (mixKind X.prog X.w) es vs → RepK X.K g ds kvs →
    toPyRK ds = some ps → PyData.showableAll (ps.map (·.1)) = true → (∀ t ∈ PyData.shownAll (ps.map (·.1)), t.length ≤ sizeLine) → ShwA X.prog X.w h (es.map (·.key)) (ps.map (·.1))
  | _, _, _, [], ps, kv, pr, rk, e, hs, hz => by
    have e1 : _ = [] := rk
    subst e1
    cases kv
    cases pr
    simp only [toPyRK, Option.some.injEq] at e
    subst e
    exact .nil
  | _, _, _, (k, d) :: ds, ps, kv, pr, rk, e, hs, hz => by
    obtain ⟨v, r, e1, h1, h2⟩ := rk
    subst e1
    cases kv with
    | cons q kv' =>
      cases pr with
      | cons p1 p2 pr' =>
        unfold toPyRK at e
        split at e
        · rename_i p hp
          split at e
          · rename_i qs hq
            cases e
            simp only [List.map_cons, PyData.showableAll, Bool.and_eq_true] at hs
            simp only [List.map_cons, PyData.shownAll] at hz
            simp only [List.map_cons]
            refine .cons ?_ (keys_shw kv' pr' h2 hq hs.2 fun t ht => hz t (List.mem_cons_of_mem _ ht))
            have hz1 := hz _ (List.mem_cons_self ..)
            obtain ⟨q1, q2⟩ := q
            simp only at q1
            rw [← q1] at p1
            rcases keyIs_shape p1 with ⟨i, t, e1, e2⟩ | ⟨x, t, e1, e2⟩
            · subst e1
              rw [e2]
              exact .int i t (by simpa [keyPy, PyData.showable] using hs.1)
            · subst e1
              rw [e2]
              exact .str x t (by simpa [keyPy, PyData.shown] using hz1)
          · cases e
        · cases e
mutual
theorem shw_D (I : Inv X pins σ H s) (sr : Sr X.K g cs H) : ∀ (d : D) (v : V) (u : Value) (p : PyData), toPyR d = some p → Rep X.K g d v → RelV v u → p.showable = true → p.shown.length ≤ sizeLine → Shw X.prog X.w s.heap u p
  | .non, v, u, p, e, r, ru, hs, hz => by
    cases r
    simp only [toPyR, Option.some.injEq] at e
    subst e
    cases (show u = Value.none from ru)
    exact .non
  | .bl b, v, u, p, e, r, ru, hs, hz => by
    cases r
    simp only [toPyR, Option.some.injEq] at e
    subst e
    cases (show u = Value.bool b from ru)
    exact .bl b
  | .int i, v, u, p, e, r, ru, hs, hz => by
    cases r
    simp only [toPyR, Option.some.injEq] at e
    subst e
    obtain ⟨t, e2⟩ := (show ∃ t, u = Value.int i t from ru)
    subst e2
    exact .int i t (by simpa [PyData.showable] using hs)
  | .str x, v, u, p, e, r, ru, hs, hz => by
    cases r
    simp only [toPyR, Option.some.injEq] at e
    subst e
    obtain ⟨t, e2⟩ := (show ∃ t, u = Value.str x t from ru)
    subst e2
    exact .str x t (by simpa only [PyData.shown] using hz)
  | .tup ds, v, u, p, e, r, ru, hs, hz => by
    unfold toPyR at e
    split at e
    · rename_i ps hp
      cases e
      obtain ⟨a, vs, e1, h1, h2⟩ := r
      subst e1
      cases (show u = Value.ref a from ru)
      obtain ⟨its, rv, ⟨o, ho, hc, n, hd⟩, _⟩ := I.tuple (sqT_mono sr.le h1)
      refine .tup ho hc hd (shw_DL I sr ds vs its ps hp h2 rv (by simpa [PyData.showable] using hs) fun t ht => ?_)
      exact Nat.le_trans (tupleText_mem_le ht) (by simpa only [PyData.shown] using hz)
    · cases e
  | .lst ds, v, u, p, e, r, ru, hs, hz => by
    unfold toPyR at e
    split at e
    · rename_i ps hp
      cases e
      obtain ⟨a, vs, e1, h1, h2⟩ := r
      subst e1
      cases (show u = Value.ref a from ru)
      obtain ⟨its, rv, ⟨o, n, ho, hc, _, hd⟩, _⟩ := I.list (.of (sr.le _ _ h1))
      refine .lst ho hc hd (shw_DL I sr ds vs its ps hp h2 rv (by simpa [PyData.showable] using hs) fun t ht => ?_)
      exact Nat.le_trans (listText_mem_le ht) (by simpa only [PyData.shown] using hz)
    · cases e
  | .dic ds, v, u, p, e, r, ru, hs, hz => by
    unfold toPyR at e
    split at e
    · rename_i ps hp
      cases e
      obtain ⟨a, kvs, e1, h1, h2⟩ := r
      subst e1
      cases (show u = Value.ref a from ru)
      obtain ⟨z, hd, vs, rel, o, es, ep, ho, hc, hdat, hk, pr, nd⟩ := dk_of I.hok (sr.le _ _ h1)
      have hz' : (dictText (PyData.shownKv ps)).length ≤ sizeLine := by simpa only [PyData.shown] using hz
      obtain ⟨s1, s2⟩ := PyData.showableKv_split ps (by simpa [PyData.showable] using hs)
      refine .dic ho hc.1 hdat hd (keys_shw rel pr h2 hp s1 fun t ht => ?_) (shw_DK I sr ds kvs vs es.toList ps hp h2 rel pr s2 fun t ht => ?_)
      · obtain ⟨q, hq, hl⟩ := PyData.shownKv_key_le ps t ht
        exact Nat.le_trans hl (Nat.le_trans (dictText_mem_le hq) hz')
      · obtain ⟨q, hq, hl⟩ := PyData.shownKv_val_le ps t ht
        exact Nat.le_trans hl (Nat.le_trans (dictText_mem_le hq) hz')
    · cases e
  | .ty _, _, _, _, e, _, _, _, _ => by simp [toPyR] at e
  | .ref _, _, _, _, e, _, _, _, _ => by simp [toPyR] at e
  | .obj _ _, _, _, _, e, _, _, _, _ => by simp [toPyR] at e
  | .cell _, _, _, _, e, _, _, _, _ => by simp [toPyR] at e
  | .scr _, _, _, _, e, _, _, _, _ => by simp [toPyR] at e
  | .err _ _, _, _, _, e, _, _, _, _ => by simp [toPyR] at e
theorem shw_DL (I : Inv X pins σ H s) (sr : Sr X.K g cs H) : ∀ (ds : List D) (vs : List V) (us : List Value) (ps : List PyData), toPyRL ds = some ps → RepL X.K g ds vs → Vals vs us → PyData.showableAll ps = true →
    (∀ t ∈ PyData.shownAll ps, t.length ≤ sizeLine) → ShwA X.prog X.w s.heap us ps
  | [], vs, us, ps, e, r, ru, hs, hz => by
    have r' : vs = [] := r
    subst r'
    cases ru
    simp only [toPyRL, Option.some.injEq] at e
    subst e
    exact .nil
  | d :: ds, vs, us, ps, e, r, ru, hs, hz => by
    obtain ⟨v, vr, e1, h1, h2⟩ := r
    subst e1
    cases ru with
    | cons ru1 ru2 =>
      unfold toPyRL at e
      split at e
      · rename_i p hp
        split at e
        · rename_i qs hq
          cases e
          simp only [PyData.showableAll, Bool.and_eq_true] at hs
          simp only [PyData.shownAll] at hz
          exact .cons (shw_D I sr d v _ p hp h1 ru1 hs.1 (hz _ (List.mem_cons_self ..))) (shw_DL I sr ds vr _ qs hq h2 ru2 hs.2 fun t ht => hz t (List.mem_cons_of_mem _ ht))
        · cases e
      · cases e
theorem shw_DK (I : Inv X pins σ H s) (sr : Sr X.K g cs H) : ∀ (ds : List (Key × D)) (kvs : List (Key × V)) (vs : List (Key × Value)) (es : List DictEntry) (ps : List (PyData × PyData)), toPyRK ds = some ps → RepK X.K g ds kvs → KV kvs vs →
    Pairs (mixKind X.prog X.w) es vs → PyData.showableAll (ps.map (·.2)) = true → (∀ t ∈ PyData.shownAll (ps.map (·.2)), t.length ≤ sizeLine) → ShwA X.prog X.w s.heap (es.map (·.val)) (ps.map (·.2))
  | [], kvs, vs, es, ps, e, rk, kv, pr, hs, hz => by
    have e1 : kvs = [] := rk
    subst e1
    cases kv
    cases pr
    simp only [toPyRK, Option.some.injEq] at e
    subst e
    exact .nil
  | (k, d) :: ds, kvs, vs, es, ps, e, rk, kv, pr, hs, hz => by
    obtain ⟨v, r, e1, h1, h2⟩ := rk
    subst e1
    cases kv with
    | cons q kv' =>
      cases pr with
      | cons p1 p2 pr' =>
        unfold toPyRK at e
        split at e
        · rename_i p hp
          split at e
          · rename_i qs hq
            cases e
            simp only [List.map_cons, PyData.showableAll, Bool.and_eq_true] at hs
            simp only [List.map_cons, PyData.shownAll] at hz
            simp only [List.map_cons, p2]
            exact .cons (shw_D I sr d v _ p hp h1 q.2 hs.1 (hz _ (List.mem_cons_self ..))) (shw_DK I sr ds r _ _ qs hq h2 kv' pr' hs.2 fun t ht => hz t (List.mem_cons_of_mem _ ht))
          · cases e
        · cases e
end
end
/-! ### repr of a thing that has an address -/
section
variable {prog : Program} {w : World} {A : Around} {E : Value → Shared → Prop} {s : Shared} {Q : Value → Shared → Prop}
theorem rp_lst {a : Addr} {o : Obj} {vs : Array Value} {n : Nat} {ps : List PyData} (h1 : s.heap.get? a = some o) (h2 : o.cls = .type "list") (h3 : o.data = .seq vs n) (q : ShwA prog w s.heap vs.toList ps)
    (hg : A.guards = some []) (hu : A.units + (PyData.depth (.list ps) + 1) < cLine) (hz : (PyData.shown (.list ps)).length ≤ sizeLine)
    (hQ : ∀ h' u tk, (∀ b o, s.heap.get? b = some o → h'.get? b = some o) → Q (.str (PyData.shown (.list ps)) u) { s with heap := h', toks := tk }) : wpAny (model prog w) A (call (.builtin "repr") [.ref a]) Q E s := by
  obtain ⟨as, bs, r, m, k⟩ := q
  have rr : Reads s.heap (.ref a) (.list ps) _ := .list h1 h2 h3 r
  have hna : a ∉ bs := not_mem_of_deeper rr (by simp only [PyData.depth]; omega) m
  simp only [PyData.depth] at hu
  simp only [PyData.shown] at hQ hz
  refine call_repr_slot (by omega) (T := "list") (idr := "list.__repr__") ⟨o, h1, h2⟩ F.slot_list_repr.toG ?_
  obtain ⟨l⟩ := vs
  cases l with
  | nil =>
    have r' : ReadsAll s.heap [] ps _ := r
    cases r'
    simp only [PyData.shownAll, listText_nil] at hQ
    exact call_list_repr_empty ⟨o, h1, h2⟩ h1 h3 ⟨_, _, rfl, hQ s.heap _ _ fun _ _ e => e⟩
  | cons x l =>
    exact call_list_reprK h1 h2 h3 hna (by simpa using k.length_eq) (fun i y e => k.item i y (by simpa using e)) hg (fun b _ => Clear.nil b) (by show A.units + 1 + _ < cLine; omega) (fun _ _ e => e) (fun h' u tk hk => ⟨_, _, rfl, hQ h' u tk hk⟩) hz
theorem rp_tup {a : Addr} {o : Obj} {vs : Array Value} {n : Nat} {ps : List PyData} (h1 : s.heap.get? a = some o) (h2 : o.cls = .type "tuple") (h3 : o.data = .seq vs n) (q : ShwA prog w s.heap vs.toList ps)
    (hg : A.guards = some []) (hu : A.units + (PyData.depth (.tuple ps) + 1) < cLine) (hz : (PyData.shown (.tuple ps)).length ≤ sizeLine)
    (hQ : ∀ h' u tk, (∀ b o, s.heap.get? b = some o → h'.get? b = some o) → Q (.str (PyData.shown (.tuple ps)) u) { s with heap := h', toks := tk }) : wpAny (model prog w) A (call (.builtin "repr") [.ref a]) Q E s := by
  obtain ⟨as, bs, r, m, k⟩ := q
  have rr : Reads s.heap (.ref a) (.tuple ps) _ := .tuple h1 h2 h3 r
  have hna : a ∉ bs := not_mem_of_deeper rr (by simp only [PyData.depth]; omega) m
  simp only [PyData.depth] at hu
  simp only [PyData.shown] at hQ hz
  refine call_repr_slot (by omega) (T := "tuple") (idr := "tuple.__repr__") ⟨o, h1, h2⟩ F.slot_tuple_repr ?_
  exact call_tuple_reprK h1 h2 h3 hna k hg (fun b _ => Clear.nil b) (by show A.units + 1 + _ < cLine; omega) (fun _ _ e => e) (fun h' u tk hk => ⟨_, _, rfl, hQ h' u tk hk⟩) hz
theorem rp_dic {a : Addr} {o : Obj} {es : Array DictEntry} {n : Nat} {ps : List (PyData × PyData)} (h1 : s.heap.get? a = some o) (h2 : o.cls = .type "dict") (h3 : o.data = .dict es n) (hs : (a == sysModules) = false)
    (q1 : ShwA prog w s.heap (es.toList.map (·.key)) (ps.map (·.1))) (q2 : ShwA prog w s.heap (es.toList.map (·.val)) (ps.map (·.2)))
    (hg : A.guards = some []) (hu : A.units + (PyData.depth (.dict ps) + 1) < cLine) (hz : (PyData.shown (.dict ps)).length ≤ sizeLine)
    (hQ : ∀ h' u tk, (∀ b o, s.heap.get? b = some o → h'.get? b = some o) → Q (.str (PyData.shown (.dict ps)) u) { s with heap := h', toks := tk }) : wpAny (model prog w) A (call (.builtin "repr") [.ref a]) Q E s := by
  obtain ⟨a1, b1, r1, m1, k1⟩ := q1
  obtain ⟨a2, b2, r2, m2, k2⟩ := q2
  have rr : Reads s.heap (.ref a) (.dict ps) _ := .dict h1 h2 h3 r1 r2
  have m : ReadAtMost s.heap (PyData.depthKv ps) (b1 ++ b2) := (m1.mono (PyData.depthAll_keys_le ps)).append (m2.mono (PyData.depthAll_vals_le ps))
  have hna : a ∉ b1 ++ b2 := not_mem_of_deeper rr (by simp only [PyData.depth]; omega) m
  simp only [PyData.depth] at hu
  simp only [PyData.shown, PyData.shownKv_eq] at hQ hz
  refine call_repr_slot (by omega) (T := "dict") (idr := "dict.__repr__") ⟨o, h1, h2⟩ F.slot_dict_repr ?_
  exact call_dict_reprK h1 h2 h3 hs hna (ReprEntriesK.of_two es.toList _ _
    (k1.more_le (fun b hb => List.mem_append_left _ hb) (PyData.depthAll_keys_le ps)) (k2.more_le (fun b hb => List.mem_append_right _ hb) (PyData.depthAll_vals_le ps))) hg (fun b _ => Clear.nil b)
    (by show A.units + 1 + _ < cLine; omega) (fun _ _ e => e) (fun h' u tk hk => ⟨_, _, rfl, hQ h' u tk hk⟩) hz
end
section
variable {X : Cx}
def oReprX : O1 := fun d cs Q => ∃ p, pyR cs d = some p ∧ p.showable = true ∧ p.shown.length ≤ sizeLine ∧ p.depth ≤ 60 ∧ Q (.str p.shown) cs
theorem cd_reprX (hg : X.A.guards = some []) (hu : X.A.units + 64 < cLine) : CallD X (.builtin "repr") (o1 oReprX) := cd1 (fun d cs Q Q' h ⟨p, e1, e2, e3, e4, q⟩ => ⟨p, e1, e2, e3, e4, h _ _ q⟩) fun pins s σ H x u Q g cs d I ru rv sr r ⟨p, e1, e2, e3, e4, q⟩ => by
  have fin : ∀ h' t tk, (∀ b o, s.heap.get? b = some o → h'.get? b = some o) → EP X pins σ Q (.str p.shown t) { s with heap := h', toks := tk } := fun h' t tk hk => ⟨.str p.shown, H, I.kept hk, ⟨t, rfl⟩, q g H _ (Ext.refl g) sr rfl⟩
  have lst : ∀ (a : Addr) (ds : List D) (vs : List V) (ps : List PyData), u = .ref a → H a = some (.lst vs) → RepL X.K g ds vs → toPyRL ds = some ps → p = .list ps → wpAny (model X.prog X.w) X.A (call (.builtin "repr") [u]) (EP X pins σ Q) X.xe s := by
    intro a ds vs ps eu h1 h2 h3 ep
    subst ep eu
    obtain ⟨its, rv', ⟨o, n, ho, hc, _, hd⟩, _⟩ := I.list (.of h1)
    have hz : ∀ t ∈ PyData.shownAll ps, t.length ≤ sizeLine := fun t ht => Nat.le_trans (listText_mem_le ht) (by simpa only [PyData.shown] using e3)
    exact rp_lst ho hc hd (shw_DL I sr ds vs its ps h3 h2 rv' (by simpa [PyData.showable] using e2) hz) hg (by omega) e3 fin
  cases d with
  | non =>
    cases r
    cases (show u = Value.none from ru)
    simp only [pyR, toPyR, Option.some.injEq] at e1
    subst e1
    exact PySem.P.repr_of_none (by simpa only [PyData.shown] using fin s.heap s.toks (s.toks + 1) fun _ _ e => e)
  | bl b =>
    cases r
    cases (show u = Value.bool b from ru)
    simp only [pyR, toPyR, Option.some.injEq] at e1
    subst e1
    exact PySem.P.repr_of_bool (by simpa only [PyData.shown] using fin s.heap s.toks (s.toks + 1) fun _ _ e => e)
  | int i =>
    cases r
    obtain ⟨t, rfl⟩ := (show ∃ t, u = Value.int i t from ru)
    simp only [pyR, toPyR, Option.some.injEq] at e1
    subst e1
    exact PySem.P.repr_of_int (by simpa [PyData.showable] using e2) (by simpa only [PyData.shown] using fin s.heap s.toks (s.toks + 1) fun _ _ e => e)
  | str y =>
    cases r
    obtain ⟨t, rfl⟩ := (show ∃ t, u = Value.str y t from ru)
    simp only [pyR, toPyR, Option.some.injEq] at e1
    subst e1
    exact PySem.P.repr_of_str (by simpa only [PyData.shown] using fin s.heap s.toks (s.toks + 1) fun _ _ e => e) (by simpa only [PyData.shown] using e3)
  | tup ds =>
    replace e1 : toPyR (.tup ds) = some p := e1
    unfold toPyR at e1
    split at e1
    · rename_i ps hp
      cases e1
      obtain ⟨a, vs, e5, h1, h2⟩ := r
      subst e5
      cases (show u = Value.ref a from ru)
      obtain ⟨its, rv', ⟨o, ho, hc, n, hd⟩, _⟩ := I.tuple (sqT_mono sr.le h1)
      have hz : ∀ t ∈ PyData.shownAll ps, t.length ≤ sizeLine := fun t ht => Nat.le_trans (tupleText_mem_le ht) (by simpa only [PyData.shown] using e3)
      exact rp_tup ho hc hd (shw_DL I sr ds vs its ps hp h2 rv' (by simpa [PyData.showable] using e2) hz) hg (by omega) e3 fin
    · cases e1
  | lst ds =>
    replace e1 : toPyR (.lst ds) = some p := e1
    unfold toPyR at e1
    split at e1
    · rename_i ps hp
      obtain ⟨a, vs, e5, h1, h2⟩ := r
      subst e5
      exact lst a ds vs ps ru (sr.le _ _ h1) h2 hp (Option.some.inj e1).symm
    · cases e1
  | dic ds =>
    replace e1 : toPyR (.dic ds) = some p := e1
    unfold toPyR at e1
    split at e1
    · rename_i ps hp
      cases e1
      obtain ⟨a, kvs, e5, h1, h2⟩ := r
      subst e5
      cases (show u = Value.ref a from ru)
      obtain ⟨z, hd, vs, rel, o, es, ep, ho, hc, hdat, hk, pr, nd⟩ := dk_of I.hok (sr.le _ _ h1)
      have hz' : (dictText (PyData.shownKv ps)).length ≤ sizeLine := by simpa only [PyData.shown] using e3
      obtain ⟨s1, s2⟩ := PyData.showableKv_split ps (by simpa [PyData.showable] using e2)
      refine rp_dic ho hc.1 hdat hd (keys_shw rel pr h2 hp s1 fun t ht => ?_) (shw_DK I sr ds kvs vs es.toList ps hp h2 rel pr s2 fun t ht => ?_) hg (by omega) e3 fin
      · obtain ⟨q, hq, hl⟩ := PyData.shownKv_key_le ps t ht
        exact Nat.le_trans hl (Nat.le_trans (dictText_mem_le hq) hz')
      · obtain ⟨q, hq, hl⟩ := PyData.shownKv_val_le ps t ht
        exact Nat.le_trans hl (Nat.le_trans (dictText_mem_le hq) hz')
    · cases e1
  | cell i =>
    unfold pyR at e1
    simp only at e1
    split at e1
    · rename_i ds hc
      split at e1
      · rename_i ps hp
        obtain ⟨a, vs, e5, h1, h2⟩ := lst_of sr (d := .cell i) (ds := ds) (by simp [lstOf, hc]) r
        subst e5
        obtain ⟨its, rv', ⟨o, n, ho, hc, _, hd⟩, _⟩ := I.list h1
        cases (show u = Value.ref a from ru)
        cases e1
        have hz : ∀ t ∈ PyData.shownAll ps, t.length ≤ sizeLine := fun t ht => Nat.le_trans (listText_mem_le ht) (by simpa only [PyData.shown] using e3)
        exact rp_lst ho hc hd (shw_DL I sr ds vs its ps hp h2 rv' (by simpa [PyData.showable] using e2) hz) hg (by omega) e3 fin
      · cases e1
    · cases e1
  | ty _ => simp [pyR, toPyR] at e1
  | ref _ => simp [pyR, toPyR] at e1
  | obj _ _ => simp [pyR, toPyR] at e1
  | scr _ => simp [pyR, toPyR] at e1
  | err _ _ => simp [pyR, toPyR] at e1
end
end DL

/-! DDisp: dict displays. -/
namespace DL
open PySem PySem.Spec PyProof.Rows L2
variable [Tbs]
def keyD : D → Option Key
  | .int i => some (.inl i)
  | .str x => some (.inr x)
  | _ => none
def keysD : List (D × D) → Option (List (Key × D))
  | [] => some []
  | (k, d) :: r => match keyD k with
    | some k => match keysD r with
      | some ks => some ((k, d) :: ks)
      | none => none
    | none => none
section
variable (K : PySem.W.Frag) (g : G)
def RPs : List (D × D) → List (V × V) → Prop
  | [], vs => vs = []
  | (k, d) :: r, vs => ∃ x y t, vs = (x, y) :: t ∧ Rep K g k x ∧ Rep K g d y ∧ RPs r t
end
theorem mergeK_nodup : ∀ (ks pre : List (Key × V)), ((pre ++ ks).map (·.1)).Nodup → mergeK pre ks = pre ++ ks
  | [], pre, _ => by simp [mergeK]
  | (k, v) :: r, pre, h => by
    have hk : (pre.any fun kv => decide (kv.1 = k)) = false := by
      rw [List.any_eq_false]
      intro x hx e
      have e' : x.1 = k := by simpa using e
      rw [List.map_append, List.nodup_append] at h
      exact h.2.2 x.1 (List.mem_map.mpr ⟨x, hx, rfl⟩) k (List.mem_map.mpr ⟨(k, v), List.mem_cons_self, rfl⟩) e'
    have e : putK pre k v = pre ++ [(k, v)] := by
      unfold putK
      rw [hk]
      rfl
    have q := mergeK_nodup r (pre ++ [(k, v)]) (by simpa [List.append_assoc] using h)
    show mergeK (putK pre k v) r = _
    rw [e, q, List.append_assoc]
    rfl
section
variable {K : PySem.W.Frag} {g g' : G}
theorem RPs.mono (e : Ext g g') : ∀ {ps : List (D × D)} {vs : List (V × V)}, RPs K g ps vs → RPs K g' ps vs
  | [], _, h => h
  | (k, d) :: r, _, ⟨x, y, t, e1, h1, h2, h3⟩ => ⟨x, y, t, e1, h1.mono e, h2.mono e, RPs.mono e h3⟩
theorem rps_keys : ∀ {ps : List (D × D)} {vs : List (V × V)} {ks : List (Key × D)}, RPs K g ps vs → keysD ps = some ks → ∃ kvs : List (Key × V), vs = kvs.map (fun kv => (kV kv.1, kv.2)) ∧ RepK K g ks kvs ∧ kvs.map (·.1) = ks.map (·.1)
  | [], _, ks, h, e => by
    have h' : _ = [] := h
    subst h'
    simp only [keysD, Option.some.injEq] at e
    subst e
    exact ⟨[], rfl, rfl, rfl⟩
  | (k, d) :: r, _, ks, ⟨x, y, t, e1, h1, h2, h3⟩, e => by
    subst e1
    unfold keysD at e
    split at e
    · rename_i k' hk
      split at e
      · rename_i ks' hks
        cases e
        obtain ⟨kvs, q1, q2, q3⟩ := rps_keys h3 hks
        refine ⟨(k', y) :: kvs, ?_, ⟨y, kvs, rfl, h2, q2⟩, by simp [q3]⟩
        have ek : x = kV k' := by
          cases k with
          | int i => cases h1; cases hk; rfl
          | str s => cases h1; cases hk; rfl
          | _ => simp [keyD] at hk
        rw [ek, q1]
        rfl
      · cases e
    · cases e
end
abbrev WPr := En → Sto → (List (D × D) → Sto → Prop) → Prop
def wPr0 : WPr := fun _ cs Q => Q [] cs
def wPr1 (wk wv : WE) (wr : WPr) : WPr := fun env cs Q => wk env cs fun k cs1 => wv env cs1 fun v cs2 => wr env cs2 fun ps cs3 => Q ((k, v) :: ps) cs3
structure DPr (X : Cx) (pos : Pos) (keys : List (Option Expr)) (values : List Expr) (w : WPr) : Prop where
  ex : ∃ trs, PPs X pos keys values trs ∧ ∀ (g : G) (cs : Sto) (env : En) (σ : L2.St) (H : Hp) (P : List (D × D) → Sto → Prop) (R : List (V × V) → Hp → Prop), Sr X.K g cs H → Lr X.K g env σ → w env cs P →
    (∀ ps cs' g' H' vs, P ps cs' → Ext g g' → Sr X.K g' cs' H' → RPs X.K g' ps vs → R vs H') → tPairs trs σ H R
  mo : ∀ env cs Q Q', (∀ ds cs, Q ds cs → Q' ds cs) → w env cs Q → w env cs Q'
theorem dpr_nil {X : Cx} {pos : Pos} : DPr X pos [] [] wPr0 := ⟨⟨[], pps_nil, fun g cs env σ H P R s l h k => k _ _ g H [] h (Ext.refl g) s rfl⟩, fun _ cs _ _ h q => h _ _ q⟩
theorem dpr_cons {X : Cx} {pos : Pos} {k v : Expr} {ks : List (Option Expr)} {vs : List Expr} {wk wv : WE} {wr : WPr} (hk : DE X k wk) (hv : DE X v wv) (hr : DPr X pos ks vs wr) : DPr X pos (some k :: ks) (v :: vs) (wPr1 wk wv wr) := by
  obtain ⟨⟨trs, pr, go⟩, mr⟩ := hr
  refine ⟨⟨(lowE X.K wk, lowE X.K wv) :: trs, pps_cons hk.pe hv.pe pr, fun g cs env σ H P R s l h c => ?_⟩, fun env cs Q Q' hq q => hk.mo _ _ _ _ (fun _ _ q => hv.mo _ _ _ _ (fun _ _ q => mr _ _ _ _ (fun _ _ q => hq _ _ q) q) q) q⟩
  refine lowE.go hk.mo s l h fun d1 cs1 g1 H1 v1 h1 e1 s1 r1 => ?_
  refine lowE.go hv.mo s1 (l.mono e1) h1 fun d2 cs2 g2 H2 v2 h2 e2 s2 r2 => ?_
  refine go g2 cs2 env σ H2 _ _ s2 ((l.mono e1).mono e2) h2 fun ps cs3 g3 H3 vs h3 e3 s3 r3 => ?_
  exact c _ _ g3 H3 _ h3 ((e1.trans e2).trans e3) s3 ⟨v1, v2, vs, rfl, (r1.mono e2).mono e3, r2.mono e3, r3⟩
def wDic (w : WPr) : WE := fun env cs Q => w env cs fun ps cs' => bindP (keysD ps) fun ks => ((ks.map (·.1)).Nodup ∧ ks.length ≤ 15) ∧ Q (.dic ks) cs'
def wDic0 : WE := fun _ cs Q => Q (.dic []) cs
theorem de_dic0 {X : Cx} {pos : Pos} : DE X (.Dict [] [] pos) wDic0 := by
  refine ⟨PE.imp pe_dnewK fun σ H Q ⟨g, cs, env, s, l, h⟩ p hp => ?_, fun _ cs _ _ h q => h _ _ q⟩
  exact h (g.add p (.dK [])) _ _ (Ext.add s hp _) (s.add hp _) ⟨p, [], rfl, add_at, rfl⟩
theorem de_dic {X : Cx} {pos : Pos} {keys : List (Option Expr)} {values : List Expr} {w : WPr} (h : DPr X pos keys values w) (hall : keys.all (·.isSome) = true := by rfl) (hl : keys.length = values.length := by rfl) (h0 : keys ≠ [] := by simp)
    (h15 : keys.length ≤ 15 := by decide) : DE X (.Dict keys values pos) (wDic w) := by
  obtain ⟨⟨trs, pr, go⟩, mo⟩ := h
  refine ⟨PE.imp (pe_disp pr hall hl h0 h15) fun σ H Q ⟨g, cs, env, s, l, h⟩ p hp => ?_, fun env cs Q Q' hq q => mo _ _ _ _ (fun _ _ q => bindP_mo (fun ks q => ⟨q.1, hq _ _ q.2⟩) q) q⟩
  have s1 := s.hold hp (.dK [])
  have sb : Sub g (g.hold p (.dK [])) := ⟨fun _ _ h => h, ⟨[], by simp [G.hold]⟩⟩
  have l1 : Lr X.K (g.hold p (.dK [])) env σ := ⟨l.len, fun i d h => by
    obtain ⟨v, q1, q2⟩ := l.ok i d h
    exact ⟨v, q1, Rep.sub sb _ _ q2⟩⟩
  refine go _ cs env σ _ _ _ s1 l1 h fun ps cs2 g2 H2 vs h2 e2 s2 r2 => ?_
  have er : g2.rs = (p, .dK []) :: g.rs := by rw [e2.r]; rfl
  obtain ⟨q1, q2, q3⟩ := s2.rs (p, .dK []) (by rw [er]; exact List.mem_cons_self)
  unfold bindP at h2
  split at h2
  · rename_i ks hks
    obtain ⟨⟨nd, z⟩, h3⟩ := h2
    obtain ⟨kvs, f1, f2, f3⟩ := rps_keys r2 hks
    have hlen : kvs.length = ks.length := by rw [← List.length_map (f := (·.1)) (as := kvs), f3, List.length_map]
    have em : mergeK [] kvs = kvs := mergeK_nodup kvs [] (by rw [List.nil_append, f3]; exact nd)
    refine ⟨q1, kvs, f1, by omega, ?_⟩
    rw [em]
    have s3 := (s2.rehold (o' := .dK kvs) er).unhold rfl
    have sz : ∀ a o, g2.Z a = some o → upd g2.Z p (.dK kvs) a = some o := fun a o ha => by
      rw [upd_ne (ne_of_none ha q2)]
      exact ha
    refine h3 { g2 with Z := upd g2.Z p (.dK kvs), rs := g.rs } _ _ ⟨fun a o ha => sz _ _ (e2.z a o ha), e2.a, rfl⟩ s3 ⟨p, kvs, rfl, upd_same, ?_⟩
    exact f2.sub' ⟨sz, ⟨[], by simp⟩⟩
  · exact h2.elim
/-! ### a < b < c, str(i) -/
theorem lowO.go {K : PySem.W.Frag} {g : G} {cs : Sto} {H : Hp} {o : O2} {d1 d2 : D} {x y : V} {P : PD} {R : VK} (mo : ∀ d1 d2 cs Q Q', (∀ d cs, Q d cs → Q' d cs) → o d1 d2 cs Q → o d1 d2 cs Q') (s : Sr K g cs H) (r1 : Rep K g d1 x) (r2 : Rep K g d2 y) (h : o d1 d2 cs P)
    (k : ∀ d cs' g' H' v, P d cs' → Ext g g' → Sr K g' cs' H' → Rep K g' d v → R v H') : lowO K o x y H R :=
  ⟨g, cs, d1, d2, s, r1, r2, mo _ _ _ _ _ (fun d cs' q g' H' v e s' r => k d cs' g' H' v q e s' r) h⟩
def boolP (d : D) (k : Bool → Prop) : Prop := match d with
  | .bl b => k b
  | _ => False
theorem boolP_mo {d : D} {k k' : Bool → Prop} (h : ∀ b, k b → k' b) (q : boolP d k) : boolP d k' := by
  cases d with
  | bl b => exact h b q
  | _ => exact q.elim
def wChain (o o' : O2) (wa wb wc : WE) : WE := fun env cs Q => wa env cs fun x cs1 => wb env cs1 fun y cs2 => o x y cs2 fun z cs3 => boolP z fun k => if k = true then wc env cs3 fun w cs4 => o' y w cs4 Q else Q (.bl false) cs3
theorem de_chain {X : Cx} {op op' : CmpOp} {o o' : O2} {a b c : Expr} {wa wb wc : WE} {pos : Pos} (ho : OpD X (compareOp op) o) (ho' : OpD X (compareOp op') o') (ha : DE X a wa) (hb : DE X b wb) (hc : DE X c wc)
    (hm : lastMarks [op, op'] [b, c] = false := by with_unfolding_all rfl) : DE X (.Compare a [op, op'] [b, c] pos) (wChain o o' wa wb wc) := by
  refine ⟨PE.imp (pe_chain ho.op ho'.op ha.pe hb.pe hc.pe hm) fun σ H Q ⟨g, cs, env, s, l, h⟩ => ?_, fun env cs Q Q' hq q => ?_⟩
  · refine lowE.go ha.mo s l h fun d1 cs1 g1 H1 v1 h1 e1 s1 r1 => ?_
    refine lowE.go hb.mo s1 (l.mono e1) h1 fun d2 cs2 g2 H2 v2 h2 e2 s2 r2 => ?_
    refine lowO.go ho.mo s2 (r1.mono e2) r2 h2 fun z cs3 g3 H3 v3 h3 e3 s3 r3 => ?_
    cases z with
    | bl k =>
      cases r3
      refine ⟨k, rfl, ?_⟩
      have h3' : if k = true then wc env cs3 fun w cs4 => o' d2 w cs4 (upV X.K g Q) else upV X.K g Q (.bl false) cs3 := h3
      cases k with
      | true =>
        rw [if_pos rfl] at h3' ⊢
        refine lowE.go hc.mo s3 (((l.mono e1).mono e2).mono e3) h3' fun d4 cs4 g4 H4 v4 h4 e4 s4 r4 => ?_
        refine lowO.go ho'.mo s4 ((r2.mono e3).mono e4) r4 h4 fun d5 cs5 g5 H5 v5 h5 e5 s5 r5 => ?_
        exact h5 g5 H5 v5 ((((e1.trans e2).trans e3).trans e4).trans e5) s5 r5
      | false =>
        rw [if_neg (by decide)] at h3' ⊢
        exact h3' g3 H3 _ ((e1.trans e2).trans e3) s3 rfl
    | _ => exact (show False from h3).elim
  · refine ha.mo _ _ _ _ (fun _ _ q => hb.mo _ _ _ _ (fun _ _ q => ho.mo _ _ _ _ _ (fun _ _ q => boolP_mo (fun k q => ?_) q) q) q) q
    cases k with
    | true =>
      rw [if_pos rfl] at q ⊢
      exact hc.mo _ _ _ _ (fun _ _ q => ho'.mo _ _ _ _ _ hq q) q
    | false =>
      rw [if_neg (by decide)] at q ⊢
      exact hq _ _ q
def oStr : O1 := fun d cs Q => match d with
  | .int i => i.natAbs.log2 < 1920 ∧ Q (.str (toString i)) cs
  | _ => False
theorem cd_str {X : Cx} : CallD X (.type "str") (o1 oStr) := cd1 (fun d cs Q Q' h q => by
    unfold oStr at q ⊢
    split at q
    · exact ⟨q.1, h _ _ q.2⟩
    · exact q) fun pins s σ H x u Q g cs d I ru rv sr r q => by
  unfold oStr at q
  split at q
  · cases r
    exact call_str_int pins s σ H _ _ Q I rv ⟨_, rfl, q.1, q.2 g H _ (Ext.refl g) sr rfl⟩
  · exact q.elim
/-! ### how they are evaluated -/
section
variable {env : En} {cs : Sto} {Q : PD}
def strD : D → Option (Prop × D)
  | .int i => some (i.natAbs.log2 < 1920, .str (toString i))
  | _ => none
theorem oStr_eq (d : D) : oStr d cs Q = bindP (strD d) fun p => p.1 ∧ Q p.2 cs := by
  cases d <;> rfl
def reprX (cs : Sto) (d : D) : Option (Prop × Str) := (pyR cs d).map fun p => (p.showable = true ∧ p.shown.length ≤ sizeLine ∧ p.depth ≤ 60, p.shown)
theorem oReprX_eq (d : D) : oReprX d cs Q = bindP (reprX cs d) fun p => p.1 ∧ Q (.str p.2) cs := by
  unfold oReprX reprX
  cases e : pyR cs d with
  | none =>
    simp only [Option.map_none, bindP_none, eq_iff_iff, iff_false]
    rintro ⟨p, e1, _⟩
    cases e1
  | some p =>
    simp only [Option.map_some, bindP_some, eq_iff_iff]
    constructor
    · rintro ⟨q, e1, e2, e3, e4, e5⟩
      cases e1
      exact ⟨⟨e2, e3, e4⟩, e5⟩
    · rintro ⟨⟨e2, e3, e4⟩, e5⟩
      exact ⟨p, rfl, e2, e3, e4, e5⟩
theorem wPr0_eq (Q : List (D × D) → Sto → Prop) : wPr0 env cs Q = Q [] cs := (rfl)
theorem wPr1_eq (wk wv : WE) (wr : WPr) (Q : List (D × D) → Sto → Prop) : wPr1 wk wv wr env cs Q = wk env cs fun k cs1 => wv env cs1 fun v cs2 => wr env cs2 fun ps cs3 => Q ((k, v) :: ps) cs3 := (rfl)
theorem wDic_eq (w : WPr) : wDic w env cs Q = w env cs fun ps cs' => bindP (keysD ps) fun ks => ((ks.map (·.1)).Nodup ∧ ks.length ≤ 15) ∧ Q (.dic ks) cs' := (rfl)
theorem wDic0_eq : wDic0 env cs Q = Q (.dic []) cs := (rfl)
theorem wChain_eq (o o' : O2) (wa wb wc : WE) : wChain o o' wa wb wc env cs Q = wa env cs fun x cs1 => wb env cs1 fun y cs2 => o x y cs2 fun z cs3 => bindP (blD z) fun k => cond2 k (wc env cs3 fun w cs4 => o' y w cs4 Q) (Q (.bl false) cs3) := by
  unfold wChain
  congr
  funext x cs1
  congr
  funext y cs2
  congr
  funext z cs3
  cases z <;> rfl
end
mutual
theorem toPyR_of : ∀ (d : D) (p : PyData), toPy d = some p → toPyR d = some p
  | .non, p, e => e
  | .bl b, p, e => e
  | .int i, p, e => e
  | .str x, p, e => e
  | .tup ds, p, e => by
    unfold toPy at e
    split at e
    · rename_i ps hp
      unfold toPyR
      rw [toPyRL_of ds ps hp]
      exact e
    · cases e
  | .lst ds, p, e => by
    unfold toPy at e
    split at e
    · rename_i ps hp
      unfold toPyR
      rw [toPyRL_of ds ps hp]
      exact e
    · cases e
  | .ty _, _, e => by simp [toPy] at e
  | .ref _, _, e => by simp [toPy] at e
  | .dic _, _, e => by simp [toPy] at e
  | .obj _ _, _, e => by simp [toPy] at e
  | .cell _, _, e => by simp [toPy] at e
  | .scr _, _, e => by simp [toPy] at e
  | .err _ _, _, e => by simp [toPy] at e
theorem toPyRL_of : ∀ (ds : List D) (ps : List PyData), toPyL ds = some ps → toPyRL ds = some ps
  | [], ps, e => e
  | d :: ds, ps, e => by
    unfold toPyL at e
    split at e
    · rename_i p hp
      split at e
      · rename_i qs hq
        unfold toPyRL
        rw [toPyR_of d p hp, toPyRL_of ds qs hq]
        exact e
      · cases e
    · cases e
end
theorem reprX_of {cs : Sto} {d : D} {r : Prop × Str} (h : reprD cs d = some r) : reprX cs d = some r := by
  unfold reprD at h
  cases e : pyOf cs d with
  | none =>
    rw [e] at h
    cases h
  | some p =>
    have e2 : pyR cs d = some p := by
      cases d with
      | cell i =>
        unfold pyOf at e
        unfold pyR
        simp only at e ⊢
        split at e
        · rename_i ds hc
          split at e
          · rename_i ps hp
            simp only [hc, toPyRL_of ds ps hp]
            exact e
          · cases e
        · cases e
      | _ => exact toPyR_of _ p e
    rw [e] at h
    unfold reprX
    rw [e2]
    exact h
/-! ### what is no number, no list, no tuple -/
theorem kB_non_int : kitB "NoneType" "int" = some false := by decide +kernel
theorem kB_str_int : kitB "str" "int" = some false := by decide +kernel
theorem kB_tup_int : kitB "tuple" "int" = some false := by decide +kernel
theorem kB_lst_int : kitB "list" "int" = some false := by decide +kernel
theorem kB_dic_int : kitB "dict" "int" = some false := by decide +kernel
theorem kB_non_lt : kitAnyB "NoneType" [.ty "list", .ty "tuple"] = some false := by decide +kernel
theorem kB_str_lt : kitAnyB "str" [.ty "list", .ty "tuple"] = some false := by decide +kernel
theorem kB_int_lt : kitAnyB "int" [.ty "list", .ty "tuple"] = some false := by decide +kernel
theorem kB_bool_lt : kitAnyB "bool" [.ty "list", .ty "tuple"] = some false := by decide +kernel
theorem kB_dic_lt : kitAnyB "dict" [.ty "list", .ty "tuple"] = some false := by decide +kernel
/-! ### a list, whatever is in it, asked whether it is [] -/
def oEqE (neg : Bool) : O2 := fun d1 d2 cs Q => match d2 with
  | .lst [] => ∃ ds, lstOf cs d1 = some ds ∧ Q (.bl (if neg = true then !ds.isEmpty else ds.isEmpty)) cs
  | _ => False
theorem oEqE.mo {neg : Bool} : ∀ d1 d2 cs Q Q', (∀ d cs, Q d cs → Q' d cs) → oEqE neg d1 d2 cs Q → oEqE neg d1 d2 cs Q' := fun d1 d2 cs Q Q' h q => by
  unfold oEqE at q ⊢
  split at q
  · exact bex (fun ds q => ⟨q.1, h _ _ q.2⟩) q
  · exact q.elim
where bex {α : Type} {p q : α → Prop} (h : ∀ a, p a → q a) : (∃ a, p a) → ∃ a, q a := fun ⟨a, x⟩ => ⟨a, h a x⟩
def emD (cs : Sto) (neg : Bool) (d1 d2 : D) : Option D := match d2 with
  | .lst [] => (lstOf cs d1).map fun ds => .bl (if neg = true then !ds.isEmpty else ds.isEmpty)
  | _ => none
theorem oEqE_eq {cs : Sto} {Q : PD} (neg : Bool) (d1 d2 : D) : oEqE neg d1 d2 cs Q = bindP (emD cs neg d1 d2) fun d => Q d cs := by
  unfold oEqE emD
  cases d2 with
  | lst ds =>
    cases ds with
    | nil =>
      simp only
      cases e : lstOf cs d1 with
      | none =>
        simp only [Option.map_none, bindP_none, eq_iff_iff, iff_false]
        rintro ⟨ds, e1, _⟩
        cases e1
      | some ds =>
        simp only [Option.map_some, bindP_some, eq_iff_iff]
        exact ⟨fun ⟨es, e1, q⟩ => by cases e1; exact q, fun q => ⟨ds, rfl, q⟩⟩
    | cons d ds => rfl
  | _ => rfl
section
variable {X : Cx}
theorem em_ne {its : List Value} {ds : List D} (h : ds.length = its.length) : ((#[] : Array Value).size != its.toArray.size) = !ds.isEmpty := by
  cases its with
  | nil =>
    cases ds with
    | nil => rfl
    | cons d ds => cases h
  | cons v vs =>
    cases ds with
    | nil => cases h
    | cons d ds => simp
theorem opd_eqE (hu : X.A.units + 64 < cLine) : OpD X (compareOp .Eq) (oEqE false) := .mk' oEqE.mo fun pins s σ H x y v u Q g cs d1 d2 I rx ry sr r1 r2 z => by
  unfold oEqE at z
  split at z
  · obtain ⟨ds, e, q⟩ := z
    obtain ⟨p, vs, e1, h1, h2⟩ := lst_of sr e r1
    obtain ⟨b, us, e2, h3, h4⟩ := r2
    have h5 : us = [] := h4
    subst e1 e2 h5
    cases (show v = Value.ref p from rx)
    cases (show u = Value.ref b from ry)
    obtain ⟨its, rv, hl, _⟩ := I.list h1
    obtain ⟨its2, rv2, hl2, _⟩ := I.list (.of (sr.le _ _ h3))
    cases rv2
    have hn : ds.length = its.length := h2.length.trans rv.length
    cases ds with
    | nil =>
      have hi : its = [] := List.length_eq_zero_iff.mp hn.symm
      subst hi
      exact SeqAt.eq_listAt (e := fun _ => true) hl.isList hl2.isList rfl (by omega) (fun j h _ => absurd h (Nat.not_lt_zero j)) ⟨.bl true, H, I, rfl, q g H _ (Ext.refl g) sr rfl⟩
    | cons d ds =>
      cases its with
      | nil => cases hn
      | cons w ws => exact SeqAt.eq_list_lengthsAt hl.isList hl2.isList (by simp) (by omega) ⟨.bl false, H, I, rfl, q g H _ (Ext.refl g) sr rfl⟩
  · exact z.elim
theorem opd_neE (hu : X.A.units + 64 < cLine) : OpD X (compareOp .NotEq) (oEqE true) := .mk' oEqE.mo fun pins s σ H x y v u Q g cs d1 d2 I rx ry sr r1 r2 z => by
  unfold oEqE at z
  split at z
  · obtain ⟨ds, e, q⟩ := z
    obtain ⟨p, vs, e1, h1, h2⟩ := lst_of sr e r1
    obtain ⟨b, us, e2, h3, h4⟩ := r2
    have h5 : us = [] := h4
    subst e1 e2 h5
    cases (show v = Value.ref p from rx)
    cases (show u = Value.ref b from ry)
    obtain ⟨its, rv, hl, _⟩ := I.list h1
    obtain ⟨its2, rv2, hl2, _⟩ := I.list (.of (sr.le _ _ h3))
    cases rv2
    have hn : ds.length = its.length := h2.length.trans rv.length
    cases ds with
    | nil =>
      have hi : its = [] := List.length_eq_zero_iff.mp hn.symm
      subst hi
      exact SeqAt.RcNeAt.lists (e := fun _ => true) hl.isList hl2.isList rfl (by omega) (fun j h _ => absurd h (Nat.not_lt_zero j)) _ _ _ _ ⟨.bl false, H, I, rfl, q g H _ (Ext.refl g) sr rfl⟩
    | cons d ds =>
      cases its with
      | nil => cases hn
      | cons w ws => exact SeqAt.RcNeAt.lists_lengths hl.isList hl2.isList (by simp) (by omega) _ _ _ _ ⟨.bl true, H, I, rfl, q g H _ (Ext.refl g) sr rfl⟩
  · exact z.elim
end
end DL

/-! DShow: what repr shows of any data, bounded by parts. -/
namespace DL
open PySem PySem.Spec PyProof.Rows L2
variable [Tbs]
/-- m: how long an int's text is at most; w: the weight; k: the depth -/
structure RX (m w k : Nat) (d : D) : Prop where
  h : ∃ p, toPyR d = some p ∧ p.showable = true ∧ p.leavesShort m = true ∧ p.weight ≤ w ∧ p.depth ≤ k
structure RXL (m w k : Nat) (ds : List D) : Prop where
  h : ∃ ps, toPyRL ds = some ps ∧ PyData.showableAll ps = true ∧ PyData.leavesShortAll m ps = true ∧ PyData.weightAll ps ≤ w ∧ PyData.depthAll ps ≤ k
section
variable {m w k : Nat}
theorem RX.mono {w' k' : Nat} {d : D} (h : RX m w k d) (hw : w ≤ w') (hk : k ≤ k') : RX m w' k' d := by
  obtain ⟨p, e, a, b, c, f⟩ := h.h
  exact ⟨p, e, a, b, Nat.le_trans c hw, Nat.le_trans f hk⟩
theorem RXL.mono {w' k' : Nat} {d : List D} (h : RXL m w k d) (hw : w ≤ w') (hk : k ≤ k') : RXL m w' k' d := by
  obtain ⟨p, e, a, b, c, f⟩ := h.h
  exact ⟨p, e, a, b, Nat.le_trans c hw, Nat.le_trans f hk⟩
theorem RX.non : RX m w k .non := ⟨_, rfl, rfl, rfl, by simp [PyData.weight], by simp [PyData.depth]⟩
theorem RX.bl (b : Bool) : RX m w k (.bl b) := ⟨_, rfl, by simp [PyData.showable], by simp [PyData.leavesShort], by simp [PyData.weight], by simp [PyData.depth]⟩
theorem RX.int {n : Nat} {i : Int} (h : Bd n i) (hm : n + 1 ≤ m) (hw : n ≤ w) (hn : n ≤ 1920) (h0 : 1 ≤ n) : RX m w k (.int i) := by
  have hl : i.natAbs.log2 < n := by
    by_cases h0 : i.natAbs = 0
    · rw [h0]; exact Nat.lt_of_lt_of_le (by decide : Nat.log2 0 < 1) (by omega)
    · exact (Nat.log2_lt h0).mpr h
  refine ⟨.int i, rfl, ?_, ?_, ?_, by simp [PyData.depth]⟩
  · simp only [PyData.showable, decide_eq_true_eq]
    omega
  · have e1 := int_text_length_le (a := i) (k := n) h0 hl
    simp only [PyData.leavesShort, decide_eq_true_eq]
    show (Str.ofString (toString i)).length ≤ m
    rw [PySem.ofString_length]
    omega
  · simp only [PyData.weight]
    split <;> omega
theorem RX.str {x : Str} (h : ∀ c ∈ x.cps.toList, c < 16 ^ 8) (hw : x.cps.size ≤ w) : RX m w k (.str x) :=
  ⟨.str x, rfl, by simp [PyData.showable], by simp only [PyData.leavesShort, List.all_eq_true, decide_eq_true_eq]; exact h, by simpa [PyData.weight] using hw, by simp [PyData.depth]⟩
theorem RX.lst {ds : List D} (h : RXL m w k ds) : RX m w (k + 1) (.lst ds) := by
  obtain ⟨ps, e, a, b, c, f⟩ := h.h
  refine ⟨.list ps, by simp only [toPyR, e], by simpa [PyData.showable] using a, by simpa [PyData.leavesShort] using b, by simpa [PyData.weight] using c, ?_⟩
  simp only [PyData.depth]
  omega
theorem RX.tup {ds : List D} (h : RXL m w k ds) : RX m w (k + 1) (.tup ds) := by
  obtain ⟨ps, e, a, b, c, f⟩ := h.h
  refine ⟨.tuple ps, by simp only [toPyR, e], by simpa [PyData.showable] using a, by simpa [PyData.leavesShort] using b, by simpa [PyData.weight] using c, ?_⟩
  simp only [PyData.depth]
  omega
theorem RXL.nil : RXL m w k [] := ⟨[], rfl, rfl, rfl, by simp [PyData.weightAll], by simp [PyData.depthAll]⟩
theorem RXL.cons {w1 w2 : Nat} {d : D} {ds : List D} (h : RX m w1 k d) (t : RXL m w2 k ds) : RXL m (w1 + 1 + w2) k (d :: ds) := by
  obtain ⟨p, e, a, b, c, f⟩ := h.h
  obtain ⟨ps, e', a', b', c', f'⟩ := t.h
  refine ⟨p :: ps, by simp only [toPyRL, e, e'], by simp only [PyData.showableAll, a, a', Bool.and_self], by simp only [PyData.leavesShortAll, b, b', Bool.and_self], ?_, ?_⟩
  · simp only [PyData.weightAll]
    omega
  · simp only [PyData.depthAll]
    omega
theorem RXL.all : ∀ {ds : List D}, (∀ d ∈ ds, RX m w k d) → RXL m ((w + 1) * ds.length) k ds
  | [], _ => RXL.nil
  | d :: ds, h => by
    have q := RXL.cons (h d List.mem_cons_self) (RXL.all fun e he => h e (List.mem_cons_of_mem _ he))
    refine q.mono ?_ (Nat.le_refl _)
    rw [List.length_cons, Nat.mul_succ]
    omega
theorem RX.dic0 : RX m w (k + 1) (.dic []) := by
  refine ⟨.dict [], rfl, by simp [PyData.showable, PyData.showableKv], by simp [PyData.leavesShort, PyData.leavesShortKv], by simp [PyData.weight, PyData.weightKv], ?_⟩
  simp [PyData.depth, PyData.depthKv]
theorem RX.dic1 {w1 w2 : Nat} {i : Int} {d : D} (h1 : RX m w1 k (.int i)) (h : RX m w2 k d) : RX m (w1 + w2 + 2) (k + 1) (.dic [(.inl i, d)]) := by
  obtain ⟨p, e, a, b, c, f⟩ := h.h
  obtain ⟨p1, e1, a1, b1, c1, f1⟩ := h1.h
  cases e1
  refine ⟨.dict [(.int i, p)], by simp only [toPyR, toPyRK, e, keyPy], ?_, ?_, ?_, ?_⟩
  · simp only [PyData.showable, PyData.showableKv] at a1 ⊢
    simp only [a1, a, Bool.and_self]
  · simp only [PyData.leavesShort, PyData.leavesShortKv] at b1 ⊢
    simp only [b1, b, Bool.and_self]
  · simp only [PyData.weight, PyData.weightKv] at c1 ⊢
    omega
  · simp only [PyData.depth, PyData.depthKv] at f1 ⊢
    omega
def shX (d : D) : Str := match toPyR d with
  | some p => p.shown
  | none => Str.empty
theorem reprX_ok {cs : Sto} {d : D} (h : RX m w k d) (h8 : 8 ≤ m) (hw : (m + 2) * w + m ≤ 16000000) (hk : k ≤ 60) : reprX cs d = some (True, shX d) := by
  obtain ⟨p, e, a, b, c, f⟩ := h.h
  have e1 : pyR cs d = some p := by
    cases d with
    | cell i => simp [toPyR] at e
    | _ => exact e
  have hl := PyData.shown_le m h8 p b
  have hm := Nat.mul_le_mul_left (m + 2) c
  have hz : p.shown.length ≤ sizeLine := by
    rw [sizeLine_eq]
    omega
  unfold reprX shX
  rw [e1, e]
  simp only [Option.map_some, Option.some.injEq, Prod.mk.injEq, and_true]
  exact eq_true ⟨a, hz, Nat.le_trans f hk⟩
theorem chars_small (s : String) : ∀ c ∈ (Str.ofString s).cps.toList, c < 16 ^ 8 := by
  intro c hc
  rw [Str.ofString_eq_toList] at hc
  simp at hc
  obtain ⟨x, _, rfl⟩ := hc
  have := x.valid
  have h2 : x.toNat < 0x110000 := by
    rcases this with h | h
    · show x.val.toNat < _
      omega
    · show x.val.toNat < _
      omega
  omega
end
/-! ### comprehensions over enumerate, with a test -/
def enf {α : Type} (t : Nat → α → Bool) (f : Nat → α → D) : Nat → List α → List D
  | _, [] => []
  | k, x :: xs => (if t k x = true then [f k x] else []) ++ enf t f (k + 1) xs
theorem enf_snoc {α : Type} (t : Nat → α → Bool) (f : Nat → α → D) (y : α) : ∀ (xs : List α) (k : Nat), enf t f k (xs ++ [y]) = enf t f k xs ++ if t (k + xs.length) y = true then [f (k + xs.length) y] else []
  | [], k => by simp [enf]
  | x :: xs, k => by
    simp only [List.cons_append, enf, enf_snoc t f y xs (k + 1), List.length_cons, List.append_assoc]
    rw [show k + 1 + xs.length = k + (xs.length + 1) by omega]
theorem lc_enf {α : Type} {pt : Pat} {tt : WT} {we : WE} {env : En} {W : Sto → Prop} {Q : PD} {cs : Sto} {z : Lz (pt, tt, we, env, W, Q)} (xs : List α) (g : α → D) (t : Nat → α → Bool) (f : Nat → α → D) (hW : W cs)
    (hs : ∀ (k : Nat) x, xs[k]? = some x → ∃ env', patSet cs pt (.tup [.int (k : Int), g x]) env = some env' ∧ (∀ R : Bool → Sto → Prop, R (t k x) cs → tt env' cs R) ∧ (t k x = true → ∀ R : PD, R (f k x) cs → we env' cs R)) (hd : Q (.lst (enf t f 0 xs)) cs) : lcP pt tt we env W Q (enD 0 (xs.map g)) [] cs z := by
  refine lcP_i (lc_inv (fun i acc cs' => (acc = enf t f 0 (xs.take i)) ∧ cs' = cs) _ _ _ ⟨by simp [enf], rfl⟩ (fun _ _ _ e => e.2 ▸ hW) ?_ ?_)
  · rintro i d _ _ he ⟨rfl, rfl⟩
    obtain ⟨y, h1, rfl⟩ := enD_get _ _ _ _ he
    rw [List.getElem?_map] at h1
    obtain ⟨x, hx, rfl⟩ := Option.map_eq_some_iff.mp h1
    have hi : i < xs.length := (List.getElem?_eq_some_iff.mp hx).1
    obtain ⟨env', e, q1, q2⟩ := hs i x hx
    rw [Nat.zero_add]
    have e2 : enf t f 0 (xs.take (i + 1)) = enf t f 0 (xs.take i) ++ if t i x = true then [f i x] else [] := by
      rw [List.take_add_one, hx]
      have := enf_snoc t f x (xs.take i) 0
      rw [List.length_take, Nat.min_eq_left (by omega), Nat.zero_add] at this
      exact this
    refine ⟨env', e, fun R1 R2 r1 r2 => q1 _ ?_⟩
    cases ht : t i x with
    | true =>
      rw [if_pos rfl]
      rw [ht, if_pos rfl] at e2
      exact q2 ht _ (r1 _ _ ⟨e2.symm, rfl⟩)
    | false =>
      rw [if_neg (by simp)]
      rw [ht, if_neg (by simp), List.append_nil] at e2
      exact r2 _ ⟨e2.symm, rfl⟩
  · rintro _ _ ⟨rfl, rfl⟩
    have e : xs.take (enD 0 (xs.map g)).length = xs := by rw [enD_len, List.length_map, List.take_length]
    rw [e]
    exact hd
/-! ### comprehensions over known lists; comprehensions that draw -/
theorem lc_mp {α : Type} {pt : Pat} {we : WE} {env : En} {W : Sto → Prop} {Q : PD} {cs : Sto} {z : Lz (pt, wYes, we, env, W, Q)} (xs : List α) (g f : α → D) (hW : W cs)
    (hs : ∀ x ∈ xs, ∃ env', patSet cs pt (g x) env = some env' ∧ ∀ R : PD, R (f x) cs → we env' cs R) (hd : Q (.lst (xs.map f)) cs) : lcP pt wYes we env W Q (xs.map g) [] cs z := by
  have key : ∀ (xs : List α) (acc : List D), (∀ x ∈ xs, ∃ env', patSet cs pt (g x) env = some env' ∧ ∀ R : PD, R (f x) cs → we env' cs R) → Q (.lst (acc ++ xs.map f)) cs → lcloop pt wYes we env W Q (xs.map g) acc cs := by
    intro xs
    induction xs with
    | nil => intro acc _ hd; exact ⟨hW, by simpa using hd⟩
    | cons x xs ih =>
      intro acc hs hd
      refine ⟨hW, ?_⟩
      obtain ⟨env', e, h⟩ := hs x List.mem_cons_self
      rw [e]
      show wYes env' cs _
      simp only [wYes, if_true]
      exact h _ (ih _ (fun y hy => hs y (List.mem_cons_of_mem _ hy)) (by simpa using hd))
  exact lcP_i (key xs [] hs (by simpa using hd))
theorem lc_fl {α : Type} {pt : Pat} {tt : WT} {we : WE} {env : En} {W : Sto → Prop} {Q : PD} {cs : Sto} {z : Lz (pt, tt, we, env, W, Q)} (xs : List α) (g : α → D) (t : α → Bool) (f : α → D) (hW : W cs)
    (hs : ∀ x ∈ xs, ∃ env', patSet cs pt (g x) env = some env' ∧ (∀ R : Bool → Sto → Prop, R (t x) cs → tt env' cs R) ∧ (t x = true → ∀ R : PD, R (f x) cs → we env' cs R)) (hd : Q (.lst ((xs.filter t).map f)) cs) : lcP pt tt we env W Q (xs.map g) [] cs z := by
  have key : ∀ (xs : List α) (acc : List D), (∀ x ∈ xs, ∃ env', patSet cs pt (g x) env = some env' ∧ (∀ R : Bool → Sto → Prop, R (t x) cs → tt env' cs R) ∧ (t x = true → ∀ R : PD, R (f x) cs → we env' cs R)) → Q (.lst (acc ++ (xs.filter t).map f)) cs → lcloop pt tt we env W Q (xs.map g) acc cs := by
    intro xs
    induction xs with
    | nil => intro acc _ hd; exact ⟨hW, by simpa using hd⟩
    | cons x xs ih =>
      intro acc hs hd
      refine ⟨hW, ?_⟩
      obtain ⟨env', e, h1, h2⟩ := hs x List.mem_cons_self
      rw [e]
      refine h1 _ ?_
      cases ht : t x with
      | true =>
        rw [if_pos rfl]
        exact h2 ht _ (ih _ (fun y hy => hs y (List.mem_cons_of_mem _ hy)) (by simpa [List.filter_cons, ht] using hd))
      | false =>
        rw [if_neg (by simp)]
        exact ih _ (fun y hy => hs y (List.mem_cons_of_mem _ hy)) (by simpa [List.filter_cons, ht] using hd)
  exact lcP_i (key xs [] hs (by simpa using hd))
/-- each element draws c times at most -/
theorem lc_drw {α : Type} {pt : Pat} {we : WE} {env : En} {Q : PD} {cs : Sto} {z : Lz (pt, wYes, we, env, wAll, Q)} (g : α → D) (P : α → Prop) (c j n m : Nat) (h0 : SvN j n cs)
    (hs : ∀ k < m, ∀ S, Mv j (n + c * k) cs S → ∃ env', patSet S pt (.int (k : Int)) env = some env' ∧ ∀ R : PD, (∀ x S', P x → Mv j (n + c * k + c) cs S' → R (g x) S') → we env' S R)
    (hd : ∀ (xs : List α) S, xs.length = m → (∀ x ∈ xs, P x) → Mv j (n + c * m) cs S → Q (.lst (xs.map g)) S) : lcP pt wYes we env wAll Q (rngD 0 m) [] cs z := by
  refine lcP_i (lc_inv (fun i acc S => ∃ xs : List α, acc = xs.map g ∧ xs.length = i ∧ (∀ x ∈ xs, P x) ∧ Mv j (n + c * i) cs S) _ _ _ ⟨[], rfl, rfl, (fun x hx => by cases hx), Mv.refl h0⟩ (fun _ _ _ _ => trivial) ?_ ?_)
  · rintro i d _ S he ⟨xs, rfl, hl, hp, mv⟩
    obtain ⟨hi, rfl⟩ := rngD_get he
    obtain ⟨env', e, q⟩ := hs i hi S mv
    rw [Int.zero_add]
    refine ⟨env', e, fun R1 R2 r1 r2 => ?_⟩
    simp only [wYes, if_true]
    refine q _ fun x S' px mv' => r1 _ _ ⟨xs ++ [x], by rw [List.map_append]; rfl, by rw [List.length_append, hl]; rfl, fun y hy => ?_, mv'.mono (by rw [Nat.mul_succ]; omega)⟩
    rcases List.mem_append.mp hy with hy | hy
    · exact hp y hy
    · rw [List.mem_singleton.mp hy]; exact px
  · rintro _ S ⟨xs, rfl, hl, hp, mv⟩
    rw [rngD_len] at hl mv
    exact hd xs S hl hp mv
end DL

/-! DCls: own classes: instances made, their fields read and stored, their methods called, isinstance. -/
namespace DL
open PySem PySem.Spec L2
open PyProof.Rows (envOfC)
variable [Tbs]
/-! ### what stands of an instance -/
def insAt (cs : Sto) (C : Addr) : D → Option (List (Str × D))
  | .obj C' fs => if C' = C then some fs else none
  | .cell i => match cs[i]? with
    | some (.ins C' fs) => if C' = C then some fs else none
    | _ => none
  | _ => none
section
variable {K : PySem.W.Frag} {g : G} {cs : Sto} {H : Hp}
theorem ins_of (s : Sr K g cs H) {C : Addr} {d : D} {v : V} {fs : List (Str × D)} (e : insAt cs C d = some fs) (r : Rep K g d v) : ∃ a dx vs, v = .ref a ∧ H a = some (.ins C dx vs) ∧ RepF K g fs vs := by
  unfold insAt at e
  split at e
  · split at e
    · rename_i h
      cases e
      subst h
      obtain ⟨a, dx, vs, e1, h1, h2⟩ := r
      exact ⟨a, dx, vs, e1, s.le _ _ h1, h2⟩
    · cases e
  · rename_i i
    split at e
    · rename_i C' fs' hc
      split at e
      · rename_i h
        cases e
        subst h
        obtain ⟨a, e1, h1⟩ := r
        obtain ⟨dx, vs, q1, q2, q3⟩ := s.ok i a _ h1 hc
        exact ⟨a, dx, vs, e1, q1, q2⟩
      · cases e
    · cases e
  · cases e
theorem RepF.look : ∀ {fs : List (Str × D)} {vs : List (Str × V)} {f : Str}, RepF K g fs vs → (∀ d, fs.lookup f = some d → ∃ v, vs.lookup f = some v ∧ Rep K g d v) ∧ (fs.lookup f = none → vs.lookup f = none)
  | [], vs, f, h => by
    have h' : vs = [] := h
    subst h'
    exact ⟨fun d e => (by cases e), fun _ => rfl⟩
  | (k, x) :: fs, vs, f, h => by
    obtain ⟨v, r, e1, h1, h2⟩ := h
    subst e1
    simp only [List.lookup]
    split
    · exact ⟨fun d e => by cases e; exact ⟨v, rfl, h1⟩, fun e => by cases e⟩
    · exact RepF.look h2
def putD (f : Str) (d : D) : List (Str × D) → List (Str × D)
  | [] => [(f, d)]
  | (g, x) :: r => if g = f then (g, d) :: r else (g, x) :: putD f d r
theorem RepF.put {f : Str} {d : D} {v : V} (hd : Rep K g d v) : ∀ {fs : List (Str × D)} {vs : List (Str × V)}, RepF K g fs vs → RepF K g (putD f d fs) (putF f v vs)
  | [], vs, h => by
    have h' : vs = [] := h
    subst h'
    exact ⟨v, [], rfl, hd, rfl⟩
  | (k, x) :: fs, vs, h => by
    obtain ⟨u, r, e1, h1, h2⟩ := h
    subst e1
    unfold putD putF
    split
    · exact ⟨v, r, rfl, hd, h2⟩
    · exact ⟨u, _, rfl, h1, RepF.put hd h2⟩
theorem RepF.length : ∀ {fs : List (Str × D)} {vs : List (Str × V)}, RepF K g fs vs → fs.length = vs.length
  | [], vs, h => by
    have h' : vs = [] := h
    subst h'
    rfl
  | (k, x) :: fs, vs, h => by
    obtain ⟨u, r, e1, h1, h2⟩ := h
    subst e1
    simp [RepF.length h2]
/-- an object that nothing is said of -/
theorem Sr.other (s : Sr K g cs H) {p : Addr} (h : H p = none) (o : HO) : Sr K g cs (upd H p o) := by
  have np : p ∉ g.as := fun q => (s.th p q).1 h
  refine ⟨fun a u q => ?_, s.len, s.nd, fun a ha => ?_, fun i a c h1 h2 => ?_, fun q hq => ?_, s.rn, s.tz, s.rt, tabs_free s.tb h⟩
  · rw [upd_ne (ne_of_none q (s.free h))]
    exact s.le a u q
  · rw [upd_ne (fun z => np (by rw [← z]; exact ha))]
    exact s.th a ha
  · have ne : a ≠ p := fun z => np (by rw [← z]; exact List.mem_of_getElem? h1)
    have q := s.ok i a c h1 h2
    refine q.mono (Ext.refl g).sub (fun hd => q.free hd) (fun _ u hu => ?_)
    rw [upd_ne ne]
    exact hu
  · obtain ⟨q1, q2, q3⟩ := s.rs q hq
    exact ⟨by rw [upd_ne (ne_of_none q1 h)]; exact q1, q2, q3⟩
/-- a changing object stays from here on -/
theorem Sr.freezeO (s : Sr K g cs H) {i : Nat} {a : Addr} {c : CO} {o : HO} (ha : g.as[i]? = some a) (h0 : cs[i]? = some c) (hv : H a = some o) (hz : g.Z a = none) (hn : NT o := by nofun) :
    Sr K (g.add a o) (cs.set i .dead) H ∧ Ext g (g.add a o) := by
  have mem : a ∈ g.as := List.mem_of_getElem? ha
  have e : Ext g (g.add a o) := ⟨fun b u q => by
    show upd g.Z a _ b = some u
    rw [upd_ne (ne_of_none q hz)]
    exact q, ⟨[], by simp [G.add]⟩, rfl⟩
  refine ⟨⟨fun b u q => ?_, by simp [G.add, s.len], s.nd, s.th, fun j b d h1 h2 => ?_, fun q hq => ?_, s.rn, fun b u q => ?_, s.rt, s.tb⟩, e⟩
  rotate_right
  · have q' : upd g.Z a o b = some u := q
    by_cases hb : b = a
    · subst hb
      rw [upd_same] at q'
      cases q'
      exact hn
    · rw [upd_ne hb] at q'
      exact s.tz b u q'
  · have q' : upd g.Z a o b = some u := q
    by_cases hb : b = a
    · subst hb
      rw [upd_same] at q'
      rw [hv]
      exact q'
    · rw [upd_ne hb] at q'
      exact s.le b u q'
  · by_cases hj : i = j
    · subst hj
      have hi : i < cs.length := (List.getElem?_eq_some_iff.mp h0).1
      rw [List.getElem?_set_self hi] at h2
      cases h2
      trivial
    · rw [List.getElem?_set_ne hj] at h2
      have ne : b ≠ a := fun z => by
        subst z
        exact hj (nodup_ixA s.nd ha h1)
      have q := s.ok j b d h1 h2
      refine q.mono e.sub (fun hd => ?_) (fun _ u hu => hu)
      show upd g.Z a _ b = none
      rw [upd_ne ne]
      exact q.free hd
  · obtain ⟨q1, q2, q3⟩ := s.rs q hq
    refine ⟨q1, ?_, q3⟩
    show upd g.Z a _ q.1 = none
    rw [upd_ne (fun z => q3 (by rw [z]; exact mem))]
    exact q2
end
section
variable {X : Cx} {a b o : Expr} {wa wb wo : WE} {pos p' : Pos}
/-! ### fields -/
def wFld (C : Addr) (f : Str) (wo : WE) : WE := fun env cs Q => wo env cs fun d cs1 => bindP (insAt cs1 C d) fun fs => bindP (fs.lookup f) fun v => Q v cs1
theorem de_fld {C : Addr} {f : Str} (T : Cls X.K C) (na : NoAttr X.K C f) (ho : DE X o wo) (hb : attributeBase o f X.env (eval o X.env) = eval o X.env := by rfl) : DE X (.Attribute o f pos) (wFld C f wo) :=
  ⟨PE.imp (pe_fld ho.pe hb) fun σ H Q ⟨g, cs, env, s, l, h⟩ => lowE.go ho.mo s l h fun d1 cs1 g1 H1 v1 h1 e1 s1 r1 => by
    cases ei : insAt cs1 C d1 with
    | none => rw [ei] at h1; exact h1.elim
    | some fs =>
      cases el : fs.lookup f with
      | none => simp only [ei, el, bindP_some, bindP_none] at h1
      | some d =>
        simp only [ei, el, bindP_some] at h1
        obtain ⟨a, dx, vs, q1, q2, q3⟩ := ins_of s1 ei r1
        obtain ⟨v, q4, q5⟩ := (RepF.look q3).1 d el
        exact ⟨a, C, dx, vs, v, q1, q2, T, na, q4, h1 g1 H1 v e1 s1 q5⟩,
    fun env cs Q Q' h q => ho.mo env cs _ _ (fun d cs1 q => bindP_mo (fun fs q => bindP_mo (fun v q => h _ _ q) q) q) q⟩
def stF (cs : Sto) (C : Addr) (f : Str) (d y : D) : Option (Prop × Sto) := match d with
  | .cell i => match cs[i]? with
    | some (.ins C' fs) => if C' = C then some (fs.length < 1000, cs.set i (.ins C (putD f y fs))) else none
    | _ => none
  | _ => none
def wStF (C : Addr) (f : Str) (wo wv : WE) : WS := fun E env cs => wv env cs fun y cs1 => wo env cs1 fun d cs2 => bindP (stF cs2 C f d y) fun p => p.1 ∧ E.nx env p.2
theorem ds_fld {C : Addr} {f : Str} {wv : WE} {value : Expr} (T : Cls X.K C) (na : NoAttr X.K C f) (hv : DE X value wv) (ho : DE X o wo) (hs : swapsWith value (some (.Attribute o f p')) pos.line X.env = pure false := by rfl) :
    DS X (.Assign [.Attribute o f p'] value pos) (wStF C f wo wv) := by
  refine ⟨PS.imp (ps_fld ho.pe hv.pe hs) fun Dn σ H ⟨g, cs, env, s, l, h⟩ => ?_, fun E E' env cs hE q => hv.mo env cs _ _ (fun y cs1 q => ho.mo env cs1 _ _ (fun d cs2 q => bindP_mo (fun p q => ⟨q.1, hE.nx _ _ q.2⟩) q) q) q⟩
  refine lowE.go hv.mo s l h fun y cs1 g1 H1 v1 h1 e1 s1 r1 => lowE.go ho.mo s1 (l.mono e1) h1 fun d cs2 g2 H2 v2 h2 e2 s2 r2 => ?_
  cases d with
  | cell i =>
    unfold stF at h2
    simp only at h2
    split at h2
    · rename_i C' fs hc
      split at h2
      · rename_i hC
        subst hC
        obtain ⟨a, q0, q1⟩ := r2
        obtain ⟨dx, vs, q2, q3, q4⟩ := s2.ok i a _ q1 hc
        have hl : vs.length < 1000 := by
          rw [← q3.length]
          exact h2.1
        exact ⟨a, C', dx, vs, q0, q2, T, na, hl, h2.2 g2 _ σ (e1.trans e2) (s2.put q1 hc (by simp) ⟨dx, _, upd_same, q3.put (r1.mono e2), q4⟩) ((l.mono e1).mono e2)⟩
      · exact h2.elim
    · exact h2.elim
  | _ => exact h2.elim
/-! ### instances made -/
theorem RoomG.make {k : Nat} {A : Around} (r : RoomG (k + 1) A) (C : Addr) (us : List Value) (kw : List (Str × Value)) : RoomG k (A.under (.builtin "type.__call__" ⟨.ref C :: us, kw⟩)) :=
  ⟨r.r.make C us kw, by first | exact r.gd | (simpa [Around.under] using r.gd)⟩
variable {CX : CXT} {k : Nat} {C f : Addr} {fd : FuncData} {ps : List Str} {sp : Sp} {E : XK} {x m : Str} {p apos : Pos} {e : Expr} {es : List Expr} {ta : TE} {t : TA}
theorem run_makeG {pins : List (Addr × Obj)} {σ : L2.St} {H : Hp} {s : Shared} {Q : VK} {us ws : List Value} {kw : List (Str × Value)} {vs : List V} (M : Mk X.K C f) (F : FnG X.prog X.w X.K X.mg X.base CX k f fd ps sp) (hr : RoomG (k + 1) X.A)
    (hb : ∀ (s : Shared) (x : Addr), X.K.In s.heap → BindsTo s fd ⟨.ref x :: us, kw⟩ (ps.zip (.ref x :: ws))) (hkw : kw = [])
    (hx : Passes CX X E) (I : Inv X pins σ H s) (r : Vals vs ws)
    (h : ∀ x dx, H x = none → H dx = none → dx ≠ x → sp (.ref x :: vs) (upd (upd H dx (.own x)) x (.ins C dx [])) (fun v H2 => v = .non ∧ Q (.ref x) H2) E) :
    wpAny (model X.prog X.w) X.A (call (.ref C) us) (EP X pins σ Q) X.xe s := by
  subst hkw
  have hq := h (s.heap.objs.size + 1) s.heap.objs.size (I.hok.fresh (Nat.le_succ _)) (I.hok.fresh (Nat.le_refl _)) (Nat.ne_of_lt (Nat.lt_succ_self _))
  have I2 := Inv.made (C := C) I
  have r2 : Vals (V.ref (s.heap.objs.size + 1) :: vs) (Value.ref (s.heap.objs.size + 1) :: ws) := .cons rfl r
  refine wpAny_call (make_map (f := f) I.kIn M.makes M.init (beq_iff_eq.mp M.fn) (codeAny_mono (F.run _ X.stack _ _ ⟨Value.ref (s.heap.objs.size + 1) :: us, []⟩ (Value.ref (s.heap.objs.size + 1) :: ws) _ _ E (hr.make C us [])
    (I2.env0.make C us []) (hb _ _ I2.kIn) r2 hq) fun r s' hq' => ?_))
  cases r with
  | error e => exact hx pins σ _ _ e s' I2 hq'
  | ok fl =>
    cases fl with
    | ret u =>
      obtain ⟨v, H', I3, rv, ev, q3⟩ := I2.after hq'
      subst ev
      exact ⟨rv, ⟨V.ref (s.heap.objs.size + 1), H', I3, rfl, q3⟩⟩
    | next => exact False.elim hq'
    | brk => exact False.elim hq'
    | cont => exact False.elim hq'
theorem peG_make (M : Mk X.K C f) (F : FnG X.prog X.w X.K X.mg X.base CX k f fd ps sp) (hr : RoomG (k + 1) X.A) (hg : Gl X x) (hm : X.mg x = some (.ref C)) (hb : Binds X.K fd ps []) (hx : Passes CX X E)
    (ha : PA X (e :: es) t) (hdb : (x == ("__debug__" : Str)) = false := by decide) (he : starEach (e :: es) X.env = (false, eval e X.env) :: starEach es X.env := by rfl) (hpl : (backTo pos (starEach es X.env)).any (·.1) = false := by rfl) :
    PE X (.Call (.Name x p) (e :: es) [] pos) (tMake C sp [] E t) := by
  refine ⟨fun pins s σ H Q I h => ?_⟩
  refine wpAny_Call_Name_kw (ld_glob I hg hm ?_ hdb)
  refine PySem.W.callWith_K (h₀ := X.base) I.ok.mod.kin M.kp (thn (ha.run pos pins s σ H _ I h) fun us s1 ⟨vs, H1, I1, r, q⟩ => ⟨I1.kIn, ?_⟩) he hpl
  have hl : ∀ x : Addr, (Value.ref x :: us ++ []).length = ps.length := fun x => by
    have hn : ∀ (y dy : Addr), H1 y = none → H1 dy = none → dy ≠ y → (V.ref y :: (vs ++ [])).length = ps.length := fun y dy a b c => F.len _ _ _ _ (q y dy a b c)
    have := hn (s1.heap.objs.size + 1) s1.heap.objs.size (I1.hok.fresh (Nat.le_succ _)) (I1.hok.fresh (Nat.le_refl _)) (Nat.ne_of_lt (Nat.lt_succ_self _))
    rw [List.append_nil] at this ⊢
    rw [← this]
    simp [r.length]
  refine run_makeG (ws := us) (vs := vs) M F hr (fun s x hk => ?_) rfl hx I1 r (fun x dx a b c => ?_)
  · have := hb s (.ref x :: us) hk (hl x)
    rw [List.append_nil] at this
    exact this
  · have := q x dx a b c
    rw [List.append_nil] at this
    exact this
/-- the fields of the instance that was made -/
def madeF (n : Nat) (C : Addr) (cs' : Sto) : Option (List (Str × D)) := match cs'[n]? with
  | some (.ins C' fs) => if C' = C then some fs else none
  | _ => none
/-- a new instance that never changes behind its making -/
def wMkF (C : Addr) (s : FSpec) (wa : WA) : WE := fun env cs Q => wa env cs fun ds cs1 => ∃ i, .cell cs1.length :: ds = s.args i ∧ s.pre i (cs1 ++ [.ins C []]) ∧
  ∀ d cs', s.res i (cs1 ++ [.ins C []]) d cs' → d = .non ∧ ∃ cs2 fs, cs' = cs2 ++ [.ins C fs] ∧ cs2.length = cs1.length ∧ okFs cs1.length fs ∧ (okS cs1.length cs1 → okS cs1.length cs2) ∧ Q (.obj C fs) cs2
/-- a new instance that may change -/
def wMk (C : Addr) (s : FSpec) (wa : WA) : WE := fun env cs Q => wa env cs fun ds cs1 => ∃ i, .cell cs1.length :: ds = s.args i ∧ s.pre i (cs1 ++ [.ins C []]) ∧
  ∀ d cs', s.res i (cs1 ++ [.ins C []]) d cs' → d = .non ∧ Q (.cell cs1.length) cs'
theorem made_at {K : PySem.W.Frag} {g1 g2 : G} {cs1 cs' : Sto} {H1 H2 : Hp} {y : Addr} (s1 : Sr K g1 cs1 H1) (e2 : Ext (g1.cel y) g2) (s2 : Sr K g2 cs' H2) : g2.as[cs1.length]? = some y := by
  obtain ⟨t, et⟩ := e2.a
  have : g2.as = (g1.as ++ [y]) ++ t := et
  rw [this, List.append_assoc, List.getElem?_append_right (by rw [s1.len]; exact Nat.le_refl _), s1.len, Nat.sub_self]
  rfl
theorem low_mkF {K : PySem.W.Frag} {s : FSpec} (c : Calm s) {g g1 : G} {cs1 : Sto} {H1 : Hp} {ds : List D} {vs : List V} {Q : VK} {i : s.ι} (e1 : Ext g g1) (s1 : Sr K g1 cs1 H1) (r1 : RepL K g1 ds vs) (ea : .cell cs1.length :: ds = s.args i) (hp : s.pre i (cs1 ++ [.ins C []]))
    (q : ∀ d cs', s.res i (cs1 ++ [.ins C []]) d cs' → d = .non ∧ ∃ cs2 fs, cs' = cs2 ++ [.ins C fs] ∧ cs2.length = cs1.length ∧ okFs cs1.length fs ∧ (okS cs1.length cs1 → okS cs1.length cs2) ∧ upV K g Q (.obj C fs) cs2)
    (y dy : Addr) (hy : H1 y = none) (hd : H1 dy = none) (ne : dy ≠ y) : dSp K s (.ref y :: vs) (upd (upd H1 dy (.own y)) y (.ins C dy [])) (fun v H2 => v = .non ∧ Q (.ref y) H2) E0 := by
  have s0 := s1.other hd (.own y)
  have hy2 : upd H1 dy (.own y) y = none := by rw [upd_ne (Ne.symm ne)]; exact hy
  have ec := Ext.cel (g := g1) y
  have s2 : Sr K (g1.cel y) (cs1 ++ [.ins C []]) (upd (upd H1 dy (.own y)) y (.ins C dy [])) := s0.cel hy2 ⟨dy, [], upd_same, rfl, s1.free hy⟩
  refine ⟨g1.cel y, cs1 ++ [.ins C []], i, s2, ?_, hp, fun d cs' z => ?_, fun x cs' z => (c.no _ _ _ _ z).elim⟩
  · rw [← ea]
    exact .cons ⟨y, rfl, by show (g1.as ++ [y])[cs1.length]? = some y; rw [← s1.len]; simp⟩ (r1.mono ec)
  · obtain ⟨e3, cs2, fs, e4, hl, ok1, ok2, q2⟩ := q d cs' z
    subst e3 e4
    intro g2 H2 v e2 s3 rv
    refine ⟨rv, ?_⟩
    have ha := made_at s1 e2 s3
    have hc : (cs2 ++ [CO.ins C fs])[cs1.length]? = some (.ins C fs) := by rw [← hl]; simp
    obtain ⟨dx, us, q5, q6, q7⟩ := s3.ok _ y _ ha hc
    obtain ⟨s4, e5⟩ := s3.freezeO ha hc q5 q7
    have et : (g2.add y (.ins C dx us)).as.take cs1.length = g1.as := by
      obtain ⟨t, et⟩ := e2.a
      have : g2.as = (g1.as ++ [y]) ++ t := et
      show g2.as.take cs1.length = g1.as
      rw [this, List.append_assoc, ← s1.len, List.take_left' rfl]
    have ct : ((cs2 ++ [CO.ins C fs]).set cs1.length .dead).take cs1.length = cs2 := by
      rw [List.take_set_of_le (Nat.le_refl _), ← hl, List.take_left' rfl]
    have s5 := s4.cut (n := cs1.length) (by rw [ct]; exact ok2 s1.okS)
    rw [ct] at s5
    refine q2 ((g2.add y (.ins C dx us)).cut cs1.length) H2 (.ref y) ⟨fun b u z => e5.z _ _ (e2.z _ _ (e1.z _ _ z)), ?_, ?_⟩ s5 (Rep.cut _ _ _ ok1 ⟨y, dx, us, rfl, add_at, q6.mono e5⟩)
    · obtain ⟨t, q8⟩ := e1.a
      exact ⟨t, by show (g2.add y _).as.take _ = _; rw [et, q8]⟩
    · show g2.rs = g.rs
      rw [e2.r]
      exact e1.r
theorem de_mkF {s : FSpec} {wa : WA} (c : Calm s) (M : Mk X.K C f) (F : FnG X.prog X.w X.K X.mg X.base CX0 k f fd ps (dSp X.K s)) (hr : RoomG (k + 1) X.A) (hm : X.mg x = some (.ref C)) (hb : Binds X.K fd ps []) (ha : DA X (e :: es) wa)
    (hg : Gl X x := by rfl) (hdb : (x == ("__debug__" : Str)) = false := by decide) (he : starEach (e :: es) X.env = (false, eval e X.env) :: starEach es X.env := by rfl) (hpl : (backTo pos (starEach es X.env)).any (·.1) = false := by rfl) :
    DE X (.Call (.Name x p) (e :: es) [] pos) (wMkF C s wa) :=
  ⟨PE.imp (peG_make M F hr hg hm hb pass0 ha.pe hdb he hpl) fun σ H Q ⟨g, cs, env, sr, l, h⟩ => lowA.go ha.mo sr l h fun ds cs1 g1 H1 vs ⟨i, ea, hp, q⟩ e1 s1 r1 => fun y dy hy hd ne => by
      rw [List.append_nil]
      exact low_mkF c e1 s1 r1 ea hp q y dy hy hd ne,
    fun env cs Q Q' hq q => ha.mo env cs _ _ (fun ds cs1 ⟨i, ea, hp, q⟩ => ⟨i, ea, hp, fun d cs' z => by
      obtain ⟨e3, cs2, fs, e4, hl, ok1, ok2, q2⟩ := q d cs' z
      exact ⟨e3, cs2, fs, e4, hl, ok1, ok2, hq _ _ q2⟩⟩) q⟩
theorem de_mk {s : FSpec} {wa : WA} (c : Calm s) (M : Mk X.K C f) (F : FnG X.prog X.w X.K X.mg X.base CX0 k f fd ps (dSp X.K s)) (hr : RoomG (k + 1) X.A) (hm : X.mg x = some (.ref C)) (hb : Binds X.K fd ps []) (ha : DA X (e :: es) wa)
    (hg : Gl X x := by rfl) (hdb : (x == ("__debug__" : Str)) = false := by decide) (he : starEach (e :: es) X.env = (false, eval e X.env) :: starEach es X.env := by rfl) (hpl : (backTo pos (starEach es X.env)).any (·.1) = false := by rfl) :
    DE X (.Call (.Name x p) (e :: es) [] pos) (wMk C s wa) :=
  ⟨PE.imp (peG_make M F hr hg hm hb pass0 ha.pe hdb he hpl) fun σ H Q ⟨g, cs, env, sr, l, h⟩ => lowA.go ha.mo sr l h fun ds cs1 g1 H1 vs ⟨i, ea, hp, q⟩ e1 s1 r1 => fun y dy hy hd ne => by
      rw [List.append_nil]
      have s0 := s1.other hd (.own y)
      have hy2 : upd H1 dy (.own y) y = none := by rw [upd_ne (Ne.symm ne)]; exact hy
      have ec := Ext.cel (g := g1) y
      have s2 : Sr X.K (g1.cel y) (cs1 ++ [.ins C []]) (upd (upd H1 dy (.own y)) y (.ins C dy [])) := s0.cel hy2 ⟨dy, [], upd_same, rfl, s1.free hy⟩
      refine ⟨g1.cel y, cs1 ++ [.ins C []], i, s2, ?_, hp, fun d cs' z => ?_, fun x cs' z => (c.no _ _ _ _ z).elim⟩
      · rw [← ea]
        exact .cons ⟨y, rfl, by show (g1.as ++ [y])[cs1.length]? = some y; rw [← s1.len]; simp⟩ (r1.mono ec)
      · obtain ⟨e3, q2⟩ := q d cs' z
        subst e3
        intro g2 H2 v e2 s3 rv
        exact ⟨rv, q2 g2 H2 (.ref y) (e1.trans (ec.trans e2)) s3 ⟨y, rfl, made_at s1 e2 s3⟩⟩,
    fun env cs Q Q' hq q => ha.mo env cs _ _ (fun ds cs1 ⟨i, ea, hp, q⟩ => ⟨i, ea, hp, fun d cs' z => ⟨(q d cs' z).1, hq _ _ (q d cs' z).2⟩⟩) q⟩
/-! ### methods -/
theorem peG_meth {pl : Sem Bool} (he : PE X o ta) (c : Cls X.K C) (hm : Meth X.K C m f) (F : FnG X.prog X.w X.K X.mg X.base CX k f fd ps sp) (hr : RoomG k X.A) (hb : Binds X.K fd ps []) (hx : Passes CX X E) (ha : PA X (e :: es) t)
    (hst : starEach (e :: es) X.env = (false, eval e X.env) :: starEach es X.env := by rfl) (hpl : (backTo pos (starEach es X.env)).any (·.1) = false := by rfl)
    (ht : eval (.Call (.Attribute o m apos) (e :: es) [] pos) X.env = (do
      let ov ← eval o X.env
      standAt apos.atName
      let (f, first) ← holding [ov] (getMethod ov m pl)
      callWith pos f first (backTo pos (starEach (e :: es) X.env)) (backToKw pos (keywordEach [] X.env))) := by rfl) :
    PE X (.Call (.Attribute o m apos) (e :: es) [] pos) (tMeth C m sp [] E ta t) := by
  refine ⟨fun pins s σ H Q I h => ?_⟩
  refine PySem.W.methodCall_KW (pl := pl) (thn (he.run pins s σ H _ I h) fun u s1 ⟨x, H1, I1, rx, a, dx, fs, ex, ea, l, q⟩ => ?_) ht
  subst ex
  obtain rfl : u = Value.ref a := rx
  refine getmeth_ok I1 ea c hm l ?_
  refine PySem.W.callWith_K (first := [.ref a]) (h₀ := X.base) I.ok.mod.kin hm.kp (thn (ha.run pos pins s1 σ H1 _ I1 q) fun us s2 ⟨vs, H2, I2, r, q2⟩ => ⟨I2.kIn, ?_⟩) hst hpl
  have q3 : sp (.ref a :: (vs ++ [])) H2 Q E := q2
  rw [List.append_nil] at q3
  have hl : (Value.ref a :: us ++ []).length = ps.length := by
    have := F.len _ _ _ _ q3
    rw [List.append_nil, ← this]
    simp [r.length]
  have hb' := hb s2 (.ref a :: us) I2.kIn hl
  rw [List.append_nil] at hb'
  exact run_G (vs := .ref a :: vs) F hr hb' hx I2 (.cons rfl r) q3
theorem peG_meth0 {pl : Sem Bool} (he : PE X o ta) (c : Cls X.K C) (hm : Meth X.K C m f) (F : FnG X.prog X.w X.K X.mg X.base CX k f fd ps sp) (hr : RoomG k X.A) (hb : Binds X.K fd ps []) (hx : Passes CX X E)
    (ht : eval (.Call (.Attribute o m apos) [] [] pos) X.env = (do
      let ov ← eval o X.env
      standAt apos.atName
      let (f, first) ← holding [ov] (getMethod ov m pl)
      callWith pos f first (backTo pos (starEach [] X.env)) (backToKw pos (keywordEach [] X.env))) := by rfl) :
    PE X (.Call (.Attribute o m apos) [] [] pos) (tMeth C m sp [] E ta tNil) := by
  refine ⟨fun pins s σ H Q I h => ?_⟩
  refine PySem.W.methodCall_KW (pl := pl) (thn (he.run pins s σ H _ I h) fun u s1 ⟨x, H1, I1, rx, a, dx, fs, ex, ea, l, q⟩ => ?_) ht
  subst ex
  obtain rfl : u = Value.ref a := rx
  refine getmeth_ok I1 ea c hm l ?_
  have q2 : sp [.ref a] H1 Q E := q
  have hl : ([Value.ref a] ++ []).length = ps.length := by
    have := F.len _ _ _ _ q2
    rw [← this]
    rfl
  have hb' := hb s1 [.ref a] I1.kIn hl
  rw [List.append_nil] at hb'
  exact PySem.W.callWith_K0 (first := [.ref a]) I1.kIn hm.kp (run_G (vs := [.ref a]) F hr hb' hx I1 (.cons rfl .nil) q2)
def wMeth (C : Addr) (m : Str) (s : FSpec) (wo : WE) (wa : WA) : WE := fun env cs Q => wo env cs fun d cs1 => bindP (insAt cs1 C d) fun fs => fs.lookup m = none ∧ wa env cs1 fun ds cs2 => ∃ i, d :: ds = s.args i ∧ s.pre i cs2 ∧ ∀ d cs', s.res i cs2 d cs' → Q d cs'
theorem wMeth.mo {s : FSpec} {wo : WE} {wa : WA} (h1 : MonoE wo) (h2 : MonoA wa) : MonoE (wMeth C m s wo wa) := fun env cs Q Q' hq q =>
  h1 env cs _ _ (fun d cs1 q => bindP_mo (fun fs ⟨l, q⟩ => ⟨l, h2 env cs1 _ _ (fun ds cs2 ⟨i, e, p, q⟩ => ⟨i, e, p, fun d cs' z => hq _ _ (q d cs' z)⟩) q⟩) q) q
theorem low_meth {s : FSpec} {wo : WE} {wa : WA} {K : PySem.W.Frag} (c : Calm s) (h1 : MonoE wo) (h2 : MonoA wa) {σ : L2.St} {H : Hp} {Q : VK} (h : lowE K (wMeth C m s wo wa) σ H Q) : tMeth C m (dSp K s) [] E0 (lowE K wo) (lowA K wa) σ H Q := by
  obtain ⟨g, cs, env, sr, l, h⟩ := h
  refine lowE.go h1 sr l h fun d cs1 g1 H1 v1 q1 e1 s1 r1 => ?_
  cases ei : insAt cs1 C d with
  | none => rw [ei] at q1; exact q1.elim
  | some fs =>
    simp only [ei, bindP_some] at q1
    obtain ⟨a, dx, vs, q2, q3, q4⟩ := ins_of s1 ei r1
    refine ⟨a, dx, vs, q2, q3, (RepF.look q4).2 q1.1, lowA.go h2 s1 (l.mono e1) q1.2 fun ds cs2 g2 H2 us ⟨i, ea, hp, q⟩ e2 s2 r2 => ?_⟩
    rw [List.append_nil]
    exact low_spec c (e1.trans e2) s2 (by rw [← ea]; exact .cons (r1.mono e2) r2) hp q
theorem de_meth {s : FSpec} {wa : WA} {pl : Sem Bool} (c : Calm s) (ho : DE X o wo) (T : Cls X.K C) (hm : Meth X.K C m f) (F : FnG X.prog X.w X.K X.mg X.base CX0 k f fd ps (dSp X.K s)) (hr : RoomG k X.A) (hb : Binds X.K fd ps []) (ha : DA X (e :: es) wa)
    (hst : starEach (e :: es) X.env = (false, eval e X.env) :: starEach es X.env := by rfl) (hpl : (backTo pos (starEach es X.env)).any (·.1) = false := by rfl)
    (ht : eval (.Call (.Attribute o m apos) (e :: es) [] pos) X.env = (do
      let ov ← eval o X.env
      standAt apos.atName
      let (f, first) ← holding [ov] (getMethod ov m pl)
      callWith pos f first (backTo pos (starEach (e :: es) X.env)) (backToKw pos (keywordEach [] X.env))) := by rfl) :
    DE X (.Call (.Attribute o m apos) (e :: es) [] pos) (wMeth C m s wo wa) :=
  ⟨PE.imp (peG_meth ho.pe T hm F hr hb pass0 ha.pe hst hpl ht) fun σ H Q h => low_meth c ho.mo ha.mo h, wMeth.mo ho.mo ha.mo⟩
theorem de_meth0 {s : FSpec} {pl : Sem Bool} (c : Calm s) (ho : DE X o wo) (T : Cls X.K C) (hm : Meth X.K C m f) (F : FnG X.prog X.w X.K X.mg X.base CX0 k f fd ps (dSp X.K s)) (hr : RoomG k X.A) (hb : Binds X.K fd ps [])
    (ht : eval (.Call (.Attribute o m apos) [] [] pos) X.env = (do
      let ov ← eval o X.env
      standAt apos.atName
      let (f, first) ← holding [ov] (getMethod ov m pl)
      callWith pos f first (backTo pos (starEach [] X.env)) (backToKw pos (keywordEach [] X.env))) := by rfl) :
    DE X (.Call (.Attribute o m apos) [] [] pos) (wMeth C m s wo wNil) :=
  ⟨PE.imp (peG_meth0 ho.pe T hm F hr hb pass0 ht) fun σ H Q h => by
    obtain ⟨g, cs, env, sr, l, h⟩ := h
    refine lowE.go ho.mo sr l h fun d cs1 g1 H1 v1 q1 e1 s1 r1 => ?_
    cases ei : insAt cs1 C d with
    | none => rw [ei] at q1; exact q1.elim
    | some fs =>
      simp only [ei, bindP_some] at q1
      obtain ⟨a, dx, vs, q2, q3, q4⟩ := ins_of s1 ei r1
      obtain ⟨ql, i, ea, hp, q⟩ := q1
      exact ⟨a, dx, vs, q2, q3, (RepF.look q4).2 ql, low_spec c e1 s1 (by rw [← ea]; exact .cons r1 .nil) hp q⟩, wMeth.mo ho.mo da_nil_mo⟩
where da_nil_mo : MonoA wNil := fun _ _ _ _ h q => h _ _ q
/-! ### isinstance(x, C) -/
/-- which kinds of values are of the class -/
theorem kitOne_self (K : PySem.W.Frag) (C : Addr) : PySem.W.kitOne K (.ref C) (.ref C) = some true := by
  unfold PySem.W.kitOne
  rw [if_pos (by simp)]
theorem kitOne_no {K : PySem.W.Frag} {C : Addr} {T : String} (h1 : PySem.W.isClsIn K C = true) (h2 : PySem.W.typeIn K (.ref C) = some (.type "type")) (h3 : PySem.W.subIn K (.type T) (.ref C) = some false) : PySem.W.kitOne K (.type T) (.ref C) = some false := by
  unfold PySem.W.kitOne PySem.W.kitCls
  rw [if_neg (fun h => by have := beq_iff_eq.mp h; cases this)]
  unfold PySem.W.isClsIn at h1
  simp only [h1, h2, h3, beq_self_eq_true, Bool.and_self, if_true]
structure IsC (K : PySem.W.Frag) (C : Addr) : Prop where
  cl : Cls K C
  ha : PySem.W.findIn K (.ref C) "__class__" = some (some (.builtin "object.__class__"))
  hn : PySem.W.specialIn K (.builtin "object.__class__") "__get__" = some (some (.builtin "getset_descriptor.__get__"))
  hk : PySem.W.takesIn K (.builtin "object.__class__") = some true
  hm : PySem.W.mroIn K C (.type "object") = some true
  own : PySem.W.kitOne K (.ref C) (.ref C) = some true
  n : PySem.W.kitOne K (.type "NoneType") (.ref C) = some false
  b : PySem.W.kitOne K (.type "bool") (.ref C) = some false
  i : PySem.W.kitOne K (.type "int") (.ref C) = some false
  s : PySem.W.kitOne K (.type "str") (.ref C) = some false
  t : PySem.W.kitOne K (.type "tuple") (.ref C) = some false
  l : PySem.W.kitOne K (.type "list") (.ref C) = some false
  d : PySem.W.kitOne K (.type "dict") (.ref C) = some false
def isiC (C : Addr) (cs : Sto) (d : D) : Option Bool := match tyD cs d with
  | some _ => some false
  | none => match insAt cs C d with
    | some _ => some true
    | none => none
theorem IsC.no {K : PySem.W.Frag} (h : IsC K C) {cs : Sto} {d : D} {T : String} (e : tyD cs d = some T) : PySem.W.kitOne K (.type T) (.ref C) = some false := by
  cases d with
  | non => cases e; exact h.n
  | bl _ => cases e; exact h.b
  | int _ => cases e; exact h.i
  | str _ => cases e; exact h.s
  | tup _ => cases e; exact h.t
  | lst _ => cases e; exact h.l
  | dic _ => cases e; exact h.d
  | cell i =>
    simp only [tyD] at e
    split at e
    · cases e; exact h.l
    · cases e; exact h.d
    · cases e
  | _ => cases e
def oIsC (C : Addr) : OC := fun ds cs Q => match ds with
  | [d, .ref C'] => C' = C ∧ bindP (isiC C cs d) fun b => Q (.bl b) cs
  | _ => False
theorem cd_isC (h : IsC X.K C) : CallD X (.builtin "isinstance") (oIsC C) := .mk' (fun ds cs Q Q' hq q => by
    unfold oIsC at q ⊢
    split at q
    · exact ⟨q.1, bindP_mo (fun b q => hq _ _ q) q.2⟩
    · exact q) fun pins s σ H xs us Q g cs ds I r sr r1 q => by
  unfold oIsC at q
  split at q
  · rename_i d C'
    obtain ⟨q1, q2⟩ := q
    subst q1
    obtain ⟨v, vr, e1, h1, h2⟩ := r1
    obtain ⟨v2, vr2, e2, h3, h4⟩ := h2
    have h4' : vr2 = [] := h4
    have h3' : v2 = .ref C' := h3
    subst e1 e2 h4' h3'
    unfold isiC at q2
    cases et : tyD cs d with
    | some T =>
      simp only [et, bindP_some] at q2
      exact call_isi pins s σ H _ us Q I r ⟨v, _, .type T, .ref C', false, rfl, .own C', ty_rep sr et h1, h.no et, q2 g H _ (Ext.refl g) sr rfl⟩
    | none =>
      cases ei : insAt cs C' d with
      | none => simp only [et, ei, bindP_none] at q2
      | some fs =>
        simp only [et, ei, bindP_some] at q2
        obtain ⟨a, dx, vs, q3, q4, q5⟩ := ins_of sr ei h1
        subst q3
        exact call_isi pins s σ H _ us Q I r ⟨.ref a, _, .ref C', .ref C', true, rfl, .own C', .base (.ins q4 h.cl h.ha h.hn h.hk h.hm), h.own, q2 g H _ (Ext.refl g) sr rfl⟩
  · exact q.elim
end
/-! ### evaluated -/
section
variable {env : En} {cs : Sto} {Q : PD} {E : DN}
theorem wFld_eq (C : Addr) (f : Str) (wo : WE) : wFld C f wo env cs Q = wo env cs fun d cs1 => bindP (insAt cs1 C d) fun fs => bindP (fs.lookup f) fun v => Q v cs1 := (rfl)
theorem wStF_eq (C : Addr) (f : Str) (wo wv : WE) : wStF C f wo wv E env cs = wv env cs fun y cs1 => wo env cs1 fun d cs2 => bindP (stF cs2 C f d y) fun p => p.1 ∧ E.nx env p.2 := (rfl)
theorem insAt_obj (C : Addr) (fs : List (Str × D)) : insAt cs C (.obj C fs) = some fs := if_pos rfl
def insA (cs : Sto) (n : Nat) : Option (Addr × List (Str × D)) := match cs[n]? with
  | some (.ins C fs) => some (C, fs)
  | _ => none
theorem insAt_cell (C : Addr) (n : Nat) : insAt cs C (.cell n) = (insA cs n).bind fun p => if p.1 = C then some p.2 else none := by
  simp only [insAt, insA]
  cases e : cs[n]? with
  | none => rfl
  | some c => cases c <;> rfl
theorem stF_cell (C : Addr) (f : Str) (n : Nat) (y : D) : stF cs C f (.cell n) y = (insA cs n).bind fun p => if p.1 = C then some (p.2.length < 1000, cs.set n (.ins C (putD f y p.2))) else none := by
  simp only [stF, insA]
  cases e : cs[n]? with
  | none => rfl
  | some c => cases c <;> rfl
theorem insA_get {n : Nat} {C : Addr} {fs : List (Str × D)} (h : cs[n]? = some (.ins C fs)) : insA cs n = some (C, fs) := by
  unfold insA
  rw [h]
/-- a making: nothing is looked at but the arguments -/
def mkFP (C : Addr) (s : FSpec) (ds : List D) (cs : Sto) (Q : PD) (_z : Lz (s, Q) := ⟨⟩) : Prop := ∃ i, .cell cs.length :: ds = s.args i ∧ s.pre i (cs ++ [.ins C []]) ∧
  ∀ d cs', s.res i (cs ++ [.ins C []]) d cs' → d = .non ∧ ∃ cs2 fs, cs' = cs2 ++ [.ins C fs] ∧ cs2.length = cs.length ∧ okFs cs.length fs ∧ (okS cs.length cs → okS cs.length cs2) ∧ Q (.obj C fs) cs2
def mkP (C : Addr) (s : FSpec) (ds : List D) (cs : Sto) (Q : PD) (_z : Lz (s, Q) := ⟨⟩) : Prop := ∃ i, .cell cs.length :: ds = s.args i ∧ s.pre i (cs ++ [.ins C []]) ∧
  ∀ d cs', s.res i (cs ++ [.ins C []]) d cs' → d = .non ∧ Q (.cell cs.length) cs'
theorem wMkF_eq (C : Addr) (s : FSpec) (wa : WA) : wMkF C s wa env cs Q = wa env cs fun ds cs1 => mkFP C s ds cs1 Q := (rfl)
theorem wMk_eq (C : Addr) (s : FSpec) (wa : WA) : wMk C s wa env cs Q = wa env cs fun ds cs1 => mkP C s ds cs1 Q := (rfl)
theorem mkFP_i {C : Addr} {s : FSpec} {ds : List D} {z : Lz (s, Q)} (i : s.ι) (h : .cell cs.length :: ds = s.args i) (hp : s.pre i (cs ++ [.ins C []]))
    (q : ∀ d cs', s.res i (cs ++ [.ins C []]) d cs' → d = .non ∧ ∃ cs2 fs, cs' = cs2 ++ [.ins C fs] ∧ cs2.length = cs.length ∧ okFs cs.length fs ∧ (okS cs.length cs → okS cs.length cs2) ∧ Q (.obj C fs) cs2) : mkFP C s ds cs Q z := ⟨i, h, hp, q⟩
theorem wMeth_eq (C : Addr) (m : Str) (s : FSpec) (wo : WE) (wa : WA) : wMeth C m s wo wa env cs Q = wo env cs fun d cs1 => bindP (insAt cs1 C d) fun fs => fs.lookup m = none ∧ wa env cs1 fun ds cs2 => callP s (d :: ds) cs2 Q := (rfl)
theorem oIsC_eq (C : Addr) (d : D) : oIsC C [d, .ref C] cs Q = bindP (isiC C cs d) fun b => Q (.bl b) cs := propext ⟨fun h => h.2, fun h => ⟨rfl, h⟩⟩
theorem isiC_obj (C : Addr) (fs : List (Str × D)) : isiC C cs (.obj C fs) = some true := by
  simp [isiC, tyD, insAt]
theorem look_hit (f : Str) (d : D) (fs : List (Str × D)) : ((f, d) :: fs).lookup f = some d := by simp [List.lookup]
end
end DL

/-! DKd: dicts asked: those of the call, and those of the module whose keys are texts and whose values are ints. -/
namespace DL
open PySem PySem.Spec L2
variable [Tbs]
def getD (kvs : List (Key × D)) (k : Key) : Option D := (kvs.find? fun kv => decide (kv.1 = k)).map (·.2)
def dicAt (cs : Sto) : D → Option (List (Key × D))
  | .dic kvs => some kvs
  | .cell i => match cs[i]? with
    | some (.dic kvs) => some kvs
    | _ => none
  | _ => none
section
variable {K : PySem.W.Frag} {g : G} {cs : Sto} {H : Hp}
theorem dic_of (s : Sr K g cs H) {d : D} {v : V} {kvs : List (Key × D)} (e : dicAt cs d = some kvs) (r : Rep K g d v) : ∃ a vs, v = .ref a ∧ H a = some (.dK vs) ∧ RepK K g kvs vs := by
  unfold dicAt at e
  split at e
  · cases e
    obtain ⟨a, vs, e1, h1, h2⟩ := r
    exact ⟨a, vs, e1, s.le _ _ h1, h2⟩
  · rename_i i
    split at e
    · rename_i kvs' hc
      cases e
      obtain ⟨a, e1, h1⟩ := r
      obtain ⟨vs, q1, q2, q3⟩ := s.ok i a _ h1 hc
      exact ⟨a, vs, e1, q1, q2⟩
    · cases e
  · cases e
theorem RepK.get : ∀ {kvs : List (Key × D)} {vs : List (Key × V)} (k : Key), RepK K g kvs vs → (∀ d, getD kvs k = some d → ∃ v, valV vs k = some v ∧ Rep K g d v) ∧ (getD kvs k = none → valV vs k = none)
  | [], vs, k, h => by
    have h' : vs = [] := h
    subst h'
    exact ⟨fun d e => (by cases e), fun _ => rfl⟩
  | (k', d) :: kvs, vs, k, h => by
    obtain ⟨v, r, e1, h1, h2⟩ := h
    subst e1
    by_cases e : k' = k
    · have g1 : getD ((k', d) :: kvs) k = some d := by simp [getD, List.find?_cons, e]
      rw [g1]
      exact ⟨fun d' e' => (by cases e'; exact ⟨v, valV_pos e, h1⟩), fun e' => (by cases e')⟩
    · have g1 : getD ((k', d) :: kvs) k = getD kvs k := by simp [getD, List.find?_cons, e]
      rw [g1]
      have g2 : valV ((k', v) :: r) k = valV r k := valV_neg e
      rw [g2]
      exact RepK.get k h2
theorem key_rep {d : D} {v : V} {k : Key} (e : keyD d = some k) (r : Rep K g d v) : v = kV k := by
  unfold keyD at e
  split at e
  · cases e; exact r
  · cases e; exact r
  · cases e
theorem RepK.getD_rep {kvs : List (Key × D)} {vs : List (Key × V)} {x : D} {u : V} (k : Key) (h : RepK K g kvs vs) (hx : Rep K g x u) : Rep K g ((DL.getD kvs k).getD x) ((valV vs k).getD u) := by
  cases e : DL.getD kvs k with
  | none =>
    rw [(RepK.get k h).2 e]
    exact hx
  | some d =>
    obtain ⟨v, q1, q2⟩ := (RepK.get k h).1 d e
    rw [q1]
    exact q2
end
section
variable {X : Cx}
def oDGet : OM := fun d ds cs Q => match ds with
  | [k] => bindP (dicAt cs d) fun kvs => bindP (keyD k) fun k => Q ((getD kvs k).getD .non) cs
  | [k, x] => bindP (dicAt cs d) fun kvs => bindP (keyD k) fun k => Q ((getD kvs k).getD x) cs
  | _ => False
theorem md_dget (hu : X.A.units + 1 < cLine) : MtD X "dict.get" oDGet := .mk' (fun d ds cs Q Q' h q => by
    unfold oDGet at q ⊢
    split at q
    · exact bindP_mo (fun kvs q => bindP_mo (fun k q => h _ _ q) q) q
    · exact bindP_mo (fun kvs q => bindP_mo (fun k q => h _ _ q) q) q
    · exact q) fun pins s σ H x xs v us Q g cs d ds I rx r sr r1 r2 q => by
  unfold oDGet at q
  split at q
  · rename_i k
    obtain ⟨y, yr, e1, h1, h2⟩ := r2
    have h2' : yr = [] := h2
    subst e1 h2'
    obtain ⟨u, rfl, ru⟩ := vals1 r
    cases e2 : dicAt cs d with
    | none => rw [e2] at q; exact q.elim
    | some kvs =>
      cases e3 : keyD k with
      | none => simp only [e2, e3, bindP_some, bindP_none] at q
      | some key =>
        simp only [e2, e3, bindP_some] at q
        obtain ⟨a, vs, ea, h3, h4⟩ := dic_of sr e2 r1
        subst ea
        cases (show v = Value.ref a from rx)
        have ey := key_rep e3 h1
        subst ey
        exact d_get1 hu I (DGet.k h3) ru fun w' s' I' rw' => ⟨_, H, I', rw', q g H _ (Ext.refl g) sr (RepK.getD_rep key h4 rfl)⟩
  · rename_i k x'
    obtain ⟨y, yr, e1, h1, z, zr, e4, h5, h6⟩ := r2
    have h6' : zr = [] := h6
    subst e1 e4 h6'
    obtain ⟨u1, u2, rfl, ru, ru2⟩ := vals2 r
    cases e2 : dicAt cs d with
    | none => rw [e2] at q; exact q.elim
    | some kvs =>
      cases e3 : keyD k with
      | none => simp only [e2, e3, bindP_some, bindP_none] at q
      | some key =>
        simp only [e2, e3, bindP_some] at q
        obtain ⟨a, vs, ea, h3, h4⟩ := dic_of sr e2 r1
        subst ea
        cases (show v = Value.ref a from rx)
        have ey := key_rep e3 h1
        subst ey
        exact d_get2 hu I (DGet.k h3) ru ru2 fun w' s' I' rw' => ⟨_, H, I', rw', q g H _ (Ext.refl g) sr (RepK.getD_rep key h4 h5)⟩
  · exact q.elim
/-! ### a module's dict, texts to ints -/
def DLit : List DictEntry → List (Str × Int) → Prop
  | [], kvs => kvs = []
  | e :: es, kvs => ∃ (k : Str) (i : Int) (r : List (Str × Int)) (t u : Tok), kvs = (k, i) :: r ∧ e.key = .str k t ∧ e.val = .int i u ∧ DLit es r
theorem dlit_find : ∀ {es : List DictEntry} {kvs : List (Str × Int)} (y : Str), DLit es kvs → (match kvs.lookup y with
    | some i => ∃ e u, es.find? (·.key.isStr y) = some e ∧ e.val = .int i u
    | none => es.find? (·.key.isStr y) = none) ∧ es.any (·.refKey) = false
  | [], kvs, y, h => by
    have h' : kvs = [] := h
    subst h'
    exact ⟨rfl, rfl⟩
  | e :: es, kvs, y, h => by
    obtain ⟨k, i, r, t, u, e1, e2, e3, h4⟩ := h
    subst e1
    obtain ⟨q1, q2⟩ := dlit_find y h4
    have ek : e.key.isStr y = (k == y) := by rw [e2]; rfl
    refine ⟨?_, by rw [List.any_cons, q2, Bool.or_false]; unfold DictEntry.refKey; rw [e2]⟩
    rw [List.find?_cons, ek]
    by_cases hy : y = k
    · subst hy
      have b1 : (y == y) = true := by simp
      simp only [List.lookup, b1]
      exact ⟨e, u, rfl, e3⟩
    · have b1 : (k == y) = false := by simpa using fun z => hy z.symm
      have b2 : (y == k) = false := by simpa using hy
      simp only [List.lookup, b1, b2]
      exact q1
structure KDic (K : PySem.W.Frag) (w : World) (mg : Str → Option Value) (x : Str) (kvs : List (Str × Int)) : Prop where
  it : ∃ (a : Addr) (es : Array DictEntry) (n : Nat), mg x = some (.ref a) ∧ K.lookup a = some ⟨.type "dict", none, .dict es n, #[]⟩ ∧ PySem.W.KeysLit w.params es.toList ∧ (a == sysModules) = false ∧ DLit es.toList kvs
theorem kdic_in {K : PySem.W.Frag} {a : Addr} {es : Array DictEntry} {n : Nat} {kvs : List (Str × Int)} (hl : K.lookup a = some ⟨.type "dict", none, .dict es n, #[]⟩) (h : DLit es.toList kvs) (y : Str) :
    match kvs.lookup y with
    | some i => ∃ u, PySem.W.nsIn K a y = some (some (.int i u))
    | none => PySem.W.nsIn K a y = some none := by
  obtain ⟨q1, q2⟩ := dlit_find y h
  cases e : kvs.lookup y with
  | some i =>
    rw [e] at q1
    obtain ⟨en, u, f1, f2⟩ := q1
    refine ⟨u, ?_⟩
    unfold PySem.W.nsIn
    rw [hl]
    simp only [f1, f2]
  | none =>
    rw [e] at q1
    unfold PySem.W.nsIn
    rw [hl]
    simp only [q1, q2, Bool.false_eq_true, if_false]
def strK : D → Option Str
  | .str x => some x
  | _ => none
variable {e f : Expr} {wk wd : WE} {apos cpos p : Pos} {x : Str} {kvs : List (Str × Int)}
/-- NAME.get(k, d) -/
def wKGet (kvs : List (Str × Int)) (wk wd : WE) : WE := fun env cs Q => wk env cs fun k cs1 => wd env cs1 fun d cs2 => bindP (strK k) fun y => Q (((kvs.lookup y).map D.int).getD d) cs2
theorem de_kget (hK : KDic X.K X.w X.mg x kvs) (he : DE X e wk) (hf : DE X f wd) (hg : Gl X x := by rfl) (hd : (x == ("__debug__" : Str)) = false := by decide)
    (base : attributeBase (.Name x p) "get" X.env (eval (.Name x p) X.env) = eval (.Name x p) X.env := by rfl)
    (few : ((backTo cpos (starEach [e, f] X.env)).all (fun x => !x.1) && (backToKw cpos (keywordEach [] X.env)).all (fun x => x.1.isSome)
      && decide (([e, f] : List Expr).length + ([] : List Keyword).length + (if ([] : List Keyword).isEmpty then 0 else 1) < 30)) = true := by rfl)
    (line : (apos.endLine == cpos.line) = true := by rfl) (trees : backTo cpos (starEach [e, f] X.env) = [(false, eval e X.env), (false, eval f X.env)] := by rfl) :
    DE X (.Call (.Attribute (.Name x p) "get" apos) [e, f] [] cpos) (wKGet kvs wk wd) := by
  obtain ⟨a, es, n, hm, hl, hk, hs, hL⟩ := hK.it
  refine ⟨⟨fun pins s σ H Q I h => ?_⟩, fun env cs Q Q' h q => he.mo env cs _ _ (fun k cs1 q => hf.mo env cs1 _ _ (fun d cs2 q => bindP_mo (fun y q => h _ _ q) q) q) q⟩
  obtain ⟨g, cs, env, sr, l, h⟩ := h
  have h0 : tC (V.ref a) σ H fun x H1 => x = .ref a ∧ H1 = H := ⟨rfl, rfl⟩
  refine wpAny_Call_method base few line PySem.F.plainAttrs_dict PySem.F.slot_dict_get PySem.F.type_dict_get (thn ((pe_glob (v := .ref a) hg hm rfl hd).run pins s σ H _ I h0) fun u s1 ⟨x0, H1, I1, rx, ex, eH⟩ => ?_)
  subst ex eH
  obtain rfl : u = Value.ref a := rx
  have hM := fun (s2 : Shared) (k : PySem.W.Frag.In X.K s2.heap) => PySem.W.mapOf_K (prog := X.prog) (w := X.w) k hl hk
  refine ⟨(hM s1 I1.kIn).typeIs, fun b q => ?_, ?_⟩
  · cases q
    exact ⟨_, I1.kIn _ _ hl, rfl⟩
  rw [trees]
  have he' := lowE.go he.mo sr l h fun k cs1 g1 H1 v1 h1 e1 s1' r1 => (⟨g1, cs1, k, s1', e1, r1, h1⟩ : ∃ g1 cs1 k, Sr X.K g1 cs1 H1 ∧ Ext g g1 ∧ Rep X.K g1 k v1 ∧ wd env cs1 fun d cs2 => bindP (strK k) fun y => upV X.K g Q (((kvs.lookup y).map D.int).getD d) cs2)
  refine Calls.callWith_builtin rfl (Calls.evalArgs_plain (Calls.spliced_cons (thn (he.pe.run pins s1 σ H1 _ I1 he') fun iv s2 ⟨y, H2, I2, ry, g1, cs1, k, s1', e1, r1, h1⟩ => Calls.spliced_cons (thn (hf.pe.run pins s2 σ H2 _ I2
    (lowE.go hf.mo s1' (l.mono e1) h1 fun d cs2 g2 H2 v2 h2 e2 s2' r2 => (⟨g2, cs2, d, s2', e2, r2, h2⟩ : ∃ g2 cs2 d, Sr X.K g2 cs2 H2 ∧ Ext g1 g2 ∧ Rep X.K g2 d v2 ∧ bindP (strK k) fun y => upV X.K g Q (((kvs.lookup y).map D.int).getD d) cs2)))
    fun fv s3 ⟨z, H3, I3, rz, g2, cs2, d, s2', e2, r2, h2⟩ => Calls.spliced_nil ?_))))
  cases k with
  | str y' =>
    have h2' : upV X.K g Q (((kvs.lookup y').map D.int).getD d) cs2 := h2
    cases (show y = V.str y' from r1)
    obtain ⟨t, rfl⟩ := ry
    refine call_meetsIn PySem.F.slot_dict_get (hM s3 I3.kIn).typeIs PySem.F.entry_dict_get (PySem.F.args_dict_get_3 _ _ _) (meets_dict_get_default (strKind X.prog X.w) a (strKind_is X.prog X.w y' t) hs fv) ⟨_, hM s3 I3.kIn, ?_⟩
    have q := kdic_in hl hL y'
    cases ek : kvs.lookup y' with
    | none =>
      rw [ek] at q h2'
      have q' := PySem.W.find_K hl q
      rw [q']
      exact ⟨z, H3, I3.tok _, rz, h2' g2 H3 z (e1.trans e2) s2' r2⟩
    | some i =>
      rw [ek] at q h2'
      obtain ⟨u, q⟩ := q
      have q' := PySem.W.find_K hl q
      rw [q']
      exact ⟨.int i, H3, I3.tok _, ⟨u, rfl⟩, h2' g2 H3 _ (e1.trans e2) s2' rfl⟩
  | _ => exact h2.elim
/-- NAME[k], there -/
def wKIx (kvs : List (Str × Int)) (wk : WE) : WE := fun env cs Q => wk env cs fun k cs1 => bindP (strK k) fun y => bindP (kvs.lookup y) fun i => Q (.int i) cs1
theorem de_kix (hK : KDic X.K X.w X.mg x kvs) (he : DE X e wk) (hg : Gl X x := by rfl) (hd : (x == ("__debug__" : Str)) = false := by decide) (hs : PlainIx e := by exact fun _ _ => rfl) :
    DE X (.Subscript (.Name x p) e cpos) (wKIx kvs wk) := by
  obtain ⟨a, es, n, hm, hl, hk, hsm, hL⟩ := hK.it
  refine ⟨PE.imp (pe_ix ix_kdict (pe_glob (v := .ref a) hg hm rfl hd) he.pe hs) fun σ H Q ⟨g, cs, env, sr, l, h⟩ => ?_, fun env cs Q Q' h q => he.mo env cs _ _ (fun k cs1 q => bindP_mo (fun y q => bindP_mo (fun i q => h _ _ q) q) q) q⟩
  refine lowE.go he.mo sr l h fun k cs1 g1 H1 v1 h1 e1 s1 r1 => ?_
  cases k with
  | str y' =>
    cases (show v1 = V.str y' from r1)
    have h1' : bindP (kvs.lookup y') fun i => upV X.K g Q (.int i) cs1 := h1
    have q := kdic_in hl hL y'
    cases ek : kvs.lookup y' with
    | none => rw [ek] at h1'; exact h1'.elim
    | some i =>
      rw [ek] at q h1'
      obtain ⟨u, q⟩ := q
      exact ⟨a, y', .int i, rfl, rfl, ⟨es, n, .int i u, hl, hk, q, ⟨u, rfl⟩⟩, h1' g1 H1 _ e1 s1 rfl⟩
  | _ => exact h1.elim
end
section
variable {env : En} {cs : Sto} {Q : PD} {E : DN}
theorem oDGet1_eq (d k : D) : oDGet d [k] cs Q = bindP (dicAt cs d) fun kvs => bindP (keyD k) fun k => Q ((getD kvs k).getD .non) cs := (rfl)
theorem oDGet2_eq (d k x : D) : oDGet d [k, x] cs Q = bindP (dicAt cs d) fun kvs => bindP (keyD k) fun k => Q ((getD kvs k).getD x) cs := (rfl)
theorem dicAt_dic (kvs : List (Key × D)) : dicAt cs (.dic kvs) = some kvs := (rfl)
theorem wKGet_eq (kvs : List (Str × Int)) (wk wd : WE) : wKGet kvs wk wd env cs Q = wk env cs fun k cs1 => wd env cs1 fun d cs2 => bindP (strK k) fun y => Q (((kvs.lookup y).map D.int).getD d) cs2 := (rfl)
theorem wKIx_eq (kvs : List (Str × Int)) (wk : WE) : wKIx kvs wk env cs Q = wk env cs fun k cs1 => bindP (strK k) fun y => bindP (kvs.lookup y) fun i => Q (.int i) cs1 := (rfl)
theorem strK_str (x : Str) : strK (.str x) = some x := (rfl)
theorem rcv_dic {kvs : List (Key × D)} : (rcvT cs (.dic kvs) = some "dict") = True := eq_true rfl
end
/-! ### a[i], b[j] = x, y -/
def pairD : D → Option (D × D)
  | .tup [x, y] => some (x, y)
  | _ => none
def wSw2 (wt wo1 wi1 wo2 wi2 : WE) : WS := fun E env cs => wt env cs fun d cs1 => bindP (pairD d) fun p => wo1 env cs1 fun o1 c2 => wi1 env c2 fun k1 c3 => bindP (stoD c3 o1 k1 p.1) fun c4 =>
  wo2 env c4 fun o2 c5 => wi2 env c5 fun k2 c6 => bindP (stoD c6 o2 k2 p.2) fun c7 => E.nx env c7
theorem sto_ok {K : PySem.W.Frag} {g : G} {cs cs' : Sto} {H : Hp} {o k d : D} {vo vk v : V} {R : Hp → Prop} (s : Sr K g cs H) (ro : Rep K g o vo) (rk : Rep K g k vk) (r : Rep K g d v) (e : stoD cs o k d = some cs') (h : ∀ H', Sr K g cs' H' → R H') :
    ∃ (p : Addr) (vs : List V) (i : Int) (j : Nat), vo = .ref p ∧ vk = .int i ∧ H p = some (.lst vs) ∧ ixN vs.length i = some j ∧ R (upd H p (.lst (vs.set j v))) := by
  unfold stoD at e
  split at e
  · rename_i n i
    split at e
    · rename_i ds hc
      split at e
      · rename_i j hj
        cases e
        cases rk
        obtain ⟨p, e4, h4⟩ := ro
        subst e4
        obtain ⟨vs, q1, q2, q3⟩ := s.ok n p _ h4 hc
        exact ⟨p, vs, i, j, rfl, rfl, q1, by rw [← q2.length]; exact hj, h _ (s.put h4 hc (by simp) ⟨_, upd_same, q2.set r j, q3⟩)⟩
      · cases e
    · cases e
  · cases e
theorem ds_sw2 {X : Cx} {o1 i1 o2 i2 a b : Expr} {wA : WA} {wo1 wi1 wo2 wi2 : WE} {p1 p2 pt pv pos : Pos} {kt kv} (hc : X.calm = true) (ha : DA X [a, b] wA) (h1 : DE X o1 wo1) (k1 : DE X i1 wi1) (h2 : DE X o2 wo2) (k2 : DE X i2 wi2)
    (a1 : ∀ v, assign (.Subscript o1 i1 p1) X.env v = (do
      let ov ← holding [v] (eval o1 X.env)
      let iv ← holding [v, ov] (eval i1 X.env)
      standAt p1
      holding [v, ov, iv] (setItem ov iv v)
      release [v, ov, iv] []) := by intro _; rfl)
    (a2 : ∀ v, assign (.Subscript o2 i2 p2) X.env v = (do
      let ov ← holding [v] (eval o2 X.env)
      let iv ← holding [v, ov] (eval i2 X.env)
      standAt p2
      holding [v, ov, iv] (setItem ov iv v)
      release [v, ov, iv] []) := by intro _; rfl)
    (hn : (assignEach [.Subscript o1 i1 p1, .Subscript o2 i2 p2] X.env).length = 2 := by rfl) (hst : (assignEach [.Subscript o1 i1 p1, .Subscript o2 i2 p2] X.env).findIdx? (·.1) = none := by rfl)
    (e1 : (assignEach [.Subscript o1 i1 p1, .Subscript o2 i2 p2] X.env).map (·.2) = assign (.Subscript o1 i1 p1) X.env :: (assignEach [.Subscript o2 i2 p2] X.env).map (·.2) := by rfl)
    (e2 : (assignEach [.Subscript o2 i2 p2] X.env).map (·.2) = assign (.Subscript o2 i2 p2) X.env :: (assignEach [] X.env).map (·.2) := by rfl)
    (hs : swapsWithSole [.Tuple [.Subscript o1 i1 p1, .Subscript o2 i2 p2] kt pt] (.Tuple [a, b] kv pv) pos.line X.env = pure false := by rfl) (hw : swappedStores [.Tuple [.Subscript o1 i1 p1, .Subscript o2 i2 p2] kt pt] (.Tuple [a, b] kv pv) X.env = pure none := by rfl)
    (e3 : (assignEach [.Tuple [.Subscript o1 i1 p1, .Subscript o2 i2 p2] kt pt] X.env).map (·.2) = [assign (.Tuple [.Subscript o1 i1 p1, .Subscript o2 i2 p2] kt pt) X.env] := by rfl) :
    DS X (.Assign [.Tuple [.Subscript o1 i1 p1, .Subscript o2 i2 p2] kt pt] (.Tuple [a, b] kv pv) pos) (wSw2 (wTup wA) wo1 wi1 wo2 wi2) := by
  have he : DE X (.Tuple [a, b] kv pv) (wTup wA) := de_tup ha
  refine ⟨PS.imp (ps_asg he.pe (pg_tup hc (pgs_cons (pg_sub h1.pe k1.pe set_list a1) (pgs_cons (pg_sub h2.pe k2.pe set_list a2) pgs_nil e2) e1) hn hst) hs hw e3) fun Dn σ H ⟨g, cs, env, sr, l, h⟩ => ?_,
    fun E E' env cs h q => he.mo _ _ _ _ (fun d cs1 q => bindP_mo (fun p q => h1.mo _ _ _ _ (fun o c2 q => k1.mo _ _ _ _ (fun k c3 q => bindP_mo (fun c4 q => h2.mo _ _ _ _ (fun o c5 q => k2.mo _ _ _ _ (fun k c6 q => bindP_mo (fun c7 q => h.nx _ _ q) q) q) q) q) q) q) q) q⟩
  refine lowE.go he.mo sr l h fun d cs1 g1 H1 v1 q1 x1 s1 r1 => ?_
  cases d with
  | tup ds =>
    match ds, q1, r1 with
    | [x, y], q1, r1 =>
      obtain ⟨p, vs, ev, hv, rl⟩ := r1
      obtain ⟨u, ur, eu, ru, w, wr, ew, rw', en⟩ := rl
      have en' : wr = [] := en
      subst eu ew en' ev
      refine ⟨p, _, rfl, sqT_mono s1.le hv, rfl, u, _, rfl, ?_⟩
      refine lowE.go h1.mo s1 (l.mono x1) q1 fun od c2 g2 H2 v2 q2 x2 s2 r2 => lowE.go k1.mo s2 ((l.mono x1).mono x2) q2 fun kd c3 g3 H3 v3 q3 x3 s3 r3 => ?_
      cases es : stoD c3 od kd x with
      | none => rw [es] at q3; exact q3.elim
      | some c4 =>
        rw [es] at q3
        have q3' : wo2 env c4 fun o2 c5 => wi2 env c5 fun k2 c6 => bindP (stoD c6 o2 k2 y) fun c7 => (upN X.K g Dn).nx env c7 := q3
        refine sto_ok s3 (r2.mono x3) r3 ((ru.mono x2).mono x3) es fun H4 s4 => ⟨w, [], rfl, ?_⟩
        have l3 := ((l.mono x1).mono x2).mono x3
        refine lowE.go h2.mo s4 l3 q3' fun od c5 g5 H5 v5 q5 x5 s5 r5 => lowE.go k2.mo s5 (l3.mono x5) q5 fun kd c6 g6 H6 v6 q6 x6 s6 r6 => ?_
        cases es2 : stoD c6 od kd y with
        | none => rw [es2] at q6; exact q6.elim
        | some c7 =>
          rw [es2] at q6
          refine sto_ok s6 (r5.mono x6) r6 ((((rw'.mono x2).mono x3).mono x5).mono x6) es2 fun H7 s7 => ⟨rfl, ?_⟩
          exact q6 g6 H7 σ ((((x1.trans x2).trans x3).trans x5).trans x6) s7 ((l3.mono x5).mono x6)
  | _ => exact q1.elim
theorem wSw2_eq {env : En} {cs : Sto} {E : DN} (wt wo1 wi1 wo2 wi2 : WE) : wSw2 wt wo1 wi1 wo2 wi2 E env cs = wt env cs fun d cs1 => bindP (pairD d) fun p => wo1 env cs1 fun o1 c2 => wi1 env c2 fun k1 c3 => bindP (stoD c3 o1 k1 p.1) fun c4 =>
  wo2 env c4 fun o2 c5 => wi2 env c5 fun k2 c6 => bindP (stoD c6 o2 k2 p.2) fun c7 => E.nx env c7 := (rfl)
theorem pairD_tup (x y : D) : pairD (.tup [x, y]) = some (x, y) := (rfl)
/-! ### [x] * n, new and changing -/
def mulC (cs : Sto) : D → D → Option (Prop × List D)
  | d1, .int k => (lstOf cs d1).map fun xs => (-(2 ^ 63) ≤ k ∧ k < 2 ^ 63 ∧ xs.length * k.toNat ≤ sizeLine, (List.replicate k.toNat xs).flatten)
  | _, _ => none
def oMulC : O2 := fun d1 d2 cs Q => bindP (mulC cs d1 d2) fun p => p.1 ∧ Q (.cell cs.length) (cs ++ [.lst p.2])
theorem opd_mulC : OpD X (binaryOp .Mult) oMulC := .mk' (fun d1 d2 cs Q Q' h q => bindP_mo (fun p q => ⟨q.1, h _ _ q.2⟩) q) fun pins s σ H x y v u Q g cs d1 d2 I rx ry sr r1 r2 q => by
  unfold oMulC at q
  cases d2 with
  | int k =>
    cases e : lstOf cs d1 with
    | none =>
      simp only [mulC, e, Option.map_none, bindP_none] at q
    | some xs =>
      simp only [mulC, e, Option.map_some, bindP_some] at q
      obtain ⟨⟨z1, z2, z3⟩, q⟩ := q
      cases r2
      obtain ⟨p, vs, f1, h1, h2⟩ := rd_of sr e r1
      subst f1
      exact op_rep pins s σ H _ _ v u Q I rx ry ⟨p, _, vs, rfl, rfl, h1, z1, z2, by rw [← h2.length]; exact z3, new_cel sr (h2.rep _) q⟩
  | _ => exact q.elim
theorem oMulC_eq (d1 d2 : D) {cs : Sto} {Q : PD} : oMulC d1 d2 cs Q = bindP (mulC cs d1 d2) fun p => p.1 ∧ Q (.cell cs.length) (cs ++ [.lst p.2]) := (rfl)
theorem mulC_lst (xs : List D) (k : Int) {cs : Sto} : mulC cs (.lst xs) (.int k) = some (-(2 ^ 63) ≤ k ∧ k < 2 ^ 63 ∧ xs.length * k.toNat ≤ sizeLine, (List.replicate k.toNat xs).flatten) := (rfl)
end DL

/-! DIns: comprehensions whose list will change; insert. -/
namespace DL
open PySem PySem.Spec PyProof.Rows L2
variable [Tbs]
section
variable {K : PySem.W.Frag} {g : G} {cs : Sto} {H : Hp}
/-- what was held becomes a changing object -/
theorem Sr.uncel (s : Sr K g cs H) {p : Addr} {o : HO} {r : List (Addr × HO)} (e : g.rs = (p, o) :: r) {c : CO} (hc : COk K { g with as := g.as ++ [p], rs := r } H p c) : Sr K { g with as := g.as ++ [p], rs := r } (cs ++ [c]) H := by
  obtain ⟨q1, q2, q3⟩ := s.rs (p, o) (by rw [e]; exact List.mem_cons_self)
  have rn := s.rn
  rw [e] at rn
  have sb : Sub g { g with as := g.as ++ [p], rs := r } := ⟨fun a u h => h, ⟨[p], rfl⟩⟩
  refine ⟨s.le, ?_, ?_, fun a ha => ?_, fun i a d h1 h2 => ?_, fun q hq => ?_, (List.nodup_cons.mp rn).2, s.tz, fun q hq => s.rt q (by rw [e]; exact List.mem_cons_of_mem _ hq), s.tb⟩
  · show (g.as ++ [p]).length = (cs ++ [c]).length
    rw [List.length_append, List.length_append, s.len]
    rfl
  · show (g.as ++ [p]).Nodup
    rw [List.nodup_append]
    refine ⟨s.nd, by simp, ?_⟩
    intro a ha b hb
    have : b = p := by simpa using hb
    subst this
    exact fun z => q3 (by rw [← z]; exact ha)
  · have ha' : a ∈ g.as ++ [p] := ha
    rcases List.mem_append.mp ha' with q | q
    · exact s.th a q
    · have : a = p := by simpa using q
      subst this
      have q1' : H a = some o := q1
      rw [q1']
      exact ⟨nofun, fun ps z => (s.rt (a, o) (by rw [e]; exact List.mem_cons_self)).t ps (Option.some.inj z)⟩
  · have h1' : (g.as ++ [p])[i]? = some a := h1
    by_cases hi : i < g.as.length
    · rw [List.getElem?_append_left hi] at h1'
      rw [List.getElem?_append_left (by rw [← s.len]; exact hi)] at h2
      exact (s.ok i a d h1' h2).mono sb (fun hd => (s.ok i a d h1' h2).free hd) (fun _ u hu => hu)
    · have hi2 : i < (g.as ++ [p]).length := (List.getElem?_eq_some_iff.mp h1').1
      rw [List.length_append, List.length_singleton] at hi2
      have e2 : i = g.as.length := by omega
      subst e2
      have ea : a = p := by
        have := h1'
        simp at this
        exact this.symm
      rw [s.len] at h2
      have ed : d = c := by
        have := h2
        simp at this
        exact this.symm
      subst ea ed
      exact hc
  · obtain ⟨r1, r2, r3⟩ := s.rs q (by rw [e]; exact List.mem_cons_of_mem _ hq)
    refine ⟨r1, r2, fun hm => ?_⟩
    have hm' : q.1 ∈ g.as ++ [p] := hm
    rcases List.mem_append.mp hm' with z | z
    · exact r3 z
    · have : q.1 = p := by simpa using z
      exact (List.nodup_cons.mp rn).1 (List.mem_map.mpr ⟨q, hq, this⟩)
end
/-- a list just made, from now on changing -/
def celD (d : D) (cs : Sto) (Q : PD) : Prop := match d with
  | .lst ds => Q (.cell cs.length) (cs ++ [.lst ds])
  | _ => False
theorem celD_mo {d : D} {cs : Sto} {Q Q' : PD} (h : ∀ d cs, Q d cs → Q' d cs) (q : celD d cs Q) : celD d cs Q' := by
  cases d with
  | lst ds => exact h _ _ q
  | _ => exact q.elim
def wLcC (wi : WI) (p : Pat) (tt : WT) (we : WE) (vs : List Nat) : WE := fun env cs Q => wLc wi p tt we vs env cs fun d cs' => celD d cs' Q
theorem wLcC.mo {wi : WI} {p : Pat} {tt : WT} {we : WE} {vs : List Nat} (mi : MonoI wi) (mt : MonoT tt) (me : MonoE we) : MonoE (wLcC wi p tt we vs) := fun env cs Q Q' h q =>
  wLc.mo mi mt me env cs _ _ (fun d cs1 q => celD_mo h q) q
theorem wLcC_eq (wi : WI) (p : Pat) (tt : WT) (we : WE) (vs : List Nat) {env : En} {cs : Sto} {Q : PD} : wLcC wi p tt we vs env cs Q = wLc wi p tt we vs env cs fun d cs' => celD d cs' Q := (rfl)
theorem celD_lst (ds : List D) {cs : Sto} {Q : PD} : celD (.lst ds) cs Q = Q (.cell cs.length) (cs ++ [.lst ds]) := (rfl)
theorem low_lcC {K : PySem.W.Frag} {wi : WI} {p : Pat} {tt : WT} {we : WE} {vs : List Nat} (mi : MonoI wi) (mt : MonoT tt) (me : MonoE we) (hsl : ∀ i ∈ slots p, i ∈ vs) {σ : L2.St} {H : Hp} {Q : VK}
    (h : lowE K (wLcC wi p tt we vs) σ H Q) : tLc (lowI K wi) (gOf K p) (lowT K tt) (lowE K we) vs σ H Q := by
  obtain ⟨g, cs, env, s, l, h⟩ := h
  refine lowI.go mi s l h fun ds W cs1 g1 H1 J ⟨hz, h1⟩ e1 s1 hJ => ?_
  intro Dd hD
  refine ⟨fun i m H => m = ds.length - i ∧ i ≤ ds.length ∧ ∃ g2 cs2 acc vacc, Sub g1 g2 ∧ g2.rs = (Dd, .lst vacc) :: g1.rs ∧ Sr K g2 cs2 H ∧ RepL K g2 acc vacc ∧ acc.length ≤ i ∧ lcloop p tt we (wipeE env vs) W (fun d cs => celD d cs (upV K g Q)) (ds.drop i) acc cs2,
    ⟨ds.length, by simp, Nat.zero_le _, g1.hold Dd (.lst []), cs1, [], [], ⟨fun _ _ h => h, ⟨[], by simp [G.hold]⟩⟩, rfl, s1.hold hD _, rfl, Nat.le_refl _, by simpa using h1⟩, ?_⟩
  rintro i m H2 ⟨rfl, hi', g2, cs2, acc, vacc, sb, er, s2, ra, hla, hf⟩
  by_cases hlt : i < ds.length
  · rw [List.drop_eq_getElem_cons hlt] at hf
    unfold lcloop at hf
    obtain ⟨hw, hf⟩ := hf
    obtain ⟨stop, go⟩ := hJ g2 cs2 H2 sb s2 hw
    obtain ⟨hgo, hy⟩ := go i ds[i] (by simp [hlt])
    refine .inr ⟨hgo, fun H' => ∃ g3 cs3 acc3 vacc3, Sub g1 g3 ∧ g3.rs = (Dd, .lst vacc3) :: g1.rs ∧ Sr K g3 cs3 H' ∧ RepL K g3 acc3 vacc3 ∧ acc3.length ≤ i + 1 ∧ lcloop p tt we (wipeE env vs) W (fun d cs => celD d cs (upV K g Q)) (ds.drop (i + 1)) acc3 cs3,
      fun H' ⟨g3, cs3, acc3, vacc3, q⟩ => ⟨ds.length - (i + 1), by omega, rfl, hlt, g3, cs3, acc3, vacc3, q⟩, fun x H' y => ?_⟩
    obtain ⟨g3, e3, s3, r3⟩ := hy x H' y
    split at hf
    · rename_i env' hp'
      have lw : Lr K g3 (wipeE env vs) (wipe σ vs) := ⟨((l.mono e1).wiped vs).len, fun i d h => by
        obtain ⟨v, q1, q2⟩ := ((l.mono e1).wiped vs).ok i d h
        exact ⟨v, q1, Rep.sub e3.sub _ _ (Rep.sub sb _ _ q2)⟩⟩
      refine gOf_ok s3 p _ x (wipeE env vs) env' (wipe σ vs) _ r3 lw hp' fun σ' l' hwp => ⟨(hwp vs hsl).trans (wipe_wipe σ (fun i h => h)), ?_⟩
      refine lowT.go mt s3 l' hf fun b cs4 g4 H4 h4 e4 s4 => ?_
      have sb4 : Sub g1 g4 := ⟨fun a o h => e4.z _ _ (e3.z _ _ (sb.z a o h)), by
        obtain ⟨t, q⟩ := sb.a
        obtain ⟨t3, q3⟩ := e3.a
        obtain ⟨t4, q4⟩ := e4.a
        exact ⟨t ++ (t3 ++ t4), by rw [q4, q3, q]; simp⟩⟩
      have er4 : g4.rs = (Dd, .lst vacc) :: g1.rs := by rw [e4.r, e3.r, er]
      refine ite_mono (fun h4 => ?_) (fun h4 => ?_) h4
      · refine lowE.go me s4 (l'.mono e4) h4 fun y' cs5 g5 H5 v5 h5 e5 s5 r5 => ?_
        have er5 : g5.rs = (Dd, .lst vacc) :: g1.rs := by rw [e5.r, er4]
        obtain ⟨q1, q2, q3⟩ := s5.rs (Dd, .lst vacc) (by rw [er5]; exact List.mem_cons_self)
        have ra5 : RepL K g5 acc vacc := ((ra.mono e3).mono e4).mono e5
        have l5 : vacc.length = acc.length := ra.length.symm
        have sb5 : Sub g5 { g5 with rs := (Dd, .lst (vacc ++ [v5])) :: g1.rs } := ⟨fun _ _ h => h, ⟨[], by simp⟩⟩
        refine ⟨vacc, q1, by omega, { g5 with rs := (Dd, .lst (vacc ++ [v5])) :: g1.rs }, cs5, acc ++ [y'], vacc ++ [v5], ⟨fun a o h => e5.z _ _ (sb4.z a o h), ?_⟩, rfl, s5.rehold er5, (ra5.append (.cons r5 .nil)).sub' sb5, by simp; omega, h5⟩
        obtain ⟨t, q⟩ := sb4.a
        obtain ⟨t3, q3⟩ := e5.a
        exact ⟨t ++ t3, by show g5.as = _; rw [q3, q]; simp⟩
      · exact ⟨g4, cs4, acc, vacc, sb4, er4, s4, (ra.mono e3).mono e4, by omega, h4⟩
    · exact hf.elim
  · have e : i = ds.length := by omega
    subst e
    rw [List.drop_length] at hf
    obtain ⟨hw, hf⟩ := hf
    obtain ⟨stop, go⟩ := hJ g2 cs2 H2 sb s2 hw
    refine .inl ⟨stop _ (Nat.le_refl _), ?_⟩
    obtain ⟨q1, q2, q3⟩ := s2.rs (Dd, .lst vacc) (by rw [er]; exact List.mem_cons_self)
    have sb3 : Sub g2 { g2 with as := g2.as ++ [Dd], rs := g1.rs } := ⟨fun a o h => h, ⟨[Dd], rfl⟩⟩
    have s3 := s2.uncel (c := .lst acc) er ⟨vacc, q1, ra.sub' sb3, q2⟩
    have e3 : Ext g1 { g2 with as := g2.as ++ [Dd], rs := g1.rs } := by
      refine ⟨fun a o h => sb.z a o h, ?_, rfl⟩
      obtain ⟨t, q⟩ := sb.a
      exact ⟨t ++ [Dd], by show g2.as ++ [Dd] = _; rw [q, List.append_assoc]⟩
    have hf' : upV K g Q (.cell cs2.length) (cs2 ++ [.lst acc]) := hf
    exact hf' _ H2 _ (e1.trans e3) s3 ⟨Dd, rfl, by
      show (g2.as ++ [Dd])[cs2.length]? = some Dd
      rw [← s2.len]
      simp⟩

section
variable {X : Cx}
theorem de_lcC {elt tg iter : Expr} {ifs : List Expr} {scope : Scope} {own : List (Str × Nat)} {wi : WI} {p : Pat} {tt : WT} {we : WE} {pos : Pos} (hc : X.calm = true) (hN : X.N.Nodup) (hi : DI X tg iter wi) (ok : BlkOk X.N X.env.scope scope own)
    (hg : ∀ (s : Shared) (H : Hp) (C : Addr) (cl : List (Str × Addr)) (fp : List Addr), DG (X.blk s H scope (compEnvC scope cl C X.env) fp) tg p) (ht : ∀ (s : Shared) (H : Hp) (C : Addr) (cl : List (Str × Addr)) (fp : List Addr), DTs (X.blk s H scope (compEnvC scope cl C X.env) fp) ifs tt)
    (he : ∀ (s : Shared) (H : Hp) (C : Addr) (cl : List (Str × Addr)) (fp : List Addr), DE (X.blk s H scope (compEnvC scope cl C X.env) fp) elt we) (hs : ∀ x, foldedSetIterable iter X.env x = pure x := by intro _; rfl) (hsl : ∀ i ∈ slots p, i ∈ own.map (·.2) := by decide) :
    DE X (.ListComp elt [⟨tg, iter, ifs, 0⟩] scope pos) (wLcC wi p tt we (own.map (·.2))) := by
  have mt : MonoT tt := (ht {} (fun _ => none) 0 [] []).mo
  have me : MonoE we := (he {} (fun _ => none) 0 [] []).mo
  exact ⟨PE.imp (pe_lc (wi := lowI X.K wi) (g := gOf X.K p) (tt := lowT X.K tt) (te := lowE X.K we) hc hN hi.pe ok (fun s H C cl fp => (hg s H C cl fp).pg) (fun s H C cl fp => (ht s H C cl fp).pe) (fun s H C cl fp => (he s H C cl fp).pe) hs) fun σ H Q h => low_lcC hi.mo mt me hsl h, wLcC.mo hi.mo mt me⟩
theorem ds_setLcC {i : Nat} {y : Str} {py : Pos} {spos pos : Pos} {elt tg iter : Expr} {ifs : List Expr} {scope : Scope} {own : List (Str × Nat)} {wi : WI} {p : Pat} {tt : WT} {we : WE} (hc : X.calm = true) (hN : X.N.Nodup)
    (hsw : swapsWith (.ListComp elt [⟨tg, iter, ifs, 0⟩] scope pos) (some (.Name y py)) spos.line X.env = pure true) (hi : DI X tg iter wi) (ok : BlkOk X.N X.env.scope scope own)
    (hg : ∀ (s : Shared) (H : Hp) (C : Addr) (cl : List (Str × Addr)) (fp : List Addr), DG (X.blk s H scope (compEnvC scope cl C X.env) fp) tg p) (ht : ∀ (s : Shared) (H : Hp) (C : Addr) (cl : List (Str × Addr)) (fp : List Addr), DTs (X.blk s H scope (compEnvC scope cl C X.env) fp) ifs tt)
    (he : ∀ (s : Shared) (H : Hp) (C : Addr) (cl : List (Str × Addr)) (fp : List Addr), DE (X.blk s H scope (compEnvC scope cl C X.env) fp) elt we) (hy : X.N[i]? = some y := by rfl) (hyl : X.env.scope.names.lookup y = some .local := by rfl) (hs : ∀ x, foldedSetIterable iter X.env x = pure x := by intro _; rfl) (hsl : ∀ i ∈ slots p, i ∈ own.map (·.2) := by decide) :
    DS X (.Assign [.Name y py] (.ListComp elt [⟨tg, iter, ifs, 0⟩] scope pos) spos) (wSet i (wLcC wi p tt we (own.map (·.2)))) := by
  have mt : MonoT tt := (ht {} (fun _ => none) 0 [] []).mo
  have me : MonoE we := (he {} (fun _ => none) 0 [] []).mo
  refine ⟨PS.imp (ps_setLc (wi := lowI X.K wi) (g := gOf X.K p) (tt := lowT X.K tt) (te := lowE X.K we) hc hN hy hyl hsw hi.pe ok (fun s H C cl fp => (hg s H C cl fp).pg) (fun s H C cl fp => (ht s H C cl fp).pe) (fun s H C cl fp => (he s H C cl fp).pe) hs) fun D σ H h => ?_, wSet.mo (wLcC.mo hi.mo mt me)⟩
  obtain ⟨g, cs, env, s, l, h⟩ := h
  refine low_lcC hi.mo mt me hsl ⟨g, cs, env, s, l, wLcC.mo hi.mo mt me _ _ _ _ (fun d cs1 q => ?_) h⟩
  exact fun g1 H1 v e1 s1 r1 => q g1 H1 _ e1 s1 ((l.mono e1).set r1)
/-! ### insert -/
def insS (cs : Sto) (d : D) (ds : List D) : Option (Prop × Sto) := match d, ds with
  | .cell n, [.int i, y] => (lstAt cs n).map fun xs => (xs.length < sizeLine ∧ 0 ≤ i ∧ i < 2 ^ 63, cs.set n (.lst (xs.take i.toNat ++ [y] ++ xs.drop i.toNat)))
  | _, _ => none
def oIns : OM := fun d ds cs Q => bindP (insS cs d ds) fun p => p.1 ∧ Q .non p.2
theorem md_insert : MtD X "list.insert" oIns := .mk' (fun d ds cs Q Q' h q => bindP_mo (fun p q => ⟨q.1, h _ _ q.2⟩) q) fun pins s σ H x xs v us Q g cs d ds I rx r sr r1 r2 q => by
  unfold oIns at q
  cases ea : insS cs d ds with
  | none => rw [ea] at q; exact q.elim
  | some p =>
    rw [ea] at q
    obtain ⟨hz, q⟩ := q
    unfold insS at ea
    split at ea
    · rename_i n i y
      cases el : lstAt cs n with
      | none => rw [el] at ea; cases ea
      | some ys =>
        rw [el] at ea
        cases ea
        obtain ⟨a, e1, h1⟩ := r1
        subst e1
        obtain ⟨vs, q1, q2, q3⟩ := sr.ok n a _ h1 (lstAt_some el)
        obtain ⟨u, ur, e2, h2, u2, ur2, e3, h3, h4⟩ := r2
        have h4' : ur2 = [] := h4
        subst e2 e3 h4'
        cases h2
        exact mt_insert pins s σ H _ _ v us Q I rx r ⟨a, vs, i, u2, rfl, rfl, q1, by rw [← q2.length]; exact hz.1, hz.2.1, hz.2.2, q g _ _ (Ext.refl g) (sr.put h1 (lstAt_some el) (by simp) ⟨_, upd_same, ((q2.take i.toNat).append (.cons h3 .nil)).append (q2.drop i.toNat), q3⟩) rfl⟩
    · cases ea
theorem oIns_eq (d : D) (ds : List D) {cs : Sto} {Q : PD} : oIns d ds cs Q = bindP (insS cs d ds) fun p => p.1 ∧ Q .non p.2 := (rfl)
theorem insS_cell (n : Nat) (i : Int) (y : D) {cs : Sto} : insS cs (.cell n) [.int i, y] = (lstAt cs n).map fun xs => (xs.length < sizeLine ∧ 0 ≤ i ∧ i < 2 ^ 63, cs.set n (.lst (xs.take i.toNat ++ [y] ++ xs.drop i.toNat))) := (rfl)
end
end DL

/-! DStar: stars in displays; a tuple or a list backwards. -/
namespace DL
open PySem PySem.Spec PyProof.Rows L2
variable [Tbs]
/-! ### stars in displays -/
def wStar (we : WE) (w : WA) : WA := fun env cs Q => we env cs fun d cs1 => bindP (seqOf cs1 d) fun xs => w env cs1 fun ys cs2 => Q (xs ++ ys) cs2
section
variable {X : Cx}
theorem da_star {a : Expr} {es : List Expr} {wa : WE} {wr : WA} {p : Pos} (ha : DE X a wa) (hr : DA X es wr) (hs : starEach (.Starred a p :: es) X.env = (true, eval a X.env) :: starEach es X.env := by rfl) : DA X (.Starred a p :: es) (wStar wa wr) :=
  ⟨PA.imp (StX.pa_star ha.pe hr.pe hs) fun σ H Q ⟨g, cs, env, s, l, h⟩ => lowE.go ha.mo s l h fun d1 cs1 g1 H1 v1 h1 e1 s1 r1 => by
      cases e : seqOf cs1 d1 with
      | none => rw [e] at h1; exact h1.elim
      | some xs =>
        rw [e] at h1
        simp only [bindP_some] at h1
        obtain ⟨b, vs, eb, hb, rl⟩ := seq_of s1 e r1
        exact ⟨b, vs, eb, hb.symm, lowA.go hr.mo s1 (l.mono e1) h1 fun ds cs2 g2 H2 ws h2 e2 s2 r2 => h2 g2 H2 _ (e1.trans e2) s2 ((rl.mono e2).append r2)⟩,
    fun env cs Q Q' h q => ha.mo env cs _ _ (fun d1 cs1 q1 => bindP_mo (fun xs q2 => hr.mo env cs1 _ _ (fun _ _ q3 => h _ _ q3) q2) q1) q⟩
end
theorem wStar_eq (we : WE) (w : WA) {env : En} {cs : Sto} {Q : List D → Sto → Prop} : wStar we w env cs Q = we env cs fun d cs1 => bindP (seqOf cs1 d) fun xs => w env cs1 fun ys cs2 => Q (xs ++ ys) cs2 := (rfl)
/-! ### backwards -/
section
variable {prog : Program} {w : World} {A : Around} {E : Value → Shared → Prop} {s : Shared}
theorem adjust_rev (n : Nat) : Builtin.Slice.sliceAdjust none none (-1) (n : Int) = ((n : Int) - 1, -1) := by
  unfold Builtin.Slice.sliceAdjust
  simp
theorem places_rev (n : Nat) : Builtin.Slice.slicePlaces ((n : Int) - 1) (-1) (-1) = n := by
  unfold Builtin.Slice.slicePlaces
  have h1 : ¬ ((-1 : Int) > 0) := by omega
  have e : (- -1 : Int) = 1 := by decide
  simp only [h1, if_false, e, Int.ediv_one]
  split <;> omega
theorem sliceApplied_rev {sl : Addr} {vl vu vs : Value} {n : Nat} {Q : Int × Int × Nat → Shared → Prop} (hs : s.heap.IsSliceOf sl vl vu vs) (pl : IsPart vl none) (pu : IsPart vu none) (ps : IsPart vs (some (-1)))
    (h : Q ((n : Int) - 1, -1, n) s) : wpAny (model prog w) A (Builtin.Slice.sliceApplied (.ref sl) (pure (n : Int))) Q E s := by
  obtain ⟨os, hos, hcs, hds⟩ := id hs
  unfold Builtin.Slice.sliceApplied Builtin.Slice.sliceFields
  refine wpAny_bind (wpAny_bind (wpAny_field hos hds (x := vl) rfl (wpAny_bind (wpAny_field hos hds (x := vu) rfl (wpAny_bind (wpAny_field hos hds (x := vs) rfl (wpAny_pure ?_)))))))
  refine wpAny_bind (HT.slicePart_ ps ?_)
  show wpAny _ _ (if ((-1 : Int) == 0) = true then _ else _) _ _ s
  rw [if_neg (by decide)]
  refine wpAny_bind (HT.slicePart_ pl (wpAny_bind (HT.slicePart_ pu (wpAny_bind (wpAny_pure ?_)))))
  show wpAny _ _ (match Builtin.Slice.sliceAdjust none none (-1) (n : Int) with | (lo, hi) => pure (lo, (-1 : Int), Builtin.Slice.slicePlaces lo hi (-1))) _ _ s
  rw [adjust_rev n]
  show wpAny _ _ (pure ((n : Int) - 1, (-1 : Int), Builtin.Slice.slicePlaces ((n : Int) - 1) (-1) (-1))) _ _ s
  rw [places_rev]
  exact wpAny_pure h
theorem pick_rev (xs : Array Value) : ((List.range xs.size).filterMap fun (m : Nat) => xs[(((xs.size : Int) - 1) + (m : Int) * (-1)).toNat]?).toArray = xs.toList.reverse.toArray := by
  have e : ((List.range xs.size).filterMap fun (m : Nat) => xs[(((xs.size : Int) - 1) + (m : Int) * (-1)).toNat]?) = ((List.range xs.size).map fun k => xs.size - 1 - k).filterMap (xs[·]?) := by
    rw [List.filterMap_map]
    have go : ∀ l : List Nat, (∀ m ∈ l, m < xs.size) → (l.filterMap fun (m : Nat) => xs[(((xs.size : Int) - 1) + (m : Int) * (-1)).toNat]?) = l.filterMap ((xs[·]?) ∘ fun k => xs.size - 1 - k) := by
      intro l
      induction l with
      | nil => intro _; rfl
      | cons m l ih =>
        intro h
        have hm' := h m List.mem_cons_self
        have : (((xs.size : Int) - 1) + (m : Int) * (-1)).toNat = xs.size - 1 - m := by omega
        rw [List.filterMap_cons, List.filterMap_cons, ih fun y hy => h y (List.mem_cons_of_mem _ hy), this]
        rfl
    exact go _ fun m hm => List.mem_range.mp hm
  rw [e, PySem.W.krv_range, List.filterMap_reverse, PySem.W.krv_all]
theorem getItem_tuple_rev {t sl : Addr} {items : Array Value} {vl vu vs : Value} {Q : Value → Shared → Prop} (ht : IsTup s.heap t items) (hs : s.heap.IsSliceOf sl vl vu vs) (pl : IsPart vl none) (pu : IsPart vu none) (ps : IsPart vs (some (-1)))
    (h : Q (.ref s.heap.objs.size) { s with heap := s.heap.push { cls := .type "tuple", data := .seq items.toList.reverse.toArray } })
    (hsz : items.size ≤ sizeLine) : wpAny (model prog w) A (getItem (.ref t) (.ref sl)) Q E s := by
  have htake : sizeOk (.seq items.toList.reverse.toArray) := by
    show items.toList.reverse.toArray.size ≤ sizeLine
    rw [List.size_toArray, List.length_reverse, Array.length_toList]
    exact hsz
  obtain ⟨os, hos, hcs, hds⟩ := id hs
  have hTs : s.TypeIs (.ref sl) "slice" := ⟨os, hos, hcs⟩
  unfold getItem
  try with_reducible refine wpAny_holding ?_
  first | refine wpAny_bind (wpAny_pure ?_) | skip
  refine wpAny_bind (wpAny_sequenceKey ht.typeIs (by decide) ?_)
  refine wpAny_bind (wpAny_callSpecial?_slot (name := Str.ofString "__getitem__") ht.typeIs PyProof.Rows.slot_tuple_getitem
    (wpAny_call_entry PyProof.Rows.slot_tuple_getitem ht.typeIs PyProof.Rows.entry_tuple_getitem ?_ (PyProof.Rows.args_tuple_getitem _ _)))
  show wpAny _ _ (Builtin.Tuple.tupleItemsOf (.ref t) >>= _) _ _ s
  refine wpAny_bind (PyProof.Rows.tupleItemsOf_ ht ?_)
  refine wpAny_bind (wpAny_typeOf hTs ?_)
  rw [if_pos (by decide)]
  refine wpAny_bind (sliceApplied_rev hs pl pu ps ?_)
  have hno : ¬ ((((items.size : Int) - 1) == 0 && (-1 : Int) == 1 && items.size == items.size) = true) := by
    intro q
    rw [Bool.and_eq_true, Bool.and_eq_true] at q
    exact absurd q.1.2 (by decide)
  show wpAny _ _ (if ((((items.size : Int) - 1) == 0 && (-1 : Int) == 1 && items.size == items.size) = true) then _ else _) _ _ s
  rw [if_neg hno, pick_rev]
  first
    | exact wpAny_bind (m := Builtin.Tuple.tupleExact _) (wpAny_newObj_type (wpAny_pure ⟨_, rfl, wpAny_pure h⟩) htake)
    | exact wpAny_bind (m := Builtin.Tuple.tupleExact _) (wpAny_newObj_type (wpAny_bind (wpAny_pure (wpAny_pure ⟨_, rfl, wpAny_pure h⟩))) htake)
    | exact wpAny_bind (wpAny_bind (m := Builtin.Tuple.tupleExact _) (wpAny_newObj_type (wpAny_pure (wpAny_pure ⟨_, rfl, wpAny_pure h⟩)) htake))
    | exact wpAny_bind (wpAny_bind (m := Builtin.Tuple.tupleExact _) (wpAny_newObj_type (wpAny_pure ⟨_, rfl, wpAny_pure h⟩) htake))
end
section
variable {X : Cx}
def tRevT (K : PySem.W.Frag) (te : TE) : TE := fun σ H Q => te σ H fun x H1 => ∃ a xs, x = .ref a ∧ SqT K H1 a xs ∧ ∀ p, H1 p = none → Q (.ref p) (upd H1 p (.tup xs.reverse))
theorem pe_revT {e : Expr} {te : TE} {k : Nat} {p1 p2 p3 pos : Pos} (he : PE X e te) : PE X (.Subscript e (.Slice none none (some (.UnaryOp .USub (.Constant (.int 1) k p1) p2)) p3) pos) (tRevT X.K te) := by
  refine ⟨fun pins s σ H Q I h => ?_⟩
  refine Subscript_ (thn (he.run pins s σ H _ I h) fun v s1 ⟨x, H1, I1, r1, q1⟩ => ?_)
  obtain ⟨a, xs, ex, hx, q⟩ := q1
  subst ex
  cases r1
  have hst : PO X (some (.UnaryOp .USub (.Constant (.int 1) k p1) p2)) (tPart (tUn (rU fun i => .int (-i)) (tC (.int 1)))) := po_some (pe_un un_neg pe_int)
  refine wpAny_Slice (thn (po_none.run pins s1 σ H1 (fun o H2 => o = none ∧ H2 = H1) I1 ⟨rfl, rfl⟩) fun vl s2 ⟨l, H2, I2, pl, el, e2⟩ => ?_)
  subst el e2
  refine thn (po_none.run pins s2 σ H2 (fun o H3 => o = none ∧ H3 = H2) I2 ⟨rfl, rfl⟩) fun vu s3 ⟨u, H3, I3, pu, eu, e3⟩ => ?_
  subst eu e3
  refine thn (hst.run pins s3 σ H3 (fun o H4 => o = some (-1) ∧ H4 = H3) I3 ⟨1, rfl, -1, rfl, rfl, rfl⟩) fun vs s4 ⟨o, H4, I4, ps, eo, e4⟩ => ?_
  subst eo e4
  have I5 : Inv X pins σ H4 { s4 with heap := s4.heap.push { cls := .type "slice", data := .fields #[vl, vu, vs] } } := I4.kept (t' := s4.toks) fun b ob q => Heap.get?_push_of_some _ q
  obtain ⟨its, r, ht, hz⟩ := I5.tuple hx
  have hlen := r.length
  show wpAny (model X.prog X.w) X.A (subscriptTail e (.Slice none none (some (.UnaryOp .USub (.Constant (.int 1) k p1) p2)) p3) (.ref a) (.ref s4.heap.objs.size)) (EP X pins σ Q) X.xe { s4 with heap := s4.heap.push { cls := .type "slice", data := .fields #[vl, vu, vs] } }
  refine tail_any (ops := [.ref a, .ref s4.heap.objs.size]) ht.typeIs (PyProof.Rows.slot_tuple_getitem.lookup) ?_ (by with_unfolding_all rfl)
  refine getItem_tuple_rev ht (Heap.IsSliceOf.new _ vl vu vs) pl pu ps ?_ (by rw [List.size_toArray]; omega)
  refine ⟨.ref _, _, I5.laid (t' := s4.toks) (o := .tup xs.reverse) (fun b ob q => Heap.get?_push_of_some _ q) (Nat.le_refl _) ?_, rfl, q _ (I5.hok.fresh (Nat.le_refl _))⟩
  exact ⟨by rw [List.length_reverse]; exact hz, _, r.reverse, IsTup.new _ _⟩
/-- t[::-1], t a tuple -/
def revT : D → Option (List D)
  | .tup ds => some ds
  | _ => none
def wRevT (we : WE) : WE := fun env cs Q => we env cs fun d cs1 => bindP (revT d) fun ds => Q (.tup ds.reverse) cs1
theorem RepL.rev {K : PySem.W.Frag} {g : G} : ∀ {ds : List D} {vs : List V}, RepL K g ds vs → RepL K g ds.reverse vs.reverse
  | [], vs, r => by
    have r' : vs = [] := r
    subst r'
    exact rfl
  | d :: ds, vs, r => by
    obtain ⟨v, r', e1, h1, h2⟩ := r
    subst e1
    rw [List.reverse_cons, List.reverse_cons]
    exact (RepL.rev h2).append (.cons h1 .nil)
theorem de_revT {e : Expr} {we : WE} {k : Nat} {p1 p2 p3 pos : Pos} (he : DE X e we) : DE X (.Subscript e (.Slice none none (some (.UnaryOp .USub (.Constant (.int 1) k p1) p2)) p3) pos) (wRevT we) :=
  ⟨PE.imp (pe_revT he.pe) fun σ H Q ⟨g, cs, env, s, l, h⟩ => lowE.go he.mo s l h fun d cs1 g1 H1 v1 h1 e1 s1 r1 => by
      cases d with
      | tup ds =>
        have h1' : upV X.K g Q (.tup ds.reverse) cs1 := h1
        obtain ⟨p, vs, ev, hv, rl⟩ := r1
        subst ev
        exact ⟨p, vs, rfl, sqT_mono s1.le hv, new_tup s1 (RepL.rev rl) (upV.mono e1 h1')⟩
      | _ => exact h1.elim,
    fun env cs Q Q' h q => he.mo env cs _ _ (fun d cs1 q1 => bindP_mo (fun ds q2 => h _ _ q2) q1) q⟩
theorem wRevT_eq (we : WE) {env : En} {cs : Sto} {Q : PD} : wRevT we env cs Q = we env cs fun d cs1 => bindP (revT d) fun ds => Q (.tup ds.reverse) cs1 := (rfl)
theorem revT_tup (ds : List D) : revT (.tup ds) = some ds := (rfl)
end
/-! ### << of wide ints -/
theorem opd_shlW {X : Cx} : OpD X (binaryOp .LShift) (oI CShl fun i j => .int (i * 2 ^ j.toNat)) := opd_int (fun _ _ _ => rfl) op_shlW
end DL

/-! DSort: sorted of ints and of pairs of ints, in a list or a tuple. -/
namespace SrtO
open PySem PyProof.Rows Srt
section
variable {prog : Program} {w : World} {A : Around} {E : Value → Shared → Prop} {s : Shared}
theorem sorted_seq {l : Addr} {T : String} {o : Obj} {vs : List Value} {n : Nat} {ltv : Value → Value → Bool} {Q : Value → Shared → Prop} (O : Swo ltv) (hT : T = "list" ∨ T = "tuple") (ho : s.heap.get? l = some o) (hc : o.cls = .type T) (hd : o.data = .seq vs.toArray n) (hz : vs.length ≤ sizeLine)
    (hS : 2 ≤ vs.length → ∀ (h₁ : Heap) (a : Addr), h₁.get? a = some (seqObj "list" vs.toArray 0) → (∀ b o, s.heap.get? b = some o → h₁.get? b = some o) → SortableO prog w A.in1.in1 { s with heap := h₁ } a vs ltv)
    (h : ∀ (h' : Heap) (d : Addr) (out : List Value), Srtd ltv out → Stb ltv out vs → (∀ b o, s.heap.get? b = some o → h'.get? b = some o) → s.heap.get? d = none → (∃ n, h'.get? d = some (seqObj "list" out.toArray n)) → Q (.ref d) { s with heap := h' }) :
    wpAny (model prog w) A (call (.builtin "sorted") [.ref l]) Q E s := by
  refine Calls.call_function_entry kind_sorted plain_sorted entry_sorted (args_sorted1 _) ?_
  unfold Builtin.«sorted»
  refine wpAny_bind (m := checkCount "sorted" 1 1 _) (wpAny_pure ?_)
  refine wpAny_bind (wpAny_collect_seq l hT ho hc hd (fun h1 hk => ?_) (by rw [List.size_toArray]; exact hz))
  have e0 : vs.toArray.toList = vs := by simp
  rw [e0]
  refine wpAny_bind (wpAny_newList ?_ hz)
  have hoL : (h1.push (seqObj "list" vs.toArray 0)).get? h1.objs.size = some (seqObj "list" vs.toArray 0) := Heap.get?_push_size _ rfl
  have hle : s.heap.get? h1.objs.size = none := by
    cases e : s.heap.get? h1.objs.size with
    | none => rfl
    | some o' => exact absurd (Heap.lt_size (hk _ _ e)) (Nat.lt_irrefl _)
  have kp : ∀ b o, s.heap.get? b = some o → (h1.push (seqObj "list" vs.toArray 0)).get? b = some o := fun b o q => Heap.get?_push_of_some _ (hk b o q)
  show wpAny _ _ _ _ _ { s with heap := h1.push (seqObj "list" vs.toArray 0) }
  refine wpAny_bind (wpAny_holding (wpAny_call_entry slot_list_sort ⟨_, hoL, rfl⟩ entry_list_sort (list_sort_ord O hoL hz (fun h2 => hS h2 _ _ hoL kp) fun out hs hb => ⟨_, rfl, ?_⟩) (args_list_sort _)))
  refine wpAny_pure ⟨_, rfl, h _ _ out hs hb (fun b o q => ?_) hle (sortedHeap_at hoL)⟩
  have hlt : b < h1.objs.size := Heap.lt_size (hk b o q)
  show (sortedHeap (h1.push (seqObj "list" vs.toArray 0)) h1.objs.size vs out.toArray).get? b = some o
  rw [sortedHeap_old (Nat.ne_of_lt hlt) (by rw [size_push']; exact Nat.lt_succ_of_lt hlt)]
  exact kp b o q
end
end SrtO

namespace L2
open PySem PySem.Spec PyProof.Rows
def rSrt (K : PySem.W.Frag) : List V → Hp → VK → Prop := fun vs H Q => ∃ (a : Addr) (xs : List V), vs = [V.ref a] ∧ (SqL K H a xs ∨ SqT K H a xs) ∧
  ((∃ ns : List Int, xs = ns.map V.int ∧ ∀ (ns' : List Int) (p : Addr), ns'.Perm ns → ns'.Pairwise (· ≤ ·) → H p = none → Q (.ref p) (upd H p (.lst (ns'.map V.int)))) ∨
   (∃ k : V → Int × Int, (∀ x ∈ xs, ∃ t, x = V.ref t ∧ SqT K H t [.int (k x).1, .int (k x).2]) ∧ ∀ (ys : List V) (p : Addr), SrtO.Srtd (ltP k) ys → ys.Perm xs → H p = none → Q (.ref p) (upd H p (.lst ys))))
section
variable {X : Cx}
theorem cr_srt : CallR X (.builtin "sorted") (rSrt X.K) := by
  intro pins s σ H vs us Q I r h
  obtain ⟨a, xs, rfl, hs, q⟩ := h
  rw [Vals.ref1 r]
  obtain ⟨T, o, n, its, hT, rv, ho, hc, hd, hz⟩ : ∃ (T : String) (o : Obj) (n : Nat) (its : List Value), (T = "list" ∨ T = "tuple") ∧ Vals xs its ∧ s.heap.get? a = some o ∧ o.cls = .type T ∧ o.data = .seq its.toArray n ∧ xs.length ≤ sizeLine := by
    rcases hs with hs | hs
    · obtain ⟨its, rv, ⟨o, n, ho, hc, _, hd⟩, hz⟩ := I.list hs
      exact ⟨"list", o, n, its, .inl rfl, rv, ho, hc, hd, hz⟩
    · obtain ⟨its, rv, ⟨o, ho, hc, n, hd⟩, hz⟩ := I.tuple hs
      exact ⟨"tuple", o, n, its, .inr rfl, rv, ho, hc, hd, hz⟩
  have hl : its.length = xs.length := rv.length.symm
  rcases q with ⟨ns, rfl, q⟩ | ⟨k, hx, q⟩
  · have hi := rv.ints
    refine SrtO.sorted_seq SrtO.swo_int hT ho hc hd (by rw [hl]; exact hz) (fun h2 h₁ a' _ _ => SrtO.ints_sortable hi h2) fun h' d out h1 h2 kp hn hd' => ?_
    obtain ⟨k1, k2, k3⟩ := SrtO.ints_out hi h1 h2
    obtain ⟨ep, he'⟩ := hd'
    have hg := I.hok.gone hn
    have hlen : ((out.map SrtO.iv).map V.int).length ≤ sizeLine := by
      rw [List.length_map, k2.length_eq]
      rw [List.length_map] at hz
      exact hz
    exact ⟨.ref d, upd H d (.lst ((out.map SrtO.iv).map V.int)), I.laidN (t' := s.toks) kp hn hg ⟨hlen, out, ep, vals_of_ints k1, he'⟩, rfl, q _ d k2 k3 hg⟩
  · obtain ⟨e1, e2⟩ := refs_back rv fun x m => by
      obtain ⟨t, e, _⟩ := hx x m
      exact ⟨t, e⟩
    have hp : ∀ v ∈ its, Srt.IsPair s.heap v (k (backV v)).1 (k (backV v)).2 := fun v hv => by
      obtain ⟨t, rfl⟩ := e2 v hv
      have hm : V.ref t ∈ xs := by rw [e1]; exact List.mem_map.mpr ⟨_, hv, rfl⟩
      obtain ⟨t', e, ht⟩ := hx _ hm
      cases e
      obtain ⟨its2, r2, ⟨o, ho, hc, n, hd⟩, _⟩ := I.tuple ht
      obtain ⟨u1, u2, rfl, ri, rj⟩ := vals2 r2
      obtain ⟨t1, rfl⟩ := ri
      obtain ⟨t2, rfl⟩ := rj
      exact ⟨t, o, t1, t2, n, rfl, ho, hc, hd⟩
    refine SrtO.sorted_seq (SrtO.swo_lex fun u => k (backV u)) hT ho hc hd (by rw [hl]; exact hz) (fun h2 h₁ a' ha kk => ?_) fun h' d out h1 h2 kp hn hd' => ?_
    · refine SrtO.pairs_sortableO (s := { s with heap := h₁ }) (by omega) (fun v hm => (hp v hm).keeps fun b o e _ => kk b o e) fun o e => ?_
      have e' : some o = some (seqObj "list" its.toArray 0) := e.symm.trans ha
      cases e'
      intro c
      exact absurd (Value.type.inj c) (by decide)
    · have h3 : ∀ u ∈ out, ∃ a, u = Value.ref a := fun u hu => e2 u (h2.perm.mem_iff.mp hu)
      obtain ⟨n, hn'⟩ := hd'
      have hg := I.hok.gone hn
      have hb : (out.map backV).Perm xs := by
        rw [e1]
        exact h2.perm.map backV
      refine ⟨.ref d, upd H d (.lst (out.map backV)), I.laidN (t' := s.toks) kp hn hg ⟨?_, out, n, vals_back h3, hn'⟩, rfl, q _ d (SrtO.srtd_map h1) hb hg⟩
      rw [hb.length_eq]
      exact hz
end
end L2
namespace DL
open PySem PySem.Spec PyProof.Rows L2
variable [Tbs]
def prD (p : Int × Int) : D := .tup [.int p.1, .int p.2]
def prs : List D → Option (List (Int × Int))
  | [] => some []
  | .tup [.int i, .int j] :: ds => (prs ds).map ((i, j) :: ·)
  | _ => none
/-- not behind -/
def leP (p q : Int × Int) : Prop := SrtO.lexB q p = false
def oSorted : O1 := fun d cs Q => bindP (seqOf cs d) fun ds => match nums ds with
  | some ns => ∀ ns' : List Int, ns'.Perm ns → ns'.Pairwise (· ≤ ·) → Q (.lst (ns'.map .int)) cs
  | none => match prs ds with
    | some ps => ∀ ps' : List (Int × Int), ps'.Perm ps → ps'.Pairwise leP → Q (.lst (ps'.map prD)) cs
    | none => False
section
variable {K : PySem.W.Frag} {g : G} {cs : Sto} {H : Hp}
theorem prs_some : ∀ {ds : List D} {ps : List (Int × Int)}, prs ds = some ps → ds = ps.map prD
  | [], ps, h => by cases h; rfl
  | d :: ds, ps, h => by
    unfold prs at h
    split at h
    · rename_i e
      cases e
    · rename_i i j ds' e
      cases e
      obtain ⟨qs, e, rfl⟩ := Option.map_eq_some_iff.mp h
      rw [prs_some e]
      rfl
    · cases h
end
section
variable {X : Cx} {pins : List (Addr × Obj)} {s : Shared} {σ : L2.St} {H : Hp} {g : G} {cs : Sto}
theorem sqt_uniq (I : Inv X pins σ H s) {t : Addr} {i j i' j' : Int} (h : SqT X.K H t [.int i, .int j]) (h' : SqT X.K H t [.int i', .int j']) : i = i' ∧ j = j' := by
  obtain ⟨its, r, ⟨o, ho, hc, n, hd⟩, _⟩ := I.tuple h
  obtain ⟨its', r', ⟨o', ho', hc', n', hd'⟩, _⟩ := I.tuple h'
  rw [ho] at ho'
  cases ho'
  rw [hd] at hd'
  obtain ⟨u1, u2, rfl, ⟨t1, rfl⟩, ⟨t2, rfl⟩⟩ := vals2 r
  obtain ⟨u1', u2', rfl, ⟨t1', rfl⟩, ⟨t2', rfl⟩⟩ := vals2 r'
  injection hd' with hd'
  simp at hd'
  exact ⟨hd'.1.1, hd'.2.1⟩
/-- the two ints at a pair -/
noncomputable def kf (K : PySem.W.Frag) (H : Hp) (v : V) : Int × Int :=
  open Classical in if h : ∃ (t : Addr) (p : Int × Int), v = .ref t ∧ SqT K H t [.int p.1, .int p.2] then Classical.choose (Classical.choose_spec h) else (0, 0)
theorem kf_eq (I : Inv X pins σ H s) {t : Addr} {p : Int × Int} (h : SqT X.K H t [.int p.1, .int p.2]) : kf X.K H (.ref t) = p := by
  have hx : ∃ (t' : Addr) (p' : Int × Int), V.ref t = .ref t' ∧ SqT X.K H t' [.int p'.1, .int p'.2] := ⟨t, p, rfl, h⟩
  unfold kf
  rw [dif_pos hx]
  have sp := Classical.choose_spec (Classical.choose_spec hx)
  generalize Classical.choose (Classical.choose_spec hx) = q at sp ⊢
  generalize Classical.choose hx = t' at sp
  obtain ⟨e, h'⟩ := sp
  cases e
  obtain ⟨a, b⟩ := sqt_uniq I h' h
  exact Prod.ext a b
theorem kf_list (I : Inv X pins σ H s) (sr : Sr X.K g cs H) : ∀ {ps : List (Int × Int)} {vs : List V}, RepL X.K g (ps.map prD) vs → vs.map (kf X.K H) = ps ∧ ∀ x ∈ vs, (∃ t, x = V.ref t ∧ SqT X.K H t [.int (kf X.K H x).1, .int (kf X.K H x).2]) ∧ Rep X.K g (prD (kf X.K H x)) x
  | [], vs, r => by
    have r' : vs = [] := r
    subst r'
    exact ⟨rfl, fun x hx => by cases hx⟩
  | p :: ps, vs, r => by
    obtain ⟨v, vr, e1, h1, h2⟩ := r
    subst e1
    obtain ⟨i1, i2⟩ := kf_list I sr h2
    have h1c := h1
    obtain ⟨t, ws, ev, hv, rl⟩ := h1
    subst ev
    obtain ⟨u, ur, eu, ru, w, wr, ew, rw', en⟩ := rl
    have en' : wr = [] := en
    subst eu ew en'
    cases ru
    cases rw'
    have hs : SqT X.K H t [.int p.1, .int p.2] := sqT_mono sr.le hv
    have ek := kf_eq I hs
    refine ⟨by rw [List.map_cons, i1, ek], fun x hx => ?_⟩
    rcases List.mem_cons.mp hx with rfl | hx
    · rw [ek]
      exact ⟨⟨t, rfl, hs⟩, h1c⟩
    · exact i2 x hx
theorem repL_kf : ∀ {ys : List V}, (∀ y ∈ ys, Rep X.K g (prD (kf X.K H y)) y) → RepL X.K g ((ys.map (kf X.K H)).map prD) ys
  | [], _ => rfl
  | y :: ys, h => ⟨y, ys, rfl, h y List.mem_cons_self, repL_kf fun z hz => h z (List.mem_cons_of_mem _ hz)⟩
theorem cd_sorted : CallD X (.builtin "sorted") (o1 oSorted) := cd1 (fun d cs Q Q' h q => bindP_mo (fun ds q => by
    split at q
    · exact fun ns' a b => h _ _ (q ns' a b)
    · split at q
      · exact fun ns' a b => h _ _ (q ns' a b)
      · exact q) q) fun pins s σ H x u Q g cs d I ru rv sr r q => by
  unfold oSorted at q
  cases e : seqOf cs d with
  | none => rw [e] at q; exact q.elim
  | some ds =>
    rw [e] at q
    simp only [bindP_some] at q
    obtain ⟨a, vs, e1, h1, h2⟩ := seq_of sr e r
    subst e1
    cases en : nums ds with
    | some ns =>
      rw [en] at q
      exact cr_srt pins s σ H _ _ Q I rv ⟨a, vs, rfl, h1, .inl ⟨ns, nums_rep h2 en, fun ns' p pm pw hp => new_lst sr (RepL.of_ints ns') (q ns' pm pw) p hp⟩⟩
    | none =>
      rw [en] at q
      cases ep : prs ds with
      | none => rw [ep] at q; exact q.elim
      | some ps =>
        rw [ep] at q
        rw [prs_some ep] at h2
        obtain ⟨k1, k2⟩ := kf_list I sr h2
        refine cr_srt pins s σ H _ _ Q I rv ⟨a, vs, rfl, h1, .inr ⟨kf X.K H, fun x hx => (k2 x hx).1, fun ys p hs pm hp => ?_⟩⟩
        refine new_lst sr (repL_kf fun y hy => (k2 y (pm.mem_iff.mp hy)).2) (q (ys.map (kf X.K H)) ?_ ?_) p hp
        · have := pm.map (kf X.K H)
          rwa [k1] at this
        · exact List.pairwise_map.mpr hs
theorem oSorted_eq (d : D) {cs : Sto} {Q : PD} : oSorted d cs Q = bindP (seqOf cs d) fun ds => match nums ds with
  | some ns => ∀ ns' : List Int, ns'.Perm ns → ns'.Pairwise (· ≤ ·) → Q (.lst (ns'.map .int)) cs
  | none => match prs ds with
    | some ps => ∀ ps' : List (Int × Int), ps'.Perm ps → ps'.Pairwise leP → Q (.lst (ps'.map prD)) cs
    | none => False := (rfl)
end
end DL

/-! DExt: l.extend(t), t a list or a tuple. -/
namespace PySem.AutoSeq1
theorem list_extend_tup (l : Addr) (items : Array Value) (n : Nat) (b : Addr) (items2 : Array Value) (n2 : Nat) (dd : Option Addr) (sl : Array (Option Value)) (hs0 : ¬(!items.isEmpty && Builtin.List.listTooLong (items.size + items2.size)) = true) (hs1 : items.size ≤ sizeLine) (hs2 : items.size + items2.size ≤ sizeLine + 1 := by seq_fits) :
    Meets (Builtin.«list.extend» ⟨[.ref l, .ref b], []⟩) (fun _ R s => s.heap.get? l = some { cls := .type "list", dict := none, data := .seq items n, slots := #[] } ∧ s.heap.get? b = some { cls := .type "tuple", dict := dd, data := .seq items2 n2, slots := sl } ∧ R (.ok (.ret Value.none)) { s with heap := s.heap.update l (Obj.mapSeq fun x => x ++ items2), toks := s.toks }) :=
  .of_wp fun prog w A R s h => by
    obtain ⟨hp, g, d, tk, os⟩ := s; obtain ⟨hl, hb, h⟩ := h; have f1 := idx_int; have f2 := sub_tuple_tuple; have f3 := sub_list_list; have f4 := sub_tuple_list; have f5 := sub_list_tuple;
    have hz' : (items ++ items2).size ≤ sizeLine + 1 := by rw [Array.size_append]; exact hs2
    wp_walk using (wpAny_updateSeq hl rfl (hz := hs1) (_hz' := hz')), wpAny_loadPart' hl, wpAny_loadPart' hb; exact ⟨_, rfl, h⟩
end PySem.AutoSeq1
namespace L2
open PySem PySem.Spec PyProof.Rows
def rExtendT (K : PySem.W.Frag) : V → List V → Hp → VK → Prop := fun x vs H Q => ∃ l b xs zs, x = .ref l ∧ vs = [.ref b] ∧ H l = some (.lst xs) ∧ SqT K H b zs ∧ xs.length + zs.length ≤ sizeLine ∧ Q .non (upd H l (.lst (xs ++ zs)))
theorem mt_extendT {X : Cx} : MtM X "list.extend" (rExtendT X.K) := by
  intro pins s σ H x vs v us Q I rx rv h
  obtain ⟨l, b, xs, zs, rfl, rfl, hH, hB, hz, q⟩ := h
  cases rx
  obtain ⟨u, rfl, ru⟩ := rv.one
  cases ru
  obtain ⟨z, its, n, r, hl, e⟩ := I.lstM hH
  obtain ⟨its2, r2, ⟨o2, e2, hc2, n2, hd2⟩, _⟩ := I.tuple hB
  have hl2 : zs.length = its2.length := r2.length
  obtain ⟨oc, od, odt, osl⟩ := o2
  have hc2' : oc = .type "tuple" := hc2
  have hd2' : odt = .seq its2.toArray n2 := hd2
  subst hc2' hd2'
  have hsz : its.toArray.size + its2.toArray.size ≤ sizeLine := by rw [List.size_toArray, List.size_toArray]; omega
  have hlong : ¬ (!its.toArray.isEmpty && Builtin.List.listTooLong (its.toArray.size + its2.toArray.size)) = true := by
    rw [notLongL hsz, Bool.and_false]
    exact Bool.false_ne_true
  refine call_meets F.slot_list_extend ⟨_, e, rfl⟩ F.entry_list_extend (F.args_list_extend_2 _ _)
    (AutoSeq1.list_extend_tup l its.toArray n b its2.toArray n2 od osl hlong (by rw [List.size_toArray]; omega) (by omega)) ⟨e, e2, ?_⟩
  refine ⟨.non, _, I.lset (its' := its ++ its2) hH e (by simp) (r.append r2) ?_, rfl, q⟩
  rw [List.length_append]
  omega
end L2
namespace DL
open PySem PySem.Spec PyProof.Rows L2
variable [Tbs]
section
variable {X : Cx}
def extA (cs : Sto) (d : D) (ds : List D) : Option (Prop × Sto) := match d, ds with
  | .cell n, [.tup ys] => (lstAt cs n).map fun xs => (xs.length + ys.length ≤ sizeLine, cs.set n (.lst (xs ++ ys)))
  | _, _ => extS cs d ds
def oExtA : OM := fun d ds cs Q => bindP (extA cs d ds) fun p => p.1 ∧ Q .non p.2
theorem md_extendA : MtD X "list.extend" oExtA := .mk' (fun d ds cs Q Q' h q => bindP_mo (fun p q => ⟨q.1, h _ _ q.2⟩) q) fun pins s σ H x xs v us Q g cs d ds I rx r sr r1 r2 q => by
  unfold oExtA at q
  unfold extA at q
  split at q
  · rename_i n ys
    cases el : lstAt cs n with
    | none => rw [el] at q; exact q.elim
    | some zs =>
      rw [el] at q
      simp only [Option.map_some, bindP_some] at q
      obtain ⟨a, e1, h1⟩ := r1
      subst e1
      obtain ⟨vs, q1, q2, q3⟩ := sr.ok n a _ h1 (lstAt_some el)
      obtain ⟨v1, r', ev, w1, w2⟩ := r2
      have w2' : r' = [] := w2
      subst w2' ev
      obtain ⟨b, ws, eb, hb, rb⟩ := w1
      subst eb
      exact mt_extendT pins s σ H _ _ v us Q I rx r ⟨a, b, vs, ws, rfl, rfl, q1, sqT_mono sr.le hb, by rw [← q2.length, ← rb.length]; exact q.1, q.2 g _ _ (Ext.refl g) (sr.put h1 (lstAt_some el) (by simp) ⟨_, upd_same, q2.append rb, q3⟩) rfl⟩
  · exact md_extend.op pins s σ H x xs v us Q I rx r ⟨g, cs, d, ds, sr, r1, r2, q⟩
theorem oExtA_eq (d : D) (ds : List D) {cs : Sto} {Q : PD} : oExtA d ds cs Q = bindP (extA cs d ds) fun p => p.1 ∧ Q .non p.2 := (rfl)
theorem extA_tup (n : Nat) (ys : List D) (cs : Sto) : extA cs (.cell n) [.tup ys] = (lstAt cs n).map fun xs => (xs.length + ys.length ≤ sizeLine, cs.set n (.lst (xs ++ ys))) := (rfl)
theorem extA_lst (n : Nat) (ys : List D) (cs : Sto) : extA cs (.cell n) [.lst ys] = (lstAt cs n).map fun xs => (xs.length + ys.length ≤ sizeLine, cs.set n (.lst (xs ++ ys))) := by
  show extS cs (.cell n) [.lst ys] = _
  rw [extS_cell]
  cases lstAt cs n <;> rfl
theorem extA_cel (n i : Nat) (cs : Sto) : extA cs (.cell n) [.cell i] = extS cs (.cell n) [.cell i] := (rfl)
end
end DL

/-! DDct: dicts that are written: {}, d[k], d[k] = x, sorted(d) with keys that are ints. -/
namespace DL
open PySem PySem.Spec PyProof.Rows L2
variable [Tbs]
def putKD (kvs : List (Key × D)) (k : Key) (d : D) : List (Key × D) := if (kvs.any fun kv => decide (kv.1 = k)) = true then kvs.map (fun kv => if kv.1 = k then (kv.1, d) else kv) else kvs ++ [(k, d)]
def keysI : List (Key × D) → Option (List Int)
  | [] => some []
  | (.inl i, _) :: r => (keysI r).map (i :: ·)
  | _ => none
section
variable {K : PySem.W.Frag} {g : G} {cs : Sto} {H : Hp}
theorem RepK.keys : ∀ {kvs : List (Key × D)} {vs : List (Key × V)}, RepK K g kvs vs → vs.map (·.1) = kvs.map (·.1)
  | [], vs, h => by
    have h' : vs = [] := h
    subst h'
    rfl
  | (k, d) :: kvs, vs, h => by
    obtain ⟨v, r, rfl, _, h2⟩ := h
    rw [List.map_cons, List.map_cons, RepK.keys h2]
theorem RepK.snoc {k : Key} {d : D} {v : V} (hv : Rep K g d v) : ∀ {kvs : List (Key × D)} {vs : List (Key × V)}, RepK K g kvs vs → RepK K g (kvs ++ [(k, d)]) (vs ++ [(k, v)])
  | [], vs, h => by
    have h' : vs = [] := h
    subst h'
    exact ⟨v, [], rfl, hv, rfl⟩
  | (k', d') :: kvs, vs, h => by
    obtain ⟨v', r, rfl, h1, h2⟩ := h
    exact ⟨v', r ++ [(k, v)], rfl, h1, RepK.snoc hv h2⟩
theorem RepK.over {k : Key} {d : D} {v : V} (hv : Rep K g d v) : ∀ {kvs : List (Key × D)} {vs : List (Key × V)}, RepK K g kvs vs →
    RepK K g (kvs.map fun kv => if kv.1 = k then (kv.1, d) else kv) (vs.map fun kv => if kv.1 = k then (kv.1, v) else kv)
  | [], vs, h => by
    have h' : vs = [] := h
    subst h'
    exact rfl
  | (k', d') :: kvs, vs, h => by
    obtain ⟨v', r, rfl, h1, h2⟩ := h
    have ih := RepK.over (k := k) hv h2
    rw [List.map_cons, List.map_cons]
    by_cases e : k' = k
    · simp only [e, if_true]
      exact ⟨v, _, rfl, hv, ih⟩
    · simp only [if_neg e]
      exact ⟨v', _, rfl, h1, ih⟩
theorem RepK.put {kvs : List (Key × D)} {vs : List (Key × V)} {k : Key} {d : D} {v : V} (h : RepK K g kvs vs) (hv : Rep K g d v) : RepK K g (putKD kvs k d) (putK vs k v) := by
  have e : (vs.any fun kv => decide (kv.1 = k)) = (kvs.any fun kv => decide (kv.1 = k)) := by
    have e1 : ∀ l : List (Key × V), (l.any fun kv => decide (kv.1 = k)) = (l.map (·.1)).any fun x => decide (x = k) := fun l => by rw [List.any_map]; rfl
    have e2 : ∀ l : List (Key × D), (l.any fun kv => decide (kv.1 = k)) = (l.map (·.1)).any fun x => decide (x = k) := fun l => by rw [List.any_map]; rfl
    rw [e1, e2, h.keys]
  unfold putKD putK
  rw [e]
  split
  · exact RepK.over hv h
  · exact RepK.snoc hv h
theorem keysI_some : ∀ {kvs : List (Key × D)} {ns : List Int}, keysI kvs = some ns → kvs.map (·.1) = ns.map Sum.inl
  | [], ns, h => by cases h; rfl
  | (.inl i, d) :: r, ns, h => by
    obtain ⟨ms, e, rfl⟩ := Option.map_eq_some_iff.mp h
    rw [List.map_cons, List.map_cons, keysI_some e]
  | (.inr _, _) :: _, _, h => by cases h
end
def wCelD0 : WE := fun _ cs Q => Q (.cell cs.length) (cs ++ [.dic []])
def wDIx (wo wk : WE) : WE := fun env cs Q => wo env cs fun o cs1 => wk env cs1 fun k cs2 => bindP (dicAt cs2 o) fun kvs => bindP (keyD k) fun k => bindP (getD kvs k) fun d => Q d cs2
def stoDK (cs : Sto) (o k d : D) : Option (Prop × Sto) := match o with
  | .cell n => (dicAt cs (.cell n)).bind fun kvs => (keyD k).map fun k => (kvs.length < sizeLine, cs.set n (.dic (putKD kvs k d)))
  | _ => none
def wDPut (we wo wi : WE) : WS := fun E env cs => we env cs fun d cs1 => wo env cs1 fun o cs2 => wi env cs2 fun k cs3 => bindP (stoDK cs3 o k d) fun p => p.1 ∧ E.nx env p.2
def oSortedD : O1 := fun d cs Q => bindP (dicAt cs d) fun kvs => bindP (keysI kvs) fun ns => ns.length < 64 ∧ ∀ ns' : List Int, ns'.Perm ns → ns'.Pairwise (· ≤ ·) → Q (.lst (ns'.map .int)) cs
section
variable {X : Cx}
theorem de_celD0 {pos : Pos} : DE X (.Dict [] [] pos) wCelD0 := by
  refine ⟨PE.imp pe_dnewK fun σ H Q ⟨g, cs, env, s, l, h⟩ p hp => ?_, fun _ cs _ _ h q => h _ _ q⟩
  exact h (g.cel p) _ _ (Ext.cel p) (s.cel hp ⟨[], upd_same, rfl, s.free hp⟩) ⟨p, rfl, by
    rw [← s.len]
    show (g.as ++ [p])[g.as.length]? = some p
    simp⟩
theorem de_dix {a b : Expr} {wa wb : WE} {pos : Pos} (hu : X.A.units + 1 < cLine) (ha : DE X a wa) (hb : DE X b wb) (hs : NoSl b := by exact fun _ _ => rfl) : DE X (.Subscript a b pos) (wDIx wa wb) :=
  ⟨PE.imp (pe_dget hu ha.pe hb.pe hs) fun σ H Q ⟨g, cs, env, s, l, h⟩ => lowE.go ha.mo s l h fun d1 cs1 g1 H1 v1 h1 e1 s1 r1 => lowE.go hb.mo s1 (l.mono e1) h1 fun d2 cs2 g2 H2 v2 h2 e2 s2 r2 => by
    cases q1 : dicAt cs2 d1 with
    | none => rw [q1] at h2; exact h2.elim
    | some kvs =>
      cases q2 : keyD d2 with
      | none => simp only [q1, q2, bindP_some, bindP_none] at h2
      | some k =>
        cases q3 : getD kvs k with
        | none => simp only [q1, q2, q3, bindP_some, bindP_none] at h2
        | some d =>
          simp only [q1, q2, q3, bindP_some] at h2
          obtain ⟨p, vs, rfl, h3, h4⟩ := dic_of s2 q1 (r1.mono e2)
          obtain ⟨v, q4, r4⟩ := (RepK.get k h4).1 d q3
          have ey := key_rep q2 r2
          subst ey
          exact ⟨p, v, rfl, by rw [← q4]; exact DGet.k h3, h2 g2 H2 _ (e1.trans e2) s2 r4⟩,
    fun env cs Q Q' h q => ha.mo env cs _ _ (fun d cs1 q => hb.mo env cs1 _ _ (fun k cs2 q => bindP_mo (fun _ q => bindP_mo (fun _ q => bindP_mo (fun _ q => h _ _ q) q) q) q) q) q⟩
theorem ds_dput {e o i : Expr} {we wo wi : WE} {tpos pos : Pos} (hu : X.A.units + 1 < cLine) (he : DE X e we) (ho : DE X o wo) (hi : DE X i wi)
    (ha : ∀ v, assign (.Subscript o i tpos) X.env v = (do
      let ov ← holding [v] (eval o X.env)
      let iv ← holding [v, ov] (eval i X.env)
      standAt tpos
      holding [v, ov, iv] (setItem ov iv v)
      release [v, ov, iv] []) := by intro _; rfl)
    (hs : swapsWithSole [.Subscript o i tpos] e pos.line X.env = pure false := by rfl) (hw : swappedStores [.Subscript o i tpos] e X.env = pure none := by rfl) (h1 : (assignEach [.Subscript o i tpos] X.env).map (·.2) = [assign (.Subscript o i tpos) X.env] := by rfl) :
    DS X (.Assign [.Subscript o i tpos] e pos) (wDPut we wo wi) := by
  refine ⟨PS.imp (ps_asg he.pe (pg_sub ho.pe hi.pe (set_dict hu) ha) hs hw h1) fun D σ H ⟨g, cs, env, sr, l, h⟩ => ?_, fun E E' env cs h q => he.mo _ _ _ _ (fun d cs1 q => ho.mo _ _ _ _ (fun o cs2 q => hi.mo _ _ _ _ (fun k cs3 q => bindP_mo (fun p q => ⟨q.1, h.nx _ _ q.2⟩) q) q) q) q⟩
  refine lowE.go he.mo sr l h fun d cs1 g1 H1 v1 h1 e1 s1 r1 => lowE.go ho.mo s1 (l.mono e1) h1 fun od cs2 g2 H2 v2 h2 e2 s2 r2 => lowE.go hi.mo s2 ((l.mono e1).mono e2) h2 fun kd cs3 g3 H3 v3 h3 e3 s3 r3 => ?_
  unfold stoDK at h3
  split at h3
  · rename_i n
    cases q1 : dicAt cs3 (.cell n) with
    | none => rw [q1] at h3; exact h3.elim
    | some kvs =>
      cases q2 : keyD kd with
      | none => rw [q1, q2] at h3; exact h3.elim
      | some k =>
        rw [q1, q2] at h3
        obtain ⟨hz, q⟩ := h3
        have hc : cs3[n]? = some (.dic kvs) := by
          unfold dicAt at q1
          simp only at q1
          split at q1
          · rename_i kvs' hc
            cases q1
            exact hc
          · cases q1
        obtain ⟨p, rfl, h4⟩ := r2.mono e3
        obtain ⟨vs, f1, f2, f3⟩ := s3.ok n p _ h4 hc
        have ey := key_rep q2 r3
        subst ey
        have hl : vs.length = kvs.length := by
          have := congrArg List.length f2.keys
          simpa using this
        refine ⟨p, _, rfl, DPut.k f1 (by rw [hl]; exact hz), ?_⟩
        exact q g3 _ σ ((e1.trans e2).trans e3) (s3.put h4 hc (by simp) ⟨_, upd_same, f2.put ((r1.mono e2).mono e3), f3⟩) (l.mono ((e1.trans e2).trans e3))
  · exact h3.elim
theorem cd_sortedD (hc : X.calm = true) : CallD X (.builtin "sorted") (o1 oSortedD) := cd1 (fun d cs Q Q' h q => bindP_mo (fun kvs q => bindP_mo (fun ns q => ⟨q.1, fun ns' a b => h _ _ (q.2 ns' a b)⟩) q) q) fun pins s σ H x u Q g cs d I ru rv sr r q => by
  unfold oSortedD at q
  cases q1 : dicAt cs d with
  | none => rw [q1] at q; exact q.elim
  | some kvs =>
    cases q2 : keysI kvs with
    | none => simp only [q1, q2, bindP_some, bindP_none] at q
    | some ns =>
      simp only [q1, q2, bindP_some] at q
      obtain ⟨a, vs, rfl, h1, h2⟩ := dic_of sr q1 r
      exact call_sortedDI hc pins s σ H _ _ Q I rv ⟨a, vs, ns, rfl, .of h1, by rw [h2.keys]; exact keysI_some q2, q.1, fun ns' p pm pw hp => new_lst sr (RepL.of_ints ns') (q.2 ns' pm pw) p hp⟩
end
/-! ### min and max of two ints -/
def oMin2 : OC := fun ds cs Q => match ds with
  | [.int i, .int j] => Q (.int (if j < i then j else i)) cs
  | _ => False
def oMax2 : OC := fun ds cs Q => match ds with
  | [.int i, .int j] => Q (.int (if j > i then j else i)) cs
  | _ => False
section
variable {X : Cx}
theorem cd_min2 (hc : X.calm = true) : CallD X (.builtin "min") oMin2 := .mk' (fun ds cs Q Q' h q => by
    unfold oMin2 at q ⊢
    split at q
    · exact h _ _ q
    · exact q) fun pins s σ H xs us Q g cs ds I r sr r1 q => by
  unfold oMin2 at q
  split at q
  · obtain ⟨v, vr, rfl, a1, w, wr, rfl, a2, a3⟩ := r1
    have a3' : wr = [] := a3
    subst a3'
    cases a1
    cases a2
    exact call_min2 hc pins s σ H _ _ Q I r ⟨_, _, rfl, q g H _ (Ext.refl g) sr rfl⟩
  · exact q.elim
theorem cd_max2 (hc : X.calm = true) : CallD X (.builtin "max") oMax2 := .mk' (fun ds cs Q Q' h q => by
    unfold oMax2 at q ⊢
    split at q
    · exact h _ _ q
    · exact q) fun pins s σ H xs us Q g cs ds I r sr r1 q => by
  unfold oMax2 at q
  split at q
  · obtain ⟨v, vr, rfl, a1, w, wr, rfl, a2, a3⟩ := r1
    have a3' : wr = [] := a3
    subst a3'
    cases a1
    cases a2
    exact call_max2 hc pins s σ H _ _ Q I r ⟨_, _, rfl, q g H _ (Ext.refl g) sr rfl⟩
  · exact q.elim
end
section
variable {env : En} {cs : Sto} {Q : PD} {E : DN}
theorem oMin2_eq (i j : Int) : oMin2 [.int i, .int j] cs Q = Q (.int (if j < i then j else i)) cs := (rfl)
theorem oMax2_eq (i j : Int) : oMax2 [.int i, .int j] cs Q = Q (.int (if j > i then j else i)) cs := (rfl)
theorem wCelD0_eq : wCelD0 env cs Q = Q (.cell cs.length) (cs ++ [.dic []]) := (rfl)
theorem wDIx_eq (wo wk : WE) : wDIx wo wk env cs Q = wo env cs fun o cs1 => wk env cs1 fun k cs2 => bindP (dicAt cs2 o) fun kvs => bindP (keyD k) fun k => bindP (getD kvs k) fun d => Q d cs2 := (rfl)
theorem wDPut_eq (we wo wi : WE) : wDPut we wo wi E env cs = we env cs fun d cs1 => wo env cs1 fun o cs2 => wi env cs2 fun k cs3 => bindP (stoDK cs3 o k d) fun p => p.1 ∧ E.nx env p.2 := (rfl)
theorem oSortedD_eq (d : D) : oSortedD d cs Q = bindP (dicAt cs d) fun kvs => bindP (keysI kvs) fun ns => ns.length < 64 ∧ ∀ ns' : List Int, ns'.Perm ns → ns'.Pairwise (· ≤ ·) → Q (.lst (ns'.map .int)) cs := (rfl)
theorem stoDK_at {n : Nat} {kvs : List (Key × D)} (h : dicAt cs (.cell n) = some kvs) (i : Int) (d : D) : stoDK cs (.cell n) (.int i) d = some (kvs.length < sizeLine, cs.set n (.dic (putKD kvs (.inl i) d))) := by
  unfold stoDK
  simp only [h]
  rfl
theorem dicAt_app {kvs : List (Key × D)} : dicAt (cs ++ [.dic kvs]) (.cell cs.length) = some kvs := by
  unfold dicAt
  simp
end
end DL
/-! ### defs with defaults, called with all their arguments -/
namespace DL
open PySem PySem.Spec PyProof.Rows L2
variable [Tbs]
section
variable {P : Program} {w : World} {K : PySem.W.Frag} {mg : Str → Option Value} {base : Heap}
theorem funD_ex {x qual : Str} {params : Arguments} {body : List Stmt} {scope : Scope} {dvs : List V} {kws : List (Str × V)} {f : Addr} {fd : FuncData} (F : FunD K x qual params body scope dvs kws f fd) :
    ∃ (oc : Value) (od : Option Addr) (dV kV doc pm : Value) (an : Option Addr) (cdv ct : Value) (osl : Array (Option Value)), fd = PySem.W.fnOf x qual params body scope dV kV doc pm an cdv ct ∧ K.lookup f = some ⟨oc, od, .func fd, osl⟩ ∧ PySem.W.codeIn K cdv qual = true := by
  obtain ⟨oc, od, dV, kV, doc, pm, an, cdv, ct, osl, h1, h2, h3, _⟩ := F.ex
  exact ⟨oc, od, dV, kV, doc, pm, an, cdv, ct, osl, h1, h2, h3⟩
theorem dfunD {k : Nat} {f : Addr} {name qual : Str} {st : Stmt} {dvs : List V} {fd : FuncData} {N ps : List Str} {sp : FSpec} (F : FunD K name qual (defArgs st) (defBody st) (defScope st) dvs [] f fd) (S : FnScope N ps (defScope st)) (len : ∀ i, (sp.args i).length = ps.length)
    (h : ∀ (cdv : Value) (A : Around) (outer : List PySem.Env) (s : Shared) (H : Hp) (E : XK), RoomG k (A.deeper (envOfC qual (defScope st) s.heap.objs.size f cdv)) → ∃ wS, DSs (cxOf CX0 P w K mg base N qual (defScope st) f cdv A outer s H E).nox (defBody st) wS ∧
      ∀ i cs, sp.pre i cs → wS { nx := fun _ cs' => sp.res i cs .non cs', rt := fun d cs' => sp.res i cs d cs' } (startE N.length (sp.args i)) cs) : FnG P w K mg base CX0 (k + 1) f fd ps (dSp K sp) := dfun_ex (funD_ex F) S len h
theorem funD_mk {x qual : Str} {params : Arguments} {body : List Stmt} {scope : Scope} {f T : Addr} {oc tc : Value} {od an td : Option Addr} {osl ts : Array (Option Value)} {kV doc pm cdv ct : Value} {its : Array Value} {n : Nat} {dvs : List V}
    (l : K.lookup f = some ⟨oc, od, .func (PySem.W.fnOf x qual params body scope (.ref T) kV doc pm an cdv ct), osl⟩) (c : PySem.W.codeIn K cdv qual = true) (k : PySem.W.keepIn K (.ref f) = true)
    (lt : K.lookup T = some ⟨tc, td, .seq its n, ts⟩) (hd : dvs ≠ []) (hv : Vals dvs its.toList) : FunD K x qual params body scope dvs [] f (PySem.W.fnOf x qual params body scope (.ref T) kV doc pm an cdv ct) :=
  ⟨⟨oc, od, .ref T, kV, doc, pm, an, cdv, ct, osl, rfl, l, c, .inr ⟨hd, T, _, its.toList, n, rfl, lt, rfl, hv⟩, .inl rfl⟩, k⟩
theorem FunD.bindsAll {x qual : Str} {params : Arguments} {body : List Stmt} {scope : Scope} {dvs : List V} {f : Addr} {fd : FuncData} {ps : List Str} (F : FunD K x qual params body scope dvs [] f fd) (hd : dvs ≠ [])
    (h : ∀ (T : Addr) (kV doc pm : Value) (an : Option Addr) (cdv ct : Value) (us its : List Value), us.length = ps.length → its.length = dvs.length →
      ∃ k, bindArgs (PySem.W.fnOf x qual params body scope (.ref T) kV doc pm an cdv ct) ⟨us, []⟩ = seqItems? (.ref T) >>= k ∧ k (some its.toArray) = pure (ps.zip us)) : Binds K fd ps [] := by
  obtain ⟨ds, v, b⟩ := FunD.binds1 (ps := ps) F ps.length dvs.length hd (by omega) fun T kV doc pm an cdv ct us its h1 h2 => by
    obtain ⟨k, e1, e2⟩ := h T kV doc pm an cdv ct us its h1 h2
    exact ⟨k, e1, by rw [List.drop_eq_nil_of_le (by omega), List.append_nil]; exact e2⟩
  rw [List.drop_eq_nil_of_le (Nat.le_refl _)] at v
  cases v
  exact b
end
end DL

/-! DErr: errors of one's own whose __init__ says super().__init__(..). -/
namespace L2
open PySem PySem.Spec PyProof.Rows
/-- what the written part says of such an __init__: its code, its class cell -/
structure SupF (X : Cx) (C f cda cc : Addr) (me : Str) : Prop where
  hks : X.env.kindOf "super" = some .globalImplicit
  hkc : X.env.kindOf "__class__" = some .free
  hka : X.env.kindOf me = some .local
  fu : X.env.func = some f
  lf : ∃ (of : Obj) (fd : FuncData) (ar : Arg), X.K.lookup f = some of ∧ of.data = .func fd ∧ (fd.params.posonlyargs ++ fd.params.args).head? = some ar ∧ ar.arg = me
  co : X.env.code = .ref cda
  lc : ∃ (oc : Obj) (vs : Array Value) (file : Str) (tf : Tok), X.K.lookup cda = some oc ∧ oc.data = .fields vs ∧ vs[2]? = some (.str file tf) ∧ ((X.prog.main.file : Str) == file) = true
  top : (X.prog.main.scope.names.lookup ("super" : Str)).isSome = false
  cl : X.env.cells.lookup ("__class__" : Str) = some cc
  lcc : ∃ oc : Obj, X.K.lookup cc = some oc ∧ oc.data = .cell (some (.ref C))
  i0 : X.N[0]? = some me
  mg : X.mg "super" = none
  boot : bootBuiltins "super" = some (.type "super")
  sub : PySem.W.mroIn X.K C (.ref C) = some true
  sup : PySem.W.ks_superIn X.K C C "__init__" = some (some (.builtin "ValueError.__init__"))
  exV : PySem.W.subIn X.K (.ref C) (.type "ValueError") = some true
  any : PySem.W.nsIn X.K cStatics "thirdparty.any" = some none
section
variable {X : Cx} {C f cda cc a : Addr} {me : Str} {pins : List (Addr × Obj)} {σ : St} {H : Hp} {s : Shared}
theorem isCell_K {o : Obj} {v : Value} (I : Inv X pins σ H s) (h : X.K.lookup cc = some o) (hd : o.data = .cell (some v)) : s.heap.IsCell cc (some v) := ⟨o, I.kIn _ _ h, hd⟩
/-- super() in it -/
theorem sup_wp (F : SupF X C f cda cc me) (T : OexC X.K C) (I : Inv X pins σ H s) (ea : H a = some (exo a C none)) (e0 : σ[0]? = some (some (.ref a))) {body : List Stmt} {p0 p1 : Pos} {whole : Sem Value} {Q : Value → Shared → Prop}
    (hq : ∀ so h', Inv X pins σ H { s with heap := h' } → h'.get? so = some (PySem.W.ks_superObj C a C) → Q (.ref so) { s with heap := h' }) :
    PySem.wpAt (model X.prog X.w) X.A (.func body X.env) (attributeBase (.Call (.Name "super" p0) [] [] p1) "__init__" X.env whole) Q X.xe s := by
  obtain ⟨of, fd, ar, hf, hfd, hp, har⟩ := F.lf
  obtain ⟨oc, vs, file, tf, hcc, hoc, hvs, hfile⟩ := F.lc
  obtain ⟨occ, hcell, hcd⟩ := F.lcc
  obtain ⟨t1, ho⟩ := exo_at I.hok ea
  obtain ⟨nm, q, N, bs, bm, sn, sub, ab, col, dd, k0, k1, k2, k3, k5, hC, hbm⟩ := T.cls
  obtain ⟨m, hn, hl⟩ := I.loc
  have hv : m me = some (.ref a) := by
    obtain ⟨u, ru, lk⟩ := hl 0 me (.ref a) F.i0 e0 (.inl F.hka)
    obtain rfl : u = Value.ref a := ru
    rcases lk with lk | lk
    · exact lk.2
    · rw [F.hka] at lk
      rcases lk.1 with z | z <;> cases z
  refine PySem.ks_wpAt_super_base (env := X.env) F.hks F.hkc (by decide) F.fu (I.kIn _ _ hf) hfd hp F.co (I.kIn _ _ hcc) hoc hvs hfile F.top ?_
  obtain ⟨mb, g1, g2⟩ := I.mod.blt
  refine PySem.W.ks_loadName_global I.ok.kind F.hks (Calls.loadGlobal_builtin (by rw [I.ok.glob]; exact I.mod.glob.keeps I.bk) F.mg (by rw [I.ok.blt]; exact g1.keeps I.bk) ((g2 _ (by decide)).trans F.boot) ⟨rfl, ?_⟩)
  refine wpAny_loadName_free I.ok.kind F.hkc F.cl (isCell_K I hcell hcd) ?_
  rw [har]
  refine wpAny_loadName_local I.ok.kind F.hka hn hv ?_
  have hCd := I.kIn _ _ hC
  obtain ⟨hh, g, d, t, os⟩ := s
  refine PySem.ks_wpAny_isType_cls hCd rfl ⟨rfl, ?_⟩
  refine PySem.ks_wpAny_call_super hCd rfl ho rfl (fun c z => by cases z) (PySem.W.looks_mroIn I.kIn F.sub) (fun h' e k => ?_)
  exact hq _ _ (I.kept (t' := t) k) e
/-- super().__init__(e) in it -/
theorem supinit_wp (F : SupF X C f cda cc me) (T : OexC X.K C) (I : Inv X pins σ H s) (ea : H a = some (exo a C none)) (e0 : σ[0]? = some (some (.ref a))) {body : List Stmt} {p0 p1 ap pos : Pos} {e : Expr} {te : TE} {Q : Value → Shared → Prop}
    (he : PE X e te) {y : V} (ht : ∀ Q : VK, Q y H → te σ H Q) (pl : Sem Bool) (hq : ∀ s', Inv X pins σ H s' → Q .none s')
    (hform : eval (.Call (.Attribute (.Call (.Name "super" p0) [] [] p1) "__init__" ap) [e] [] pos) X.env = (do
      let ov ← attributeBase (.Call (.Name "super" p0) [] [] p1) "__init__" X.env (eval (.Call (.Name "super" p0) [] [] p1) X.env)
      standAt ap.atName
      let (f, first) ← holding [ov] (getMethod ov "__init__" pl)
      callWith pos f first (backTo pos (starEach [e] X.env)) []))
    (hs : starEach [e] X.env = (false, eval e X.env) :: starEach [] X.env) :
    PySem.wpAt (model X.prog X.w) X.A (.func body X.env) (eval (.Call (.Attribute (.Call (.Name "super" p0) [] [] p1) "__init__" ap) [e] [] pos) X.env) Q X.xe s := by
  refine PySem.ks_wpAt_MethodCall (pl := pl) (sup_wp F T I ea e0 fun so h' J hso => ?_) hform
  obtain ⟨t1, ho⟩ := exo_at J.hok ea
  have hIn : PySem.W.InstAt h' a _ C none := ⟨ho, rfl, rfl, trivial⟩
  have hI : PySem.W.Looks (model X.prog X.w) h' (isInstance (.ref a) (.type "ValueError")) true := hIn.type.andThen (PySem.W.looks_subIn J.kIn F.exV)
  cases hc : PySem.W.clsIn X.K C with
  | none =>
    have := F.sup
    unfold PySem.W.ks_superIn at this
    rw [hc] at this
    cases this
  | some cd =>
    have hsup := F.sup
    unfold PySem.W.ks_superIn at hsup
    rw [hc] at hsup
    obtain ⟨hh, g, d, t, os⟩ := s
    refine PySem.W.kxs_getMethod PySem.W.kxs_ValueError hso (PySem.W.looks_opaque J.kIn F.any) (l₀ := cd.mro) (fun A Q E s k q => wpAny_bind ((PySem.W.looks_clsIn J.kIn hc) A _ E s k (wpAny_pure q))) rfl J.kIn hsup hI (PySem.W.ks_ne J.kIn hIn hc) (by decide) ?_
    have hmw : (h'.push (PySem.W.kxs_mw "ValueError.__init__" a)).get? h'.objs.size = some (PySem.W.kxs_mw "ValueError.__init__" a) := Heap.get?_push_at rfl rfl
    have J2 : Inv X pins σ H ⟨h'.push (PySem.W.kxs_mw "ValueError.__init__" a), g, d, t + 1, os⟩ := J.kept (t' := t + 1) fun b o z => Heap.get?_push_of_some _ z
    have nn : h'.get? h'.objs.size = none := by
      cases z : h'.get? h'.objs.size with
      | none => rfl
      | some o => exact absurd (Heap.lt_size z) (Nat.lt_irrefl _)
    have J3 : Inv X ((h'.objs.size, PySem.W.kxs_mw "ValueError.__init__" a) :: pins) σ H ⟨h'.push (PySem.W.kxs_mw "ValueError.__init__" a), g, d, t + 1, os⟩ := J2.pins_of fun p hp => by
      rcases List.mem_cons.mp hp with rfl | hp
      · exact ⟨hmw, J.hok.gone nn, Ne.symm (Nat.ne_of_lt J.lt), J.nofs (Nat.le_refl _), fun v z => by cases z⟩
      · exact J2.pin p (List.mem_append_right _ hp)
    show wpAny _ _ (callWith pos (.ref h'.objs.size) [] (backTo pos (starEach [e] X.env)) []) _ _ _
    rw [hs]
    refine PySem.W.kxs_callWith (i := "ValueError.__init__") (x := a) rfl (Calls.evalArgs_plain ?_)
    have hrun := (pa_cons he pa_nil hs).run pos _ _ σ H (fun xs H2 => xs = [y] ∧ H2 = H) J3 (ht _ ⟨rfl, rfl⟩)
    rw [hs] at hrun
    refine thn hrun fun us s1 ⟨vs, H1, J4, r, ev, eH⟩ => ?_
    subst ev eH
    have hu := (J4.pin _ (List.mem_append_right _ List.mem_cons_self)).1
    refine ⟨hu, ?_⟩
    obtain ⟨u1, rfl, ru⟩ := vals1 r
    obtain ⟨nm, q, N, bs, bm, sn, sub, ab, col, dd, k0, k1, k2, k3, k5, hC, hbm⟩ := T.cls
    obtain ⟨t2, ho2⟩ := exo_at J4.hok ea
    obtain ⟨h4, g4, d4, tk4, os4⟩ := s1
    refine wpAny_call (codeAny_of_tree ?_)
    show wpAny _ X.A.in1 (callAny (.ref h'.objs.size) ⟨[] ++ [u1], []⟩) _ _ _
    simp only [callAny]
    refine wpAny_bind (wpAny_load hu ?_)
    simp only [PySem.W.kxs_mw, show (Value.type "method-wrapper" == Value.type "method" || Value.type "method-wrapper" == Value.type "builtin_function_or_method" || Value.type "method-wrapper" == Value.type "method-wrapper") = true by decide, if_true]
    refine PySem.W.KFB.if_so (by decide) ?_
    refine wpAny_bind (PySem.W.check_bound_init PySem.F.excBase_ValueError.toExcCallFacts (J4.kIn _ _ hC) ho2 rfl ?_)
    refine wpAny_bind (wpAny_pure (wpAny_pure ?_))
    refine ⟨plainId_quiet PySem.F.excBase_ValueError.init.plain _, codeAny_builtin PySem.F.excBase_ValueError.initEntry ?_⟩
    refine PySem.W.exc_init_tree (cls := .ref C) (t0 := t2) (dv := none) (c2 := .none) (c3 := .none) (b4 := .bool false) ho2 (by simp [sizeLine_eq]) fun h5 k e5 _ => ?_
    have J5 : Inv X ((h'.objs.size, PySem.W.kxs_mw "ValueError.__init__" a) :: pins) σ (upd H1 a (exo a C none)) ⟨h5, g4, d4, tk4, os4⟩ := J4.write (t' := tk4) (x := a) (e := a) (o := exo a C none) (by rw [ea]; exact True.intro) (.inl rfl) k ⟨_, e5⟩ (exo_ok e5)
    have eu : upd H1 a (exo a C none) = H1 := by
      funext b
      by_cases hb : b = a
      · rw [hb, upd_same, ea]
      · rw [upd_ne hb]
    rw [eu] at J5
    exact hq _ (J5.pins_of fun p hp => J5.pin p (List.mem_append_right _ (List.mem_cons_of_mem _ hp)))
end
/-! ### the call of such an __init__ -/
abbrev cxS (CX : CXT) (P : Program) (w : World) (K : PySem.W.Frag) (mg : Str → Option Value) (base : Heap) (N : List Str) (qual : Str) (scope : Scope) (f cc : Addr) (cd : Value) (A : Around) (outer : List Env) (s : Shared) (H : Hp) (E : XK) : Cx where
  prog := P
  w := w
  K := K
  mg := mg
  base := base
  A := A.deeper (PySem.W.ksEnv qual scope s.heap.objs.size f cd cc)
  N := N
  s_0 := s
  H_0 := H
  env := PySem.W.ksEnv qual scope s.heap.objs.size f cd cc
  outer := outer
  stack := PySem.W.ksEnv qual scope s.heap.objs.size f cd cc :: outer
  ex := []
  calm := true
  fn := fun _ => false
  pn := []
  xe := fun e s' => wpAny (model P w) (A.deeper (PySem.W.ksEnv qual scope s.heap.objs.size f cd cc)) (leaving (PySem.W.ksEnv qual scope s.heap.objs.size f cd cc) e) (fun _ s'' => CX outer H s E e s'') (fun e' s'' => CX outer H s E e' s'') s'
/-- such a scope: me, the other, a free class -/
structure SupS (sc : Scope) (me par : Str) : Prop where
  kind : sc.kind = .function
  co : sc.isCoroutine = false
  gen : sc.isGenerator = false
  ne : me ≠ par
  m : sc.names.lookup me = some .local
  p : sc.names.lookup par = some .local
  nocell : ∀ x ∈ sc.names, x.2 ≠ .cell
  free : ∀ x ∈ sc.names, x.2 = .free → x.1 = "__class__"
theorem inv_startS {CX : CXT} {P : Program} {w : World} {K : PySem.W.Frag} {mg : Str → Option Value} {base : Heap} {me par qual : Str} {scope : Scope} {f cc C : Addr} {cd : Value} {A : Around} {outer : List Env} {s : Shared} {H : Hp} {E : XK} {u1 u2 : Value} {v1 v2 : V}
    (S : SupS scope me par) (hd : A.handled = none) (e0 : Env0 P w K mg base A outer s H) (r1 : RelV v1 u1) (r2 : RelV v2 u2) (lcc : ∃ oc : Obj, K.lookup cc = some oc ∧ oc.data = .cell (some (.ref C)))
    {h₀ : Heap} {tk : Nat} (hns : h₀.Ns s.heap.objs.size fun x => ([(me, u1), (par, u2)] : List (Str × Value)).reverse.lookup x) (hk : ∀ b o, s.heap.get? b = some o → h₀.get? b = some o) :
    Inv (cxS CX P w K mg base [me, par] qual scope f cc cd A outer s H E) [] [some v1, some v2] H { s with heap := h₀, toks := tk } := by
  obtain ⟨oc, hcc, hcd⟩ := lcc
  have hb := e0.mod.kin _ _ hcc
  obtain ⟨hs, hH⟩ := e0.bs _ _ hb
  have noA : ∀ b : Addr, b ∉ (cxS CX P w K mg base [me, par] qual scope f cc cd A outer s H E).ex := fun b z => absurd (show b ∈ ([] : List Addr) from z) (by simp)
  have lk : ∀ (x : Str) (c : Addr), (PySem.W.ksEnv qual scope s.heap.objs.size f cd cc).cells.lookup x = some c → x = "__class__" ∧ c = cc := fun x c h => by
    have h' : ([("__class__", cc)] : List (Str × Addr)).lookup x = some c := h
    rw [List.lookup_cons] at h'
    split at h'
    · rename_i e
      cases h'
      exact ⟨by simpa using e, rfl⟩
    · cases h'
  refine ⟨⟨e0.mod, S.kind, rfl, rfl, Nat.le_refl _, fun y z c h1 h2 => ?_, fun y hy => ?_, fun y c h => (by cases h), fun _ => hd, Around.frames_deeper e0.frames, .inr ⟨rfl, rfl⟩, fun b z => absurd z (noA b), e0.bs, e0.bsz, fun b _ _ => noA b, fun b z => absurd z (noA b), e0.funs, e0.frf⟩,
    rfl, e0.bare, Un.kept hk, ⟨_, hns, fun i y v h1 h2 h3 => ?_⟩, fun y c h => ?_, e0.hok.fresh (Nat.le_refl _), fun y c h => ?_, fun p hp => absurd (show p ∈ ([] : List (Addr × Obj)) from hp) (by simp), e0.hok.kept hk, rfl⟩
  · rw [(lk _ _ h1).1, (lk _ _ h2).1]
  · have hy' : scope.names.lookup y = some .cell ∨ scope.names.lookup y = some .free := hy
    rcases hy' with hy' | hy'
    · exact absurd rfl (S.nocell _ (PySem.mem_of_lookup hy'))
    · have := S.free _ (PySem.mem_of_lookup hy') rfl
      subst this
      exact ⟨cc, by show ([("__class__", cc)] : List (Str × Addr)).lookup _ = _; rw [List.lookup_cons]; simp⟩
  · match i, h1, h2 with
    | 0, h1, h2 =>
      have h1' : me = y := by simpa using h1
      have h2' : v1 = v := by simpa using h2
      subst h1' h2'
      refine ⟨u1, r1, .inl ⟨S.m, ?_⟩⟩
      show ([(par, u2), (me, u1)] : List (Str × Value)).lookup me = some u1
      rw [List.lookup_cons, List.lookup_cons]
      have : (me == par) = false := by simpa using S.ne
      simp [this]
    | 1, h1, h2 =>
      have h1' : par = y := by simpa using h1
      have h2' : v2 = v := by simpa using h2
      subst h1' h2'
      refine ⟨u2, r2, .inl ⟨S.p, ?_⟩⟩
      show ([(par, u2), (me, u1)] : List (Str × Value)).lookup par = some u2
      rw [List.lookup_cons]
      simp
    | n + 2, h1, h2 => simp at h1
  · obtain ⟨rfl, rfl⟩ := lk y c h
    exact ⟨_, oc, hk _ _ hs, hcd⟩
  · obtain ⟨rfl, rfl⟩ := lk y c h
    exact hH
/-- what it leaves: the exception with its field -/
def spInit (K : PySem.W.Frag) (C : Addr) (fld : Str) (Y : V → Prop) : Sp := fun vs H Q _ => ∃ (a : Addr) (y : V), vs = [.ref a, y] ∧ Y y ∧ H a = some (exo a C none) ∧ ∀ dx, H dx = none → dx ≠ a → Q .non (upd (upd H dx (exd dx [(fld, y)])) a (exo a C (some dx)))
theorem fn_ofS {CX : CXT} {P : Program} {w : World} {K : PySem.W.Frag} {mg : Str → Option Value} {base : Heap} {k : Nat} {f cc C cda : Addr} {name qual me par fld : Str} {Y : V → Prop} {params : Arguments} {scope : Scope} {dV kV doc pm ct oc : Value} {an od : Option Addr} {osl : Array (Option Value)}
    {e : Expr} {p0 p1 ap pos pos' p2 p3 p4 pos2 : Pos} (T : OexC K C)
    (lk : K.lookup f = some ⟨oc, od, .func (PySem.W.ksFn name qual params [.Expr (.Call (.Attribute (.Call (.Name "super" p0) [] [] p1) "__init__" ap) [e] [] pos) pos', .Assign [.Attribute (.Name me p2) fld p3] (.Name par p4) pos2] scope dV kV doc pm an (.ref cda) ct cc), osl⟩)
    (hcd : PySem.W.codeIn K (.ref cda) qual = true) (S : SupS scope me par) (hfld : PySem.W.findIn K (.ref C) fld = some none)
    (hm1 : (me == ("__debug__" : Str)) = false) (hm2 : (me == ("__classdict__" : Str)) = false) (hp1 : (par == ("__debug__" : Str)) = false) (hp2 : (par == ("__classdict__" : Str)) = false)
    (SF : ∀ (A : Around) (outer : List Env) (s : Shared) (H : Hp) (E : XK), SupF (cxS CX P w K mg base [me, par] qual scope f cc (.ref cda) A outer s H E) C f cda cc me)
    (hE : ∀ (A : Around) (outer : List Env) (s : Shared) (H : Hp) (E : XK) (a : Addr) (y : V), H a = some (exo a C none) → Y y → ∃ te z, PE (cxS CX P w K mg base [me, par] qual scope f cc (.ref cda) A outer s H E) e te ∧ ∀ Q : VK, Q z H → te [some (.ref a), some y] H Q)
    (hform : ∀ env : Env, ∃ pl : Sem Bool, eval (.Call (.Attribute (.Call (.Name "super" p0) [] [] p1) "__init__" ap) [e] [] pos) env = (do
      let ov ← attributeBase (.Call (.Name "super" p0) [] [] p1) "__init__" env (eval (.Call (.Name "super" p0) [] [] p1) env)
      standAt ap.atName
      let (f, first) ← holding [ov] (getMethod ov "__init__" pl)
      callWith pos f first (backTo pos (starEach [e] env)) []))
    (hs : ∀ env : Env, starEach [e] env = (false, eval e env) :: starEach [] env) (hsw : ∀ env : Env, swapsWith (.Call (.Attribute (.Call (.Name "super" p0) [] [] p1) "__init__" ap) [e] [] pos) none pos'.line env = pure false)
    (hsw2 : ∀ env : Env, swapsWith (.Name par p4) (some (.Attribute (.Name me p2) fld p3)) pos2.line env = pure false) :
    FnOk P w K mg base CX (k + 1) f (PySem.W.ksFn name qual params [.Expr (.Call (.Attribute (.Call (.Name "super" p0) [] [] p1) "__init__" ap) [e] [] pos) pos', .Assign [.Attribute (.Name me p2) fld p3] (.Name par p4) pos2] scope dV kV doc pm an (.ref cda) ct cc) [me, par] (spInit K C fld Y) := by
  refine ⟨fun vs H Q E ⟨a, y, e, _, _⟩ => by rw [e]; rfl, fun A outer s H args us vs Q E hr e0 hb r hsp => ?_⟩
  obtain ⟨a, y, ev, hy, ea, hq⟩ := hsp
  subst ev
  obtain ⟨u1, u2, eu, r1, r2⟩ := vals2 r
  subst eu
  have KX : K.In s.heap := e0.mod.kin.keeps fun b o e => (e0.bs b o e).1
  have lim : s.heap.NoLimit := e0.mod.nolimit.keeps fun b o e => (e0.bs b o e).1
  refine PySem.ks_codeAny_call_defAt (fd := PySem.W.ksFn name qual params _ scope dV kV doc pm an (.ref cda) ct cc) (binds := [(me, u1), (par, u2)]) hr.depth (KX _ _ lk) rfl lim (PySem.W.codeRec_of KX hcd) rfl hb S.nocell (fun x hx => ?_) (fun h₀ hns hk => ?_) S.co S.gen S.kind
  · rcases List.mem_cons.mp hx with rfl | hx
    · exact S.m
    · rw [List.mem_singleton.mp hx]
      exact S.p
  have SFx := SF A outer s H E
  have I : Inv (cxS CX P w K mg base [me, par] qual scope f cc (.ref cda) A outer s H E) [] [some (.ref a), some y] H { s with heap := h₀, toks := s.toks + 2 } := inv_startS (C := C) (cd := .ref cda) S hr.hd e0 r1 r2 SFx.lcc hns hk
  obtain ⟨te, z, he, ht⟩ := hE A outer s H E a y ea hy
  obtain ⟨pl, hf⟩ := hform (cxS CX P w K mg base [me, par] qual scope f cc (.ref cda) A outer s H E).env
  have hint : interactive (cxS CX P w K mg base [me, par] qual scope f cc (.ref cda) A outer s H E).env = false := by
    unfold interactive
    show (scope.kind == ScopeKind.module && _) = false
    rw [S.kind]
    rfl
  refine PySem.ks_wpAt_execs_cons (PySem.ks_wpAt_Expr_any (env := (cxS CX P w K mg base [me, par] qual scope f cc (.ref cda) A outer s H E).env) (supinit_wp SFx T I ea rfl he ht pl (fun s' J => ?_) hf (hs _)) hint (hsw _))
  have hst := pss_one (ps_ost (X := cxS CX P w K mg base [me, par] qual scope f cc (.ref cda) A outer s H E) (o := .Name me p2) (e := .Name par p4) (f := fld) (p' := p3) (pos := pos2) (pe_var (i := 0) rfl (.inl S.m) hm1 hm2) (pe_var (i := 1) rfl (.inl S.p) hp1 hp2) (hsw2 _))
  refine wpAt_of_wpAny (wpAny_mono (hst.run [] s' _ H { nx := fun _ H' => Q .non H', rt := Q } J ?_) (fun fl s2 hs2 => ?_) fun e s2 z => z)
  · exact ⟨y, rfl, .ref a, rfl, a, C, rfl, T, hfld, .inl ⟨ea, fun dx n ne => hq dx n ne⟩⟩
  · have fin : ∀ {σ' : St} {H' : Hp} {v : V} {u : Value}, Inv (cxS CX P w K mg base [me, par] qual scope f cc (.ref cda) A outer s H E) [] σ' H' s2 → RelV v u → Q v H' → CE outer P w H s Q u s2 :=
      fun {σ' H' v u} J rv q => ⟨v, H', J.os, J.bare, J.base, J.hok, rv, q⟩
    cases fl with
    | ret u =>
      obtain ⟨v, σ', H', J, rv, q⟩ := hs2
      exact fin J rv q
    | next =>
      obtain ⟨σ', H', J, q⟩ := hs2
      exact fin (v := V.non) (u := Value.none) J rfl q
    | brk =>
      obtain ⟨_, _, _, q⟩ := hs2
      exact False.elim q
    | cont =>
      obtain ⟨_, _, _, q⟩ := hs2
      exact False.elim q
end L2

/-! DNam: the name of an error's own class, read in its __init__. -/
namespace PySem.W
open PySem PySem.Calls PyProof.Rows Builtin Builtin.ObjectAttr Builtin.Getset_descriptor
theorem own_dga (d tp : Value) (C : Addr) : descrGetArgs ⟨[d, .ref C, tp], []⟩ = pure (d, some (.ref C), given tp) := by kernel_rfl
section
variable {prog : Program} {w : World} {A : Around} {E : Value → Shared → Prop} {s : Shared} {K : Frag} {R : Result → Shared → Prop} {C : Addr}
/-- the getter finds the kept text -/
theorem own_getName {tp v : Value} {ob : Obj} (X : K.In s.heap) (ht : typeIn K (.ref C) = some (.type "type")) (ho : s.heap.get? C = some ob) (hv : ob.slots[2]? = some (some v)) (h : R (.ok (.ret v)) s) :
    codeAny (model prog w) A (.call (.builtin "getset_descriptor.__get__") ⟨[.builtin "type.__name__", .ref C, tp], []⟩) R s := by
  obtain ⟨hh, g, dr, t, os⟩ := s
  have L0 : Looks (model prog w) hh (typeOf (.ref C)) (.type "type") := looks_typeIn X ht
  have L1 : Looks (model prog w) hh (isSubtype (.type "type") (.type "type")) true := Looks.of_pure (by rw [isSubtype_type]; kernel_rfl)
  refine codeAny_call_builtin KF.slot_gs.plain KF.entry_gs (KF.slot_gs.check _ _ _ _ _ _ _ _ ktyn_type (KF.args_gs _ _ _) ?_)
  unfold Builtin.«getset_descriptor.__get__» descrGet
  rw [own_dga]
  refine wpAny_bind (wpAny_pure ?_)
  unfold descrGetter descrCheckInstance descrNameAndClass isInstance
  simp only [ktyn_owner]
  repeat lk
  refine ⟨Code.quiet_builtin _ (by decide +kernel), codeAny_builtin ktyn_entry ?_⟩
  unfold Builtin.«type.__name__»
  dsimp only
  unfold keptObject slotAt
  dsimp only
  refine wpAny_bind (wpAny_bind (wpAny_loadPart ho (wpAny_pure ?_)))
  rw [hv]
  first
    | exact wpAny_pure h
    | exact wpAny_bind (wpAny_pure h)
    | (refine wpAny_bind ?_; exact wpAny_pure (wpAny_pure h))
theorem own_name {expr : Bool} {Q : Value → Shared → Prop} {v : Value} {ob : Obj} (X : K.In s.heap) (ht : typeIn K (.ref C) = some (.type "type")) (any : nsIn K cStatics "thirdparty.any" = some none)
    (e : findCls K (.ref C) (.type "type") "__name__" = some (.get (.builtin "getset_descriptor.__get__") (.builtin "type.__name__") (.ref C) (.type "type"))) (ho : s.heap.get? C = some ob) (hv : ob.slots[2]? = some (some v)) (hs : handedIn v = true)
    (h : ∀ u, Q v { s with toks := u }) : wpAny (model prog w) A (getAttr (.ref C) "__name__" expr) Q E s := by
  have L0 : Looks (model prog w) s.heap (typeOf (.ref C)) (.type "type") := looks_typeIn X ht
  have hg : findIn K (.type "type") "__getattribute__" = some (some (.builtin "type.__getattribute__")) := type_tga
  refine cls_open X (looks_opaque X any) L0 hg (looks_hook X (r := none) (by rfl)) (by show subIn K _ _ = _; rfl) e ?_
  show wpAny _ _ (do ret (← holding [Value.builtin "type.__name__"] (call (.builtin "getset_descriptor.__get__") [.builtin "type.__name__", .ref C, .type "type"]))) _ _ _
  refine wpAny_bind (wpAny_holding (wpAny_call (own_getName (s := { s with toks := s.toks + 1 }) X ht ho hv ?_)))
  exact wpAny_pure (handed_on hs (h _))
end
end PySem.W
namespace PySem.W
open PySem PySem.Calls PyProof.Rows Builtin
section
variable {prog : Program} {w : World} {A : Around} {E : Value → Shared → Prop} {s : Shared} {K : Frag} {x C : Addr} {ox : Obj}
/-- what is known of an error's class -/
structure NamC (K : Frag) (C : Addr) : Prop where
  ga : findIn K (.ref C) "__getattribute__" = some (some (.builtin "BaseException.__getattribute__"))
  gg : findIn K (.ref C) "__getattr__" = some none
  exC : subIn K (.ref C) (.type "BaseException") = some true
  hdC : hasDictIn K C = true
  ca : findIn K (.ref C) "__class__" = some (some (.builtin "object.__class__"))
  cg : specialIn K (.builtin "object.__class__") "__get__" = some (some (.builtin "getset_descriptor.__get__"))
  ct : takesIn K (.builtin "object.__class__") = some true
  ob : mroIn K C (.type "object") = some true
  ty : typeIn K (.ref C) = some (.type "type")
  any : nsIn K cStatics "thirdparty.any" = some none
  fc : findCls K (.ref C) (.type "type") "__name__" = some (.get (.builtin "getset_descriptor.__get__") (.builtin "type.__name__") (.ref C) (.type "type"))
  nm : ∃ (o : Obj) (n : Str) (t : Tok), K.lookup C = some o ∧ o.slots[2]? = some (some (.str n t)) ∧ n.length ≤ 1000
theorem own_class (T : NamC K C) {expr : Bool} {Q : Value → Shared → Prop} (X : K.In s.heap) (I : InstAt s.heap x ox C none) (h : Q (.ref C) { s with toks := s.toks + 1 }) : wpAny (model prog w) A (getAttr (.ref x) "__class__" expr) Q E s := by
  have hf : findObj K C none "__class__" = some (.bind (.builtin "getset_descriptor.__get__") (.builtin "object.__class__")) := findObj_dataN (by obtain ⟨cd, hc, _⟩ := any_some T.hdC; rw [hc]; rfl) T.ca T.cg T.ct
  obtain ⟨hp, g, d, t, os⟩ := s
  have k0 := I.type (M := model prog w)
  have k1 := looks_findIn (M := model prog w) X T.ga
  have k2 := looks_findIn (M := model prog w) X T.gg
  have k3 := looks_find (M := model prog w) X I hf
  have kb : Looks (model prog w) hp (isInstance (.ref x) (.type "BaseException")) true := k0.andThen (looks_subIn X T.exC)
  have n0 : (expr && onTheHeap (Value.builtin "BaseException.__getattribute__")) = false := by cases expr <;> rfl
  have n1 : (onTheHeap (Value.ref C) && Value.builtin "BaseException.__getattribute__" == Value.builtin "object.__getattribute__") = false := by
    rw [show (Value.builtin "BaseException.__getattribute__" == Value.builtin "object.__getattribute__") = false by decide +kernel]
    rfl
  unfold getAttr getAttrBy
  refine wpAny_bind (wpAny_mkText (wpAny_holding (wpAny_bind (k0.at (wpAny_bind (k1.at ?_))))))
  show wpAny _ _ (if (onTheHeap (Value.ref C) && Value.builtin "BaseException.__getattribute__" == Value.builtin "object.__getattribute__") = true then _ else _) _ _ _
  rw [n1, if_neg Bool.false_ne_true]
  unfold getAttrByItsOwn hookBefore
  refine wpAny_bind ?_
  rw [if_pos (show onTheHeap (Value.ref C) = true from rfl)]
  refine k2.at (wpAny_bind (wpAny_attempt (wpAny_holding ?_)))
  unfold callGetattribute
  rw [n0, if_neg Bool.false_ne_true]
  unfold boundAndCalled
  rw [PySem.F.excAttr_ValueError.ga.bind (.ref x)]
  refine wpAny_bind (wpAny_pure ?_)
  show wpAny _ _ (call (.builtin "BaseException.__getattribute__") [.ref x, .str "__class__" t]) _ _ _
  refine wpAny_call (codeAny_call_builtin PySem.F.excAttr_ValueError.ga.plain PySem.F.entry_bexc_ga ?_)
  refine @check_slot (model prog w) _ _ ⟨hp, g, d, t + 1, os⟩ "BaseException.__getattribute__" "BaseException" "__getattribute__" (.ref x) [.str "__class__" t] [] _ (by decide +kernel) (by decide +kernel) kb (PySem.F.args_bexc_ga (.ref x) (.str "__class__" t)) ?_
  unfold Builtin.«object.__getattribute__»
  refine wpAny_bind (wpAny_of_eq (a := ((Value.ref x : Value), [Value.str "__class__" t])) (by first | rfl | (simp only [slotArgs]; rfl)) ?_)
  refine wpAny_bind (wpAny_pure (wpAny_bind (k0.at (wpAny_bind (k3.at ?_)))))
  show wpAny _ _ (holding [Value.builtin "object.__class__"] (call (.builtin "getset_descriptor.__get__") [.builtin "object.__class__", .ref x, .ref C]) >>= ret) _ _ _
  refine wpAny_bind (wpAny_holding (wpAny_call (class_get (s := ⟨hp, g, d, t + 1, os⟩) (ox := ox) (od := none) X I T.ob ?_)))
  refine wpAny_pure ?_
  show wpAny _ _ (handedOut (.ref C)) _ _ _
  rw [handedOut_of (v := .ref C) rfl]
  exact wpAny_pure h
end
end PySem.W
namespace L2
open PySem PySem.Spec PyProof.Rows
section
variable {X : Cx} {C : Addr}
/-- me.__class__.__name__, me an error without fields yet -/
theorem pe_cname (T : PySem.W.NamC X.K C) {o : Obj} {n : Str} {t : Tok} (hl : X.K.lookup C = some o) (hs : o.slots[2]? = some (some (.str n t))) {me : Str} {p p2 p3 : Pos} {i : Nat} (h0 : X.N[i]? = some me) (hv : Vis X.env.scope me) (hk : X.env.kindOf me = some .local) (hd : (me == ("__debug__" : Str)) = false)
    (hb1 : attributeBase (.Name me p) "__class__" X.env (eval (.Name me p) X.env) = eval (.Name me p) X.env := by rfl)
    (hb2 : attributeBase (.Attribute (.Name me p) "__class__" p2) "__name__" X.env (eval (.Attribute (.Name me p) "__class__" p2) X.env) = eval (.Attribute (.Name me p) "__class__" p2) X.env := by rfl)
    (hn : PE X (.Name me p) (fun σ H Q => ∃ v, σ[i]? = some (some v) ∧ Q v H)) :
    PE X (.Attribute (.Attribute (.Name me p) "__class__" p2) "__name__" p3) (fun σ H Q => ∃ a, σ[i]? = some (some (.ref a)) ∧ H a = some (exo a C none) ∧ Q (.str n) H) := by
  refine ⟨fun pins s σ H Q I ⟨a, e0, ea, q⟩ => ?_⟩
  refine attr_of hb2 (attr_of hb1 (thn (hn.run pins s σ H (fun v H1 => v = .ref a ∧ H1 = H) I ⟨_, e0, rfl, rfl⟩) fun u s1 ⟨x, H1, I1, rx, ex, eH⟩ => ?_))
  subst ex eH
  obtain rfl : u = Value.ref a := rx
  obtain ⟨t1, ho⟩ := exo_at I1.hok ea
  have J : PySem.W.InstAt s1.heap a _ C none := ⟨ho, rfl, rfl, trivial⟩
  refine PySem.W.own_class T I1.kIn J ?_
  exact PySem.W.own_name (s := { s1 with toks := s1.toks + 1 }) I1.kIn T.ty T.any T.fc (I1.kIn _ _ hl) hs rfl fun u => ⟨.str n, H1, I1.tok u, ⟨t, rfl⟩, q⟩
end
end L2

/-! DExc: readings that may let an error out: they bear what is wished of it. -/
namespace DL
open PySem PySem.Spec PyProof.Rows L2
variable [Tbs]
abbrev WD := XD → Sto → Prop
abbrev WD.le (W W' : WD) : Prop := ∀ x cs, W x cs → W' x cs
section
variable (K : PySem.W.Frag) (Wl : XK)
def lowEX (w : WD → WE) : TE := fun σ H Q => ∃ g cs env, Sr K g cs H ∧ Lr K g env σ ∧ w (upX K g Wl) env cs (upV K g Q)
def lowAX (w : WD → WA) : TA := fun σ H Q => ∃ g cs env, Sr K g cs H ∧ Lr K g env σ ∧ w (upX K g Wl) env cs (upA K g Q)
def lowSX (w : WD → WS) : TS := fun D σ H => ∃ g cs env, Sr K g cs H ∧ Lr K g env σ ∧ w (upX K g Wl) (upN K g D) env cs
end
abbrev TakesX (X : Cx) (Wl : XK) : Prop := L2.Takes X fun c d _ H => Wl c d H
abbrev MonoEX (w : WD → WE) : Prop := ∀ W W' env cs Q Q', WD.le W W' → (∀ d cs, Q d cs → Q' d cs) → w W env cs Q → w W' env cs Q'
abbrev MonoAX (w : WD → WA) : Prop := ∀ W W' env cs Q Q', WD.le W W' → (∀ ds cs, Q ds cs → Q' ds cs) → w W env cs Q → w W' env cs Q'
abbrev MonoSX (w : WD → WS) : Prop := ∀ W W' E E' env cs, WD.le W W' → DN.le E E' → w W E env cs → w W' E' env cs
structure DEX (X : Cx) (e : Expr) (w : WD → WE) : Prop where
  pe : ∀ Wl, TakesX X Wl → PE X e (lowEX X.K Wl w)
  mo : MonoEX w
structure DAX (X : Cx) (es : List Expr) (w : WD → WA) : Prop where
  pe : ∀ Wl, TakesX X Wl → PA X es (lowAX X.K Wl w)
  mo : MonoAX w
structure DSX (X : Cx) (st : Stmt) (w : WD → WS) : Prop where
  pe : ∀ Wl, TakesX X Wl → PS X st (lowSX X.K Wl w)
  mo : MonoSX w
structure DSsX (X : Cx) (st : List Stmt) (w : WD → WS) : Prop where
  pe : ∀ Wl, TakesX X Wl → PSs X st (lowSX X.K Wl w)
  mo : MonoSX w
section
variable {K : PySem.W.Frag} {g g' : G} {cs : Sto} {H : Hp} {env : En} {σ : L2.St} {Wl : XK} {W : WD}
theorem upX.mono (e : Ext g g') {x : XD} (h : upX K g Wl x cs) : upX K g' Wl x cs := fun g2 H d ws e2 => h g2 H d ws (e.trans e2)
theorem leX (e : Ext g g') : WD.le (upX K g Wl) (upX K g' Wl) := fun x cs h => upX.mono e h
theorem lowEX.go {w : WD → WE} (m : MonoEX w) {P : PD} {R : VK} (s : Sr K g cs H) (l : Lr K g env σ) (h : w W env cs P) (hW : WD.le W (upX K g Wl)) (k : ∀ d cs' g' H' v, P d cs' → Ext g g' → Sr K g' cs' H' → Rep K g' d v → R v H') : lowEX K Wl w σ H R :=
  ⟨g, cs, env, s, l, m _ _ env cs P _ hW (fun d cs' p g' H' v e s' r => k d cs' g' H' v p e s' r) h⟩
theorem lowAX.go {w : WD → WA} (m : MonoAX w) {P : List D → Sto → Prop} {R : List V → Hp → Prop} (s : Sr K g cs H) (l : Lr K g env σ) (h : w W env cs P) (hW : WD.le W (upX K g Wl)) (k : ∀ ds cs' g' H' vs, P ds cs' → Ext g g' → Sr K g' cs' H' → RepL K g' ds vs → R vs H') : lowAX K Wl w σ H R :=
  ⟨g, cs, env, s, l, m _ _ env cs P _ hW (fun d cs' p g' H' v e s' r => k d cs' g' H' v p e s' r) h⟩
theorem lowSX.go {w : WD → WS} (m : MonoSX w) {E : DN} {D : Ends} (s : Sr K g cs H) (l : Lr K g env σ) (h : w W E env cs) (hW : WD.le W (upX K g Wl)) (le : DN.le E (upN K g D)) : lowSX K Wl w D σ H :=
  ⟨g, cs, env, s, l, m _ _ E _ env cs hW le h⟩
end
section
variable {X : Cx} {a b c : Expr} {pos : Pos} {st : Stmt} {rest : List Stmt} {es : List Expr}
/-! ### what never raises -/
theorem dex_of {w : WE} (h : DE X a w) : DEX X a fun _ => w :=
  ⟨fun Wl _ => PE.imp h.pe fun σ H Q ⟨g, cs, env, s, l, q⟩ => ⟨g, cs, env, s, l, q⟩, fun _ _ env cs Q Q' _ hq q => h.mo env cs Q Q' hq q⟩
theorem dax_of {w : WA} (h : DA X es w) : DAX X es fun _ => w :=
  ⟨fun Wl _ => PA.imp h.pe fun σ H Q ⟨g, cs, env, s, l, q⟩ => ⟨g, cs, env, s, l, q⟩, fun _ _ env cs Q Q' _ hq q => h.mo env cs Q Q' hq q⟩
theorem dsx_of {w : WS} (h : DS X st w) : DSX X st fun _ => w :=
  ⟨fun Wl _ => PS.imp h.pe fun D σ H ⟨g, cs, env, s, l, q⟩ => ⟨g, cs, env, s, l, q⟩, fun _ _ E E' env cs _ hE q => h.mo E E' env cs hE q⟩
theorem dssx_of {sts : List Stmt} {w : WS} (h : DSs X sts w) : DSsX X sts fun _ => w :=
  ⟨fun Wl _ => PSs.imp h.pe fun D σ H ⟨g, cs, env, s, l, q⟩ => ⟨g, cs, env, s, l, q⟩, fun _ _ E E' env cs _ hE q => h.mo E E' env cs hE q⟩
/-! ### arguments -/
def wConsX (wa : WD → WE) (wr : WD → WA) : WD → WA := fun W env cs Q => wa W env cs fun d cs1 => wr W env cs1 fun ds cs2 => Q (d :: ds) cs2
theorem dax_cons {wa : WD → WE} {wr : WD → WA} (ha : DEX X a wa) (hr : DAX X es wr) (he : starEach (a :: es) X.env = (false, eval a X.env) :: starEach es X.env := by rfl) : DAX X (a :: es) (wConsX wa wr) :=
  ⟨fun Wl tk => PA.imp (pa_cons (ha.pe Wl tk) (hr.pe Wl tk) he) fun σ H Q ⟨g, cs, env, s, l, h⟩ => lowEX.go ha.mo s l h (fun _ _ q => q) fun d cs1 g1 H1 v h1 e1 s1 r1 => lowAX.go hr.mo s1 (l.mono e1) h1 (leX e1) fun ds cs2 g2 H2 vs h2 e2 s2 r2 =>
      h2 g2 H2 (v :: vs) (e1.trans e2) s2 (.cons (r1.mono e2) r2),
    fun W W' env cs Q Q' hW hq q => ha.mo W W' env cs _ _ hW (fun d cs1 q => hr.mo W W' env cs1 _ _ hW (fun ds cs2 q => hq _ _ q) q) q⟩
/-! ### a call that may raise -/
def wCallX (s : FSpec) (wa : WD → WA) : WD → WE := fun W env cs Q => wa W env cs fun ds cs1 => ∃ i, ds = s.args i ∧ s.pre i cs1 ∧ (∀ d cs', s.res i cs1 d cs' → Q d cs') ∧ ∀ x cs', s.exc i cs1 x cs' → W x cs'
theorem dex_call {k : Nat} {f : Addr} {fd : FuncData} {ps : List Str} {s : FSpec} {x : Str} {p : Pos} {e : Expr} {wa : WD → WA} (F : FnG X.prog X.w X.K X.mg X.base (L2.CX X.prog X.w) k f fd ps (dSp X.K s)) (hr : RoomG k X.A) (hm : X.mg x = some (.ref f)) (hk : PySem.W.keepIn X.K (.ref f) = true) (hb : Binds X.K fd ps []) (ha : DAX X (e :: es) wa)
    (hg : Gl X x := by rfl) (hdb : (x == ("__debug__" : Str)) = false := by decide) (he : starEach (e :: es) X.env = (false, eval e X.env) :: starEach es X.env := by rfl) (hpl : (backTo pos (starEach es X.env)).any (·.1) = false := by rfl) : DEX X (.Call (.Name x p) (e :: es) [] pos) (wCallX s wa) :=
  ⟨fun Wl tk => PE.imp (peG_call (E := Wl) F hr hg hm hk hb (L2.passes_call tk fun _ _ _ _ h => h) (ha.pe Wl tk) hdb he hpl) fun σ H Q ⟨g, cs, env, sr, l, h⟩ => lowAX.go ha.mo sr l h (fun _ _ q => q) fun ds cs1 g1 H1 vs ⟨i, e2, hp, q1, q2⟩ e1 s1 r1 => by
    subst e2
    show dSp X.K s (vs ++ []) H1 Q Wl
    rw [List.append_nil]
    exact ⟨g1, cs1, i, s1, r1, hp, fun d cs' z => upV.mono e1 (q1 d cs' z), fun x cs' z => upX.mono e1 (q2 x cs' z)⟩,
    fun W W' env cs Q Q' hW hq q => ha.mo W W' env cs _ _ hW (fun ds cs1 ⟨i, e, p, q1, q2⟩ => ⟨i, e, p, fun d cs' z => hq _ _ (q1 d cs' z), fun x cs' z => hW _ _ (q2 x cs' z)⟩) q⟩
/-! ### statements -/
def wSeqX (w u : WD → WS) : WD → WS := fun W E env cs => w W { E with nx := fun env' cs' => u W E env' cs' } env cs
theorem dssx_one {w : WD → WS} (h : DSX X st w) : DSsX X [st] w := ⟨fun Wl tk => pss_one (h.pe Wl tk), h.mo⟩
theorem dssx_cons {w u : WD → WS} (h1 : DSX X st w) (h2 : DSsX X rest u) : DSsX X (st :: rest) (wSeqX w u) :=
  ⟨fun Wl tk => PSs.imp (pss_cons (h1.pe Wl tk) (h2.pe Wl tk)) fun D σ H ⟨g, cs, env, s, l, h⟩ => by
      refine lowSX.go h1.mo s l h (fun _ _ q => q) ⟨fun env' cs' q g' H' σ' e s' l' => ?_, fun _ _ q => q, fun _ _ q => q, fun _ _ q => q⟩
      exact lowSX.go h2.mo s' l' q (leX e) (upN.mono e D),
    fun W W' E E' env cs hW h q => h1.mo W W' { E with nx := fun env' cs' => u W E env' cs' } { E' with nx := fun env' cs' => u W' E' env' cs' } env cs hW ⟨fun env cs q => h2.mo W W' E E' env cs hW h q, h.rt, h.bk, h.ct⟩ q⟩
def wIfX (t : WT) (w u : WD → WS) : WD → WS := fun W E env cs => t env cs fun b cs1 => if b = true then w W E env cs1 else u W E env cs1
theorem dsx_if {t : WT} {p q : List Stmt} {w u : WD → WS} (hc : DT X c t) (hp : DSsX X p w) (hq : DSsX X q u) : DSX X (.If c p q pos) (wIfX t w u) :=
  ⟨fun Wl tk => PS.imp (ps_if hc.pe (hp.pe Wl tk) (hq.pe Wl tk)) fun D σ H ⟨g, cs, env, s, l, h⟩ => lowT.go hc.mo s l h fun k cs1 g1 H1 h1 e1 s1 => ite_mono (fun h1 => lowSX.go hp.mo s1 (l.mono e1) h1 (leX e1) (upN.mono e1 D)) (fun h1 => lowSX.go hq.mo s1 (l.mono e1) h1 (leX e1) (upN.mono e1 D)) h1,
    fun W W' E E' env cs hW h x => hc.mo env cs _ _ (fun k cs1 q1 => ite_mono (fun y => hp.mo W W' _ _ _ _ hW h y) (fun y => hq.mo W W' _ _ _ _ hW h y) q1) x⟩
def wDropX (we : WD → WE) : WD → WS := fun W E env cs => we W env cs fun _ cs' => E.nx env cs'
theorem dsx_expr {wa : WD → WE} (he : DEX X a wa) (hs : swapsWith a none pos.line X.env = pure false := by rfl) : DSX X (.Expr a pos) (wDropX wa) :=
  ⟨fun Wl tk => PS.imp (ps_expr (he.pe Wl tk) hs) fun D σ H ⟨g, cs, env, s, l, h⟩ => lowEX.go he.mo s l h (fun _ _ q => q) fun d cs1 g1 H1 v1 h1 e1 s1 r1 => h1 g1 H1 σ e1 s1 (l.mono e1),
    fun W W' E E' env cs hW h q => he.mo W W' env cs _ _ hW (fun _ _ q => h.nx _ _ q) q⟩
def wRetX (we : WD → WE) : WD → WS := fun W E env cs => we W env cs E.rt
theorem dsx_ret {wa : WD → WE} (he : DEX X a wa) : DSX X (.Return (some a) pos) (wRetX wa) :=
  ⟨fun Wl tk => PS.imp (ps_ret (he.pe Wl tk)) fun D σ H ⟨g, cs, env, s, l, h⟩ => lowEX.go he.mo s l h (fun _ _ q => q) fun d cs1 g1 H1 v1 h1 e1 s1 r1 => h1 g1 H1 v1 e1 s1 r1,
    fun W W' E E' env cs hW h q => he.mo W W' env cs _ _ hW (fun _ _ q => h.rt _ _ q) q⟩
def wSetX (i : Nat) (we : WD → WE) : WD → WS := fun W E env cs => we W env cs fun d cs' => E.nx (env.set i (some d)) cs'
theorem dsx_set {i : Nat} {x : Str} {pos' : Pos} {wa : WD → WE} (hN : X.N.Nodup) (he : DEX X a wa) (hi : X.N[i]? = some x := by rfl) (hx : Loc X.env.scope x := by first | exact Or.inl rfl | exact Or.inr rfl) (hs : swapsWith a (some (.Name x pos')) pos.line X.env = pure false := by rfl) (hf : X.fn x = true ∨ X.env.scope.names.lookup x = some .local := by first | exact .inl rfl | exact .inr rfl | assumption) :
    DSX X (.Assign [.Name x pos'] a pos) (wSetX i wa) :=
  ⟨fun Wl tk => PS.imp (ps_set hN hi hx (he.pe Wl tk) hs hf) fun D σ H ⟨g, cs, env, s, l, h⟩ => lowEX.go he.mo s l h (fun _ _ q => q) fun d cs1 g1 H1 v1 h1 e1 s1 r1 => h1 g1 H1 _ e1 s1 ((l.mono e1).set r1),
    fun W W' E E' env cs hW h q => he.mo W W' env cs _ _ hW (fun _ _ q => h.nx _ _ q) q⟩
theorem dsx_never : DSX X st fun _ => wNever := dsx_of ds_never
end
section
variable {P : Program} {w : World} {K : PySem.W.Frag} {mg : Str → Option Value} {base : Heap}
/-- the contract of a def that may raise -/
theorem dfunX {k : Nat} {f : Addr} {name qual : Str} {st : Stmt} {fd : FuncData} {N ps : List Str} {sp : FSpec} (F : Fun K name qual st f fd) (S : FnScope N ps (defScope st)) (len : ∀ i, (sp.args i).length = ps.length)
    (h : ∀ (cdv : Value) (A : Around) (outer : List PySem.Env) (s : Shared) (H : Hp) (E : XK), RoomG k (A.deeper (envOfC qual (defScope st) s.heap.objs.size f cdv)) →
      PassesOwn (model P w) (A.deeper (envOfC qual (defScope st) s.heap.objs.size f cdv)) (envOfC qual (defScope st) s.heap.objs.size f cdv) (cxOf (L2.CX P w) P w K mg base N qual (defScope st) f cdv A outer s H E).xe →
      ∃ wS, DSsX (cxOf (L2.CX P w) P w K mg base N qual (defScope st) f cdv A outer s H E) (defBody st) wS ∧
      ∀ i cs, sp.pre i cs → wS (fun x cs' => sp.exc i cs x cs') { nx := fun _ cs' => sp.res i cs .non cs', rt := fun d cs' => sp.res i cs d cs' } (startE N.length (sp.args i)) cs) : FnG P w K mg base (L2.CX P w) (k + 1) f fd ps (dSp K sp) := by
  refine fnG_of F S (fun vs H Q E ⟨g, cs, i, _, r, _⟩ => r.length.symm.trans (len i)) fun cdv A outer s H vs Q E hr ⟨g, cs, i, sr, r, hp, hq, hx⟩ => ?_
  obtain ⟨wS, hd, hw⟩ := h cdv A outer s H E hr (L2.passes_of rfl)
  refine ⟨_, hd.pe E (L2.takes_of rfl rfl rfl rfl), g, cs, startE N.length (sp.args i), sr, Lr.start r, hd.mo _ _ { nx := fun _ cs' => sp.res i cs .non cs', rt := fun d cs' => sp.res i cs d cs' } _ _ _ (fun x cs' z => hx x cs' z) ⟨fun env cs' q g' H' σ e s' l => ?_, fun d cs' q => hq d cs' q, fun _ _ z => (show False from z).elim, fun _ _ z => (show False from z).elim⟩ (hw i cs hp)⟩
  exact hq .non cs' q g' H' .non e s' rfl
end
end DL

/-! DRse: raise of an own error with one field «part». -/
namespace L2
open PySem PySem.Spec PyProof.Rows
/-- the body of such an __init__ -/
abbrev partBody (p0 p1 ap q1 q2 q3 q4 q5 q6 q7 q8 pos pos' p2 p3 p4 pos2 : Pos) (j : Nat) : List Stmt :=
  [.Expr (.Call (.Attribute (.Call (.Name "super" p0) [] [] p1) "__init__" ap) [.JoinedStr [.FormattedValue (.Name "part" q1) (-1) none q2, .Constant (.str ": ") j q3, .FormattedValue (.Attribute (.Attribute (.Name "self" q4) "__class__" q5) "__name__" q6) (-1) none q7] q8] [] pos) pos',
   .Assign [.Attribute (.Name "self" p2) "part" p3] (.Name "part" p4) pos2]
def isShort : V → Prop := fun y => ∃ z : Str, y = .str z ∧ z.length ≤ 1000
/-- the call in it, opened (its places tell how it goes) -/
abbrev CallForm (p0 p1 ap q1 q2 q3 q4 q5 q6 q7 q8 pos : Pos) (j : Nat) : Prop := ∀ env : Env, ∃ pl : Sem Bool, eval (.Call (.Attribute (.Call (.Name "super" p0) [] [] p1) "__init__" ap) [.JoinedStr [.FormattedValue (.Name "part" q1) (-1) none q2, .Constant (.str ": ") j q3, .FormattedValue (.Attribute (.Attribute (.Name "self" q4) "__class__" q5) "__name__" q6) (-1) none q7] q8] [] pos) env = (do
      let ov ← attributeBase (.Call (.Name "super" p0) [] [] p1) "__init__" env (eval (.Call (.Name "super" p0) [] [] p1) env)
      standAt ap.atName
      let (f, first) ← holding [ov] (getMethod ov "__init__" pl)
      callWith pos f first (backTo pos (starEach [.JoinedStr [.FormattedValue (.Name "part" q1) (-1) none q2, .Constant (.str ": ") j q3, .FormattedValue (.Attribute (.Attribute (.Name "self" q4) "__class__" q5) "__name__" q6) (-1) none q7] q8] env)) [])
/-- what the written part says of such a class -/
structure ErrF (P : Program) (K : PySem.W.Frag) (mg : Str → Option Value) (C f : Addr) (fd : FuncData) : Prop where
  T : OexC K C
  N : PySem.W.NamC K C
  ini : PySem.W.findIn K (.ref C) "__init__" = some (some (.ref f))
  ifn : PySem.W.typeIn K (.ref f) = some (.type "function")
  npart : PySem.W.findIn K (.ref C) "part" = some none
  own : PySem.W.mroIn K C (.ref C) = some true
  sup : PySem.W.ks_superIn K C C "__init__" = some (some (.builtin "ValueError.__init__"))
  exV : PySem.W.subIn K (.ref C) (.type "ValueError") = some true
  msup : mg "super" = none
  top : (P.main.scope.names.lookup ("super" : Str)).isSome = false
  co : ∃ (cda cc : Addr) (oc : Obj) (vs : Array Value) (file : Str) (tf : Tok) (qual : Str) (params : Arguments) (scope : Scope) (dV kV doc pm ct o : Value) (an od : Option Addr) (osl : Array (Option Value)) (p0 p1 ap q1 q2 q3 q4 q5 q6 q7 q8 pos pos' p2 p3 p4 pos2 : Pos) (j : Nat) (ar : Arg),
    fd = PySem.W.ksFn "__init__" qual params (partBody p0 p1 ap q1 q2 q3 q4 q5 q6 q7 q8 pos pos' p2 p3 p4 pos2 j) scope dV kV doc pm an (.ref cda) ct cc ∧
    K.lookup f = some ⟨o, od, .func fd, osl⟩ ∧ PySem.W.codeIn K (.ref cda) qual = true ∧ SupS scope "self" "part" ∧ scope.names.lookup ("super" : Str) = some .globalImplicit ∧ scope.names.lookup ("__class__" : Str) = some .free ∧
    (params.posonlyargs ++ params.args).head? = some ar ∧ ar.arg = "self" ∧ K.lookup cda = some oc ∧ oc.data = .fields vs ∧ vs[2]? = some (.str file tf) ∧ ((P.main.file : Str) == file) = true ∧
    (∃ oc : Obj, K.lookup cc = some oc ∧ oc.data = .cell (some (.ref C))) ∧ CallForm p0 p1 ap q1 q2 q3 q4 q5 q6 q7 q8 pos j
section
variable {P : Program} {w : World} {K : PySem.W.Frag} {mg : Str → Option Value} {base : Heap} {C f : Addr} {fd : FuncData}
theorem ErrF.ok {CX : CXT} (e : ErrF P K mg C f fd) (k : Nat) : FnOk P w K mg base CX (k + 1) f fd ["self", "part"] (spInit K C "part" isShort) := by
  obtain ⟨cda, cc, oc, vs, file, tf, qual, params, scope, dV, kV, doc, pm, ct, o, an, od, osl, p0, p1, ap, q1, q2, q3, q4, q5, q6, q7, q8, pos, pos', p2, p3, p4, pos2, j, ar, rfl, lk, hcd, S, s1, s2, h1, h2, l1, l2, l3, l4, l5, hfo⟩ := e.co
  refine fn_ofS e.T lk hcd S e.npart (by decide) (by decide) (by decide) (by decide) (fun A outer s H E => ?_) (fun A outer s H E a y ea hy => ?_) hfo (fun env => rfl) (fun env => rfl) (fun env => rfl)
  · exact ⟨s1, s2, S.m, rfl, ⟨_, _, ar, lk, rfl, h1, h2⟩, rfl, ⟨oc, vs, file, tf, l1, l2, l3, l4⟩, e.top, by show ([("__class__", cc)] : List (Str × Addr)).lookup _ = _; rw [List.lookup_cons]; simp, l5, rfl, e.msup, by decide +kernel, e.own, e.sup, e.exV, e.N.any⟩
  · obtain ⟨z, rfl, hz⟩ := hy
    obtain ⟨o', n, t, hl, hs, hn⟩ := e.N.nm
    let X := cxS CX P w K mg base ["self", "part"] qual scope f cc (.ref cda) A outer s H E
    have k1 : PE X (.Name "part" q1) (fun σ H Q => ∃ v, σ[1]? = some (some v) ∧ Q v H) := pe_var (i := 1) rfl (.inl S.p) (by decide) (by decide)
    have k0 : PE X (.Name "self" q4) (fun σ H Q => ∃ v, σ[0]? = some (some v) ∧ Q v H) := pe_var (i := 0) rfl (.inl S.m) (by decide) (by decide)
    have kn := pe_cname (X := X) (C := C) e.N hl hs (me := "self") (p := q4) (p2 := q5) (p3 := q6) (i := 0) rfl (.inl S.m) S.m (by decide) rfl rfl k0
    have z1 : (Str.empty ++ z).length = z.length := by
      rw [Str.length_append]
      exact Nat.zero_add _
    have z2 : (Str.empty ++ z ++ (": " : Str)).length = z.length + 2 := by
      rw [Str.length_append, z1]
      rfl
    have z3 : (Str.empty ++ z ++ (": " : Str) ++ n).length = z.length + 2 + n.length := by
      rw [Str.length_append, z2]
    refine ⟨_, V.str (Str.empty ++ z ++ (": " : Str) ++ n), pe_joined (.cons (pe_fmt k1) (.cons pe_str (.cons (pe_fmt kn) .nil))), fun Q q => ?_⟩
    refine ⟨.str z, rfl, .inl ⟨z, rfl, by rw [sizeLine_eq]; omega, z, rfl, by rw [z1, sizeLine_eq]; omega, ?_⟩⟩
    refine ⟨(": " : Str), rfl, by rw [z2, sizeLine_eq]; omega, ?_⟩
    refine ⟨a, rfl, ea, .inl ⟨n, rfl, by rw [sizeLine_eq]; omega, n, rfl, by rw [z3, sizeLine_eq]; omega, q⟩⟩
end
end L2
namespace L2
open PySem PySem.Spec PyProof.Rows DL
/-- what the text says of such an __init__ -/
structure PartSt (st : Stmt) : Prop where
  bd : ∃ (p0 p1 ap q1 q2 q3 q4 q5 q6 q7 q8 pos pos' p2 p3 p4 pos2 : Pos) (j : Nat), defBody st = partBody p0 p1 ap q1 q2 q3 q4 q5 q6 q7 q8 pos pos' p2 p3 p4 pos2 j ∧ CallForm p0 p1 ap q1 q2 q3 q4 q5 q6 q7 q8 pos j
  sc : SupS (defScope st) "self" "part"
  s1 : (defScope st).names.lookup ("super" : Str) = some .globalImplicit
  s2 : (defScope st).names.lookup ("__class__" : Str) = some .free
  ar : ∃ ar : Arg, ((defArgs st).posonlyargs ++ (defArgs st).args).head? = some ar ∧ ar.arg = "self"
theorem errF_mk {P : Program} {K : PySem.W.Frag} {mg : Str → Option Value} {C f cda cc N : Addr} {nm q qual n file : Str} {t tf : Tok} {bs bm sub : List Value} {sn : List Str} {ab : Bool} {col : Option Bool} {dd an od d1 d2 : Option Addr} {k0 k1 k3 k5 : Option Value} {o dV kV doc pm ct c1 c2 : Value} {osl s1 s2 : Array (Option Value)} {vs : Array Value} {st : Stmt} (S : PartSt st)
    (lC : K.lookup C = some (excClassObj nm q C N bs bm true sn sub ab col dd k0 k1 (some (.str n t)) k3 k5 "ValueError.__new__")) (hbm : PySem.HandSPX.refsVE bm = true) (hn : n.length ≤ 1000)
    (sa : PySem.W.findIn K (.ref C) "__setattr__" = some (some (.builtin "object.__setattr__"))) (exC : PySem.W.subIn K (.ref C) (.type "BaseException") = some true) (ty : PySem.W.typeIn K (.ref C) = some (.type "type")) (kC : PySem.W.keepIn K (.ref C) = true)
    (ga : PySem.W.findIn K (.ref C) "__getattribute__" = some (some (.builtin "BaseException.__getattribute__"))) (gg : PySem.W.findIn K (.ref C) "__getattr__" = some none) (hdC : PySem.W.hasDictIn K C = true) (ca : PySem.W.findIn K (.ref C) "__class__" = some (some (.builtin "object.__class__")))
    (cg : PySem.W.specialIn K (.builtin "object.__class__") "__get__" = some (some (.builtin "getset_descriptor.__get__"))) (ctk : PySem.W.takesIn K (.builtin "object.__class__") = some true) (ob : PySem.W.mroIn K C (.type "object") = some true) (any : PySem.W.nsIn K cStatics "thirdparty.any" = some none)
    (fc : PySem.W.findCls K (.ref C) (.type "type") "__name__" = some (.get (.builtin "getset_descriptor.__get__") (.builtin "type.__name__") (.ref C) (.type "type")))
    (ini : PySem.W.findIn K (.ref C) "__init__" = some (some (.ref f))) (ifn : PySem.W.typeIn K (.ref f) = some (.type "function")) (npart : PySem.W.findIn K (.ref C) "part" = some none) (own : PySem.W.mroIn K C (.ref C) = some true)
    (sup : PySem.W.ks_superIn K C C "__init__" = some (some (.builtin "ValueError.__init__"))) (exV : PySem.W.subIn K (.ref C) (.type "ValueError") = some true) (msup : mg "super" = none) (top : (P.main.scope.names.lookup ("super" : Str)).isSome = false)
    (lf : K.lookup f = some ⟨o, od, .func (PySem.W.ksFn "__init__" qual (defArgs st) (defBody st) (defScope st) dV kV doc pm an (.ref cda) ct cc), osl⟩) (cf : PySem.W.codeIn K (.ref cda) qual = true) (lcd : K.lookup cda = some ⟨c1, d1, .fields vs, s1⟩) (hvs : vs[2]? = some (.str file tf)) (hfile : ((P.main.file : Str) == file) = true)
    (lcc : K.lookup cc = some ⟨c2, d2, .cell (some (.ref C)), s2⟩) : ErrF P K mg C f (PySem.W.ksFn "__init__" qual (defArgs st) (defBody st) (defScope st) dV kV doc pm an (.ref cda) ct cc) := by
  obtain ⟨⟨p0, p1, ap, q1, q2, q3, q4, q5, q6, q7, q8, pos, pos', p2, p3, p4, pos2, j, eb, hf⟩, hs, h1, h2, ar, h3, h4⟩ := S
  rw [eb] at lf ⊢
  exact ⟨⟨⟨_, _, _, _, _, _, _, _, _, _, _, _, _, _, _, lC, hbm⟩, sa, exC, ty, kC⟩, ⟨ga, gg, exC, hdC, ca, cg, ctk, ob, ty, any, fc, _, n, t, lC, rfl, hn⟩, ini, ifn, npart, own, sup, exV, msup, top,
    cda, cc, _, vs, file, tf, qual, defArgs st, defScope st, dV, kV, doc, pm, ct, o, an, od, osl, p0, p1, ap, q1, q2, q3, q4, q5, q6, q7, q8, pos, pos', p2, p3, p4, pos2, j, ar, rfl, lf, cf, hs, h1, h2, h3, h4, lcd, rfl, hvs, hfile, ⟨_, lcc, rfl⟩, hf⟩
end L2
namespace DL
open PySem PySem.Spec PyProof.Rows L2
variable [Tbs]
/-- raise x(e), x an own error with the one field part -/
def wRaise (C : Addr) (wa : WE) : WD → WS := fun W E env cs => wa env cs fun d cs1 => ∃ z : Str, d = .str z ∧ z.length ≤ 1000 ∧ W ⟨C, [("part", .str z)]⟩ cs1
theorem dsx_raise {X : Cx} {C f : Addr} {fd : FuncData} {x : Str} {p pos pos' : Pos} {e : Expr} {wa : WE} (F : ErrF X.prog X.K X.mg C f fd) (hb : Binds X.K fd ["self", "part"] []) (hm : X.mg x = some (.ref C)) (hc : X.calm = true) (hr : Room 2 X.A) (ha : DE X e wa)
    (hg : Gl X x := by rfl) (hdb : (x == ("__debug__" : Str)) = false := by decide) (he : starEach (e :: []) X.env = (false, eval e X.env) :: starEach [] X.env := by rfl) (hpl : (backTo pos' (starEach [] X.env)).any (·.1) = false := by rfl) :
    DSX X (.Raise (some (.Call (.Name x p) [e] [] pos')) none pos) (wRaise C wa) := by
  refine ⟨fun Wl tk => PS.imp (ps_raise (W := fun c d _ H => Wl c d H) hc tk (pmk_oex (dvs := []) F.T F.ini F.ifn (F.ok 0) hr hb .nil pass0 hg hm (pa_cons ha.pe pa_nil he) hdb he hpl)) fun D σ H ⟨g, cs, env, s, l, h⟩ => ?_,
    fun W W' E E' env cs hW hE q => ha.mo env cs _ _ (fun d cs1 ⟨z, e1, e2, e3⟩ => ⟨z, e1, e2, hW _ _ e3⟩) q⟩
  refine lowE.go ha.mo s l h fun d cs1 g1 H1 v ⟨z, ed, hz, hw⟩ e1 s1 r1 => ?_
  subst ed
  obtain rfl : v = V.str z := r1
  refine ⟨by show 1 ≤ 1000; decide, fun a na => ⟨a, .str z, rfl, ⟨z, rfl, hz⟩, upd_same, fun dx ndx nda => ?_⟩⟩
  have n1 : H1 dx = none := by rw [upd_ne nda] at ndx; exact ndx
  refine ⟨rfl, dx, [("part", .str z)], upd_same, by rw [upd_ne nda, upd_same], n1, ?_⟩
  have eH : upd (del (upd (upd (upd H1 a (exo a C none)) dx (exd dx [("part", V.str z)])) a (exo a C (some dx))) a) dx (.xd [("part", V.str z)]) = upd H1 dx (.xd [("part", V.str z)]) := by
    funext b
    by_cases hb : b = dx
    · rw [hb, upd_same, upd_same]
    · rw [upd_ne hb, upd_ne hb]
      by_cases hba : b = a
      · rw [hba, del_same, na]
      · rw [del_ne hba, upd_ne hba, upd_ne hb, upd_ne hba]
  rw [eH]
  exact hw (g1.add dx (.xd [("part", V.str z)])) _ dx _ (e1.trans (Ext.add s1 n1 _)) (Sr.add s1 n1 _) upd_same ⟨_, _, rfl, rfl, rfl⟩
end DL

/-! DTry: try with except clauses, named or not; a caught error stays a value. -/
namespace L2
open PySem PySem.Spec PyProof.Rows DL
section
variable {X : Cx} {pins : List (Addr × Obj)} {σ : St} {H : Hp} {sI s s' : Shared} {B : Heap} {a C d : Addr}
theorem Inv.suiteE (I : Inv X pins σ H s) (a : Addr) : Inv (X.suite a (X.pn ++ pins)) [] σ H s :=
  ⟨I.ok.suite _ _, I.os, I.bare, I.base, I.loc, I.cell, I.free, I.freeC, fun p hp => I.pin p (by rw [List.append_nil] at hp; exact hp), I.hok, I.len⟩
theorem Inv.unsuiteE {pn' : List (Addr × Obj)} (I : Inv (X.suite a (X.pn ++ pins)) pn' σ H s) (ok : X.Ok) : Inv X pins σ H s :=
  ⟨ok, I.os, I.bare, I.base, I.loc, I.cell, I.free, I.freeC, fun p hp => I.pin p (List.mem_append_left _ hp), I.hok, I.len⟩
theorem errO_ne (o : HO) (h : ∀ p, o ≠ .ext p) : errO a C d ≠ o := fun z => h _ (by rw [← z]; rfl)
/-- back on the ground, the error known from now on -/
theorem Inv.landedE (I : Inv X pins σ H sI) (nb : ∀ b o, sI.heap.get? b = some o → b ∉ frs X.stack → B.get? b = some o) (st : B.StaysIn s'.heap) (up : sI.heap.UpToSlots s'.heap) (os : s'.os = sI.os) (ag : AllBare s'.gens)
    (nB : B.get? a = none) (nfr : a ∉ frs X.stack) (na : H a = none) (ho : ∃ (o : Obj) (vs : Array Value), s'.heap.get? a = some o ∧ o.cls = .ref C ∧ o.dict = some d ∧ o.data = .fields vs) : Inv X pins σ (upd H a (errO a C d)) s' := by
  have nI : sI.heap.get? a = none := by
    cases e : sI.heap.get? a with
    | none => rfl
    | some o =>
      have := nb a o e nfr
      rw [nB] at this
      cases this
  have ne : ∀ {b : Addr} {o : Obj}, sI.heap.get? b = some o → b ≠ a := fun {b o} e z => by
    rw [z, nI] at e
    cases e
  have nh : ∀ {b : Addr} {o : HO}, H b = some o → b ≠ a := fun {b o} e z => by
    rw [z, na] at e
    cases e
  have nf : ∀ b ∈ frs X.stack, ∀ o, sI.heap.get? b = some o → ∃ sl, s'.heap.get? b = some { o with slots := sl } := fun b hb o e => by
    obtain ⟨_, o', e', hd⟩ := I.stack.mem hb
    rw [e] at e'; cases e'
    exact up b o e hd
  have hk0 : HOk X.prog X.w H s'.heap := (I.inGround nb).kept st
  have hk : HOk X.prog X.w (upd H a (errO a C d)) s'.heap := fun b u q => by
    by_cases hb : b = a
    · subst hb
      rw [upd_same] at q
      cases q
      obtain ⟨o, vs, h1, h2, h3, h4⟩ := ho
      exact ⟨⟨o, vs, h1, h2, h3, h4⟩, ⟨o, h1⟩, fun h1 h2 ⟨o, vs, q1, q2⟩ k => ⟨o, vs, k _ q1, q2⟩⟩
    · rw [upd_ne hb] at q
      exact (hk0 b u q).stay (fun c w hc r => r) (fun c r => by rw [upd_ne (nh r)]; exact r) fun c xs r => by rw [upd_ne (nh r)]; exact r
  have J := I.call (ch := []) (h' := s'.heap) (g' := s'.gens) (t' := s'.toks) (d' := s'.drawn) (H' := upd H a (errO a C d))
    ⟨fun b o e _ hb _ => st b o (nb b o e hb), fun b o e _ hb _ => nf b hb o e, fun b o e n _ => by rw [upd_ne (ne e)]; exact n, fun b o e _ => by
      by_cases hb : b ∈ frs X.stack
      · obtain ⟨sl, q⟩ := nf b hb o e
        exact ⟨_, q⟩
      · exact ⟨o, st b o (nb b o e hb)⟩, fun b xs e => by rw [upd_ne (nh e)]; exact e, fun b o xs e => by rw [upd_ne (nh e)]; exact e, fun b ps e => ⟨#[], by rw [upd_ne (nh e), e]; simp⟩⟩
    hk ag (fun _ z => nomatch z)
  obtain ⟨a1, a2, a3, a4, a5⟩ := s'
  have e5 : a5 = sI.os := os
  subst e5
  exact J
end
/-- the ends behind an except suite whose name goes -/
def endsE (D : Ends) : Option Nat → Ends
  | none => D
  | some i => { nx := fun σ' H' => D.nx (σ'.set i none) H', rt := D.rt, bk := fun σ' H' => D.bk (σ'.set i none) H', ct := fun σ' H' => D.ct (σ'.set i none) H' }
def nameE (σ : St) (a : Addr) : Option Nat → St
  | none => σ
  | some i => σ.set i (some (.ref a))
/-- the clauses: class, slot of the name, what the suite is worth -/
def wHds (K : PySem.W.Frag) (Wout : WX) (D : Ends) : List (Value × Option Nat × TS) → WX
  | [], cls, d, σ, H => Wout cls d σ H
  | (c, o, ts) :: l, cls, d, σ, H => ∃ b, PySem.W.exmOne K cls c = some b ∧ (b = true → ∃ C dd, cls = .ref C ∧ d = some dd ∧ ∀ a, H a = none → ts (endsE D o) (nameE σ a o) (upd H a (errO a C dd))) ∧ (b = false → wHds K Wout D l cls d σ H)
inductive HdE (X : Cx) : List ExceptHandler → List (Value × Option Nat × TS) → Prop
  | nil : HdE X [] []
  | cons {x : Str} {c : Value} {ts : TS} {b₀ : Stmt} {suite : List Stmt} {np pos' : Pos} {hds : List ExceptHandler} {l : List (Value × Option Nat × TS)} (hc : Names X x c) (hsu : ∀ (a : Addr) (pn : List (Addr × Obj)), PSs (X.suite a pn) (b₀ :: suite) ts) (r : HdE X hds l) :
      HdE X (.ExceptHandler (some (.Name x np)) none (b₀ :: suite) pos' :: hds) ((c, none, ts) :: l)
  | name {x n : Str} {i : Nat} {c : Value} {ts : TS} {b₀ : Stmt} {suite : List Stmt} {np pos' : Pos} {hds : List ExceptHandler} {l : List (Value × Option Nat × TS)} (hN : X.N.Nodup) (hi : X.N[i]? = some n) (hln : X.env.kindOf n = some .local) (hc : Names X x c)
      (hsu : ∀ (a : Addr) (pn : List (Addr × Obj)), PSs (X.suite a pn) (b₀ :: suite) ts) (r : HdE X hds l) : HdE X (.ExceptHandler (some (.Name x np)) (some n) (b₀ :: suite) pos' :: hds) ((c, some i, ts) :: l)
section
variable {X : Cx} {body : List Stmt} {h₀ : ExceptHandler} {hds : List ExceptHandler} {l : List (Value × Option Nat × TS)} {pos : Pos} {tb : WX → TS} {Wout : WX}
theorem ps_try_own (hs : X.stack = X.env :: X.outer) (hf : X.env.frame = some X.env.locals) (tk : Takes X Wout)
    (hb : ∀ (W : WX) (pn : List (Addr × Obj)) (xe : Value → Shared → Prop), Takes (X.tr pn xe) W → PassesOwn (model X.prog X.w) X.A X.env xe → PSs (X.tr pn xe) body (tb W))
    (hh : HdE X (h₀ :: hds) l) : PS X (.Try body (h₀ :: hds) [] [] pos) (fun D σ H => tb (wHds X.K Wout D l) D σ H) := by
  refine ⟨fun pins s σ H D I h => ?_⟩
  have ok := I.ok
  have hfr : X.A.frames = some (X.env :: X.outer) := by rw [ok.frames, hs]
  refine wpAny_Try_except ?_
  refine wpAny_mono ((hb (wHds X.K Wout D l) (X.pn ++ pins) (fun e s₁ => wpAny (model X.prog X.w) X.A (noteFrame e X.env) (fun _ s₂ => wpAny (model X.prog X.w) X.A (setFlight e none) (fun _ s₃ =>
    wpAny (model X.prog X.w) X.A (handleBy e X.env (h₀ :: hds)) (SP X pins D) X.xe s₃) X.xe s₂) X.xe s₁) (fun u s' xx => ?_) PassesOwn.looking).run [] s σ H D (I.toTry _) h) (fun f s1 hsp => ?_) (fun e s1 he => he)
  · obtain ⟨a, B, sI, pins', σ', H', cls, d, rfl, J', nb, up, sky, na, os, ag, w⟩ := xx
    have J : Inv X pins σ' H' sI := J'.ofTry ok
    have sky' : Sky B (X.env :: X.outer) a (Zc cls d) X.env.locals s'.heap := by rw [← hs]; exact sky
    show wpAny (model X.prog X.w) X.A (noteFrame (.ref a) X.env) _ _ _
    refine Sky.land Zc.steady hfr hf sky' fun h3 fl3 up3 => ?_
    have J3 : Inv X pins σ' H' { s' with heap := h3 } := J.landed nb fl3.1 (up.trans up3) os ag
    obtain ⟨oe3, vs3, he3, hz3, hd3⟩ := fl3.there
    have notFr : ∀ {h : Heap} {o : Obj} {vs : Array Value}, h.FunFrames B (X.env :: X.outer) → h.get? a = some o → o.data = .fields vs → a ∉ frs (X.env :: X.outer) := fun {h o vs} ff e dd hm => by
      obtain ⟨_, o', e', hnf⟩ := ff.mem hm
      rw [e] at e'; cases e'
      exact hnf _ dd
    have nfr := notFr fl3.2.2.1 he3 hd3
    have nfr' : a ∉ frs X.stack := by rw [hs]; exact nfr
    have S3 := J3.suiteE a
    have go : ∀ {hds' : List ExceptHandler} {l' : List (Value × Option Nat × TS)}, HdE X hds' l' → wHds X.K Wout D l' cls d σ' H' →
        wpAny (model X.prog X.w) X.A (handleBy (.ref a) X.env hds') (SP X pins D) X.xe { s' with heap := h3 } := by
      intro hds' l' hk
      have LT : PySem.W.Looks (model X.prog X.w) h3 (typeOf (.ref a)) cls := fun A Q E s k q => wpAny_typeOf_ref (k _ _ he3) (by rw [hz3.1]; exact q)
      have test : ∀ {x : Str} {c : Value} {np : Pos} (hc : Names X x c) {Q : Value → Shared → Prop} {E : Value → Shared → Prop}, Q c { s' with heap := h3 } → wpAny (model X.prog X.w) (X.A.mark (some (.ref a))) (eval (.Name x np) X.env) Q E { s' with heap := h3 } := fun {x c np} hc {Q E} q => by
        obtain ⟨hg, hdbg, hm | ⟨hm, hv, hnn⟩⟩ := hc
        · exact ld_glob (X := X.suite a (X.pn ++ pins)) S3 hg hm q hdbg
        · exact ld_blt (X := X.suite a (X.pn ++ pins)) S3 hg hm hv q hnn hdbg
      have land4 : ∀ {h4 : Heap} {C dd : Addr}, HandSPX.FlyingZ B (X.env :: X.outer) a (Zc cls d) h4 → h3.UpToSlots h4 → cls = .ref C → d = some dd → Inv X pins σ' (upd H' a (errO a C dd)) { s' with heap := h4 } := fun {h4 C dd} fl4 up4 ec ed => by
        obtain ⟨oe4, vs4, he4, hz4, hd4⟩ := fl4.there
        exact J.landedE nb fl4.1 ((up.trans up3).trans up4) os ag fl4.2.1 nfr' na ⟨oe4, vs4, he4, hz4.1.trans ec, hz4.2.trans ed, hd4⟩
      induction hk with
      | nil =>
        intro w
        refine wpAny_handleBy_nil ?_
        obtain ⟨k1, k2, k3, oe, vs, T, oT, ts', he, hz, hd, h1, hr⟩ := id fl3
        unfold PySem.passOn
        refine wpAny_bind (wpAny_field he hd h1 ?_)
        rw [if_neg (show ¬ ((Value.ref T == Value.none) = true) from by simp)]
        have fin : wpAny (model X.prog X.w) X.A (setFlight (.ref a) X.env.frame) (fun _ s4 => wpAny (model X.prog X.w) X.A (throw (.ref a) : Sem Flow) (SP X pins D) X.xe s4) X.xe { s' with heap := h3 } := by
          rw [hf]
          refine HandSPX.setFlight_upZ fl3 fun h4 hh4 up4 => wpAny_throw (tk _ _ ?_)
          exact ⟨a, B, sI, pins, σ', H', cls, d, rfl, J, nb, (up.trans up3).trans up4, .inr (.inr (by rw [hs]; exact hh4)), na, os, ag, w⟩
        first
          | exact wpAny_bind (wpAny_pure (wpAny_bind fin))
          | exact wpAny_bind fin
      | @cons x c ts b₀ suite np pos' hds2 l2 hc hsu r ih =>
        intro w
        obtain ⟨b, hb1, hyes, hno⟩ := w
        refine wpAny_handleBy_cons (codeAny_handlers_test ?_) (by intro q; cases q)
        have LM := PySem.W.exm_one (M := model X.prog X.w) (J3.kIn) LT hb1
        refine test hc (LM.here ?_)
        cases b with
        | true =>
          obtain ⟨C, dd, ec, ed, hyes⟩ := hyes rfl
          refine codeAny_handlers_suite ?_
          refine HandSPX.lands_againZ fl3 fun h4 fl4 up4 => ?_
          refine wpAny_mono ((hsu a (X.pn ++ pins)).run [] _ _ _ _ ((land4 fl4 up4 ec ed).suiteE a) (hyes a na)) (fun f s6 hsp => ?_) (fun _ _ z => False.elim z)
          cases f with
          | next =>
            obtain ⟨σ6, H6, S6, q6⟩ := hsp
            exact ⟨_, _, S6.unsuiteE ok, q6⟩
          | brk =>
            obtain ⟨σ6, H6, S6, q6⟩ := hsp
            exact ⟨_, _, S6.unsuiteE ok, q6⟩
          | cont =>
            obtain ⟨σ6, H6, S6, q6⟩ := hsp
            exact ⟨_, _, S6.unsuiteE ok, q6⟩
          | ret u =>
            obtain ⟨v6, σ6, H6, S6, r6, q6⟩ := hsp
            exact ⟨_, _, _, S6.unsuiteE ok, r6, q6⟩
        | false =>
          show wpAny _ X.A (handleBy (.ref a) X.env hds2) _ _ _
          exact ih (hno rfl)
      | @name x n i c ts b₀ suite np pos' hds2 l2 hN hi hln hc hsu r ih =>
        intro w
        obtain ⟨b, hb1, hyes, hno⟩ := w
        refine wpAny_handleBy_cons (codeAny_handlers_test ?_) (by intro q; cases q)
        have LM := PySem.W.exm_one (M := model X.prog X.w) (J3.kIn) LT hb1
        refine test hc (LM.here ?_)
        cases b with
        | true =>
          obtain ⟨C, dd, ec, ed, hyes⟩ := hyes rfl
          refine codeAny_handlers_suite_as ?_
          refine HandSPX.lands_againZ fl3 fun h4 fl4 up4 => ?_
          refine store_ok (X := X.suite a (X.pn ++ pins)) (v := .ref a) ((land4 fl4 up4 ec ed).suiteE a) hN hi (.inl hln) rfl (fun s5 S5 => ?_) (.inr hln)
          refine wpAny_mono ((hsu a (X.pn ++ pins)).run [] s5 _ _ _ S5 (hyes a na)) (fun f s6 hsp => ?_) (fun _ _ z => False.elim z)
          have end_ : ∀ {σ6 : St} {H6 : Hp} {Q : Shared → Prop}, Inv (X.suite a (X.pn ++ pins)) [] σ6 H6 s6 → (∀ s7, Inv X pins (σ6.set i none) H6 s7 → Q s7) →
              wpAny (model X.prog X.w) X.A (do bindName X.env n .none; unbindBehindTheSuite X.env n pos') (fun _ s7 => Q s7) X.xe s6 := fun {σ6 H6 Q} S6 hq => gone_ok (S6.unsuiteE ok) hN hi hln hq
          cases f with
          | next =>
            obtain ⟨σ6, H6, S6, q6⟩ := hsp
            exact end_ S6 fun s7 J7 => ⟨_, _, J7, q6⟩
          | brk =>
            obtain ⟨σ6, H6, S6, q6⟩ := hsp
            exact end_ S6 fun s7 J7 => ⟨_, _, J7, q6⟩
          | cont =>
            obtain ⟨σ6, H6, S6, q6⟩ := hsp
            exact end_ S6 fun s7 J7 => ⟨_, _, J7, q6⟩
          | ret u =>
            obtain ⟨v6, σ6, H6, S6, r6, q6⟩ := hsp
            exact end_ S6 fun s7 J7 => ⟨_, _, _, J7, r6, q6⟩
        | false =>
          show wpAny _ X.A (handleBy (.ref a) X.env hds2) _ _ _
          exact ih (hno rfl)
    exact go hh w
  · cases f with
    | next =>
      obtain ⟨σ', H', J', q⟩ := hsp
      exact wpAny_execs_nil ⟨σ', H', J'.ofTry ok, q⟩
    | brk =>
      obtain ⟨σ', H', J', q⟩ := hsp
      exact ⟨σ', H', J'.ofTry ok, q⟩
    | cont =>
      obtain ⟨σ', H', J', q⟩ := hsp
      exact ⟨σ', H', J'.ofTry ok, q⟩
    | ret u =>
      obtain ⟨v, σ', H', J', r, q⟩ := hsp
      exact ⟨v, σ', H', J'.ofTry ok, r, q⟩
end
end L2

namespace L2
open PySem PySem.Spec PyProof.Rows DL
/-- e.f, e an error held as a value -/
def tXfE (K : PySem.W.Frag) (f : Str) (te : TE) : TE := fun σ H Q => te σ H fun x H1 => ∃ (a C dd : Addr) (fs : List (Str × V)) (v : V), x = .ref a ∧ H1 a = some (errO a C dd) ∧ XfC K C ∧ PySem.W.findIn K (.ref C) f = some none ∧ H1 dd = some (.xd fs) ∧ fs.lookup f = some v ∧ Q v H1
theorem pe_xfE {X : Cx} {e : Expr} {te : TE} {pos : Pos} {n : Str} (he : PE X e te) (hb : attributeBase e n X.env (eval e X.env) = eval e X.env := by rfl) : PE X (.Attribute e n pos) (tXfE X.K n te) := by
  refine ⟨fun pins s σ H Q I h => ?_⟩
  refine attr_of hb (thn (he.run pins s σ H _ I h) fun u s1 hh => ?_)
  obtain ⟨x, H1, I1, rx, a, C, dd, fs, v, ex, ea, T, hno, ed, l, q⟩ := hh
  subst ex
  obtain rfl : u = Value.ref a := rx
  have hx0 : ObjOk X.prog X.w H1 s1.heap a (.ext fun h => ∃ (o : Obj) (vs : Array Value), h.get? a = some o ∧ o.cls = .ref C ∧ o.dict = some dd ∧ o.data = .fields vs) := I1.hok a _ ea
  obtain ⟨oe, vs, ha, hz1, hz2, hd⟩ := hx0.1
  have hx : ObjOk X.prog X.w H1 s1.heap dd (.xd fs) := I1.hok dd _ ed
  obtain ⟨mA, hns, hr⟩ := hx
  obtain ⟨od, ho, hl⟩ := lookIn_ns hns
  obtain ⟨u, hu, ru⟩ := RelO.some_of (v := v) (o := mA n) (by rw [← l]; exact hr n)
  have J : PySem.W.InstAt s1.heap a oe C (some od) := ⟨ha, hz1, by unfold PySem.W.notCls; rw [hd] <;> rfl, by rw [hz2]; exact ho⟩
  exact HandSPX.exc_get I1.kIn J T.ga T.gg T.exC (PySem.W.findObj_own T.hdC hno rfl (by rw [hl, hu])) (handed_of ru) ⟨v, H1, I1.tok _, ru, q⟩
end L2
namespace DL
open PySem PySem.Spec PyProof.Rows L2
variable [Tbs]
/-- what the classes of errors in L have: the field f -/
def XfL (K : PySem.W.Frag) (f : Str) (L : List Addr) : Prop := ∀ C ∈ L, XfC K C ∧ PySem.W.findIn K (.ref C) f = some none
theorem XfL.nil {K : PySem.W.Frag} {f : Str} : XfL K f [] := fun _ h => nomatch h
theorem XfL.cons {K : PySem.W.Frag} {f : Str} {C : Addr} {L : List Addr} (h1 : XfC K C) (h2 : PySem.W.findIn K (.ref C) f = some none) (t : XfL K f L) : XfL K f (C :: L) := fun D h => by
  rcases List.mem_cons.mp h with rfl | h
  · exact ⟨h1, h2⟩
  · exact t D h
def errF (L : List Addr) (f : Str) (d : D) : Option (Prop × D) := match d with
  | .err C fs => (fs.lookup f).map fun v => (C ∈ L, v)
  | _ => none
def wXf (L : List Addr) (f : Str) (wo : WE) : WE := fun env cs Q => wo env cs fun d cs1 => bindP (errF L f d) fun r => r.1 ∧ Q r.2 cs1
theorem de_xf {X : Cx} {L : List Addr} {f : Str} {o : Expr} {wo : WE} {pos : Pos} (T : XfL X.K f L) (ho : DE X o wo) (hb : attributeBase o f X.env (eval o X.env) = eval o X.env := by rfl) : DE X (.Attribute o f pos) (wXf L f wo) :=
  ⟨PE.imp (pe_xfE ho.pe hb) fun σ H Q ⟨g, cs, env, s, l, h⟩ => lowE.go ho.mo s l h fun d1 cs1 g1 H1 v1 h1 e1 s1 r1 => by
    cases d1 with
    | err C fs =>
      cases el : fs.lookup f with
      | none => simp only [errF, el, Option.map_none, bindP_none] at h1
      | some d =>
        simp only [errF, el, Option.map_some, bindP_some] at h1
        obtain ⟨a, dx, vs, q1, q2, q3, q4⟩ := r1
        obtain ⟨v, q5, q6⟩ := (RepF.look q4).1 d el
        exact ⟨a, C, dx, vs, v, q1, s1.le _ _ q2, (T C h1.1).1, (T C h1.1).2, s1.le _ _ q3, q5, h1.2 g1 H1 v e1 s1 q6⟩
    | _ => exact (show False from h1).elim,
    fun env cs Q Q' h q => ho.mo env cs _ _ (fun d cs1 q => bindP_mo (fun r q => ⟨q.1, h _ _ q.2⟩) q) q⟩
/-! ### try -/
def endsD (E : DN) : Option Nat → DN
  | none => E
  | some i => { nx := fun env cs => E.nx (env.set i none) cs, rt := E.rt, bk := fun env cs => E.bk (env.set i none) cs, ct := fun env cs => E.ct (env.set i none) cs }
def nameD (n : Nat) (x : XD) : Option Nat → En
  | none => List.replicate n none
  | some i => (List.replicate n none).set i (some (.err x.C x.fs))
def wHdD (K : PySem.W.Frag) (n : Nat) (W : WD) (E : DN) : List (Value × Option Nat × WS) → WD
  | [], x, cs => W x cs
  | (c, o, w) :: l, x, cs => ∃ b, PySem.W.exmOne K (.ref x.C) c = some b ∧ (b = true → w (endsD E o) (nameD n x o) cs) ∧ (b = false → wHdD K n W E l x cs)
inductive HdD (X : Cx) : List ExceptHandler → List (Value × Option Nat × WS) → Prop
  | nil : HdD X [] []
  | cons {x : Str} {c : Value} {w : WS} {b₀ : Stmt} {suite : List Stmt} {np pos' : Pos} {hds : List ExceptHandler} {l : List (Value × Option Nat × WS)} (hc : Names X x c) (hsu : ∀ (a : Addr) (pn : List (Addr × Obj)), DSs (X.suite a pn) (b₀ :: suite) w) (r : HdD X hds l) :
      HdD X (.ExceptHandler (some (.Name x np)) none (b₀ :: suite) pos' :: hds) ((c, none, w) :: l)
  | name {x n : Str} {i : Nat} {c : Value} {w : WS} {b₀ : Stmt} {suite : List Stmt} {np pos' : Pos} {hds : List ExceptHandler} {l : List (Value × Option Nat × WS)} (hN : X.N.Nodup) (hi : X.N[i]? = some n) (hln : X.env.kindOf n = some .local) (hc : Names X x c)
      (hsu : ∀ (a : Addr) (pn : List (Addr × Obj)), DSs (X.suite a pn) (b₀ :: suite) w) (r : HdD X hds l) : HdD X (.ExceptHandler (some (.Name x np)) (some n) (b₀ :: suite) pos' :: hds) ((c, some i, w) :: l)
def lowHd (K : PySem.W.Frag) (l : List (Value × Option Nat × WS)) : List (Value × Option Nat × TS) := l.map fun p => (p.1, p.2.1, lowS K p.2.2)
theorem HdD.low {X : Cx} {hds : List ExceptHandler} {l : List (Value × Option Nat × WS)} (h : HdD X hds l) : HdE X hds (lowHd X.K l) := by
  induction h with
  | nil => exact .nil
  | cons hc hsu r ih => exact .cons hc (fun a pn => (hsu a pn).pe) ih
  | name hN hi hln hc hsu r ih => exact .name hN hi hln hc (fun a pn => (hsu a pn).pe) ih
theorem HdD.mo {X : Cx} {hds : List ExceptHandler} {l : List (Value × Option Nat × WS)} (h : HdD X hds l) : ∀ p ∈ l, MonoS p.2.2 := by
  induction h with
  | nil => simp
  | cons hc hsu r ih =>
    intro p hp
    rcases List.mem_cons.mp hp with rfl | hp
    · exact (hsu 0 []).mo
    · exact ih p hp
  | name hN hi hln hc hsu r ih =>
    intro p hp
    rcases List.mem_cons.mp hp with rfl | hp
    · exact (hsu 0 []).mo
    · exact ih p hp
theorem endsD_le {E E' : DN} (h : DN.le E E') (o : Option Nat) : DN.le (endsD E o) (endsD E' o) := by
  cases o with
  | none => exact h
  | some i => exact ⟨fun _ _ q => h.nx _ _ q, h.rt, fun _ _ q => h.bk _ _ q, fun _ _ q => h.ct _ _ q⟩
theorem wHdD_mo {K : PySem.W.Frag} {n : Nat} {W W' : WD} {E E' : DN} (hW : WD.le W W') (hE : DN.le E E') : ∀ {l : List (Value × Option Nat × WS)}, (∀ p ∈ l, MonoS p.2.2) → WD.le (wHdD K n W E l) (wHdD K n W' E' l)
  | [], _ => hW
  | (c, o, w) :: l, hm => fun x cs ⟨b, hb, hy, hn⟩ => ⟨b, hb, fun e => hm _ List.mem_cons_self _ _ _ _ (endsD_le hE o) (hy e), fun e => wHdD_mo hW hE (fun p hp => hm p (List.mem_cons_of_mem _ hp)) x cs (hn e)⟩
def wTry (K : PySem.W.Frag) (n : Nat) (wb : WD → WS) (l : List (Value × Option Nat × WS)) : WD → WS := fun W E env cs => wb (wHdD K n W E l) E env cs
theorem Lr.unset {K : PySem.W.Frag} {g : G} {env : En} {σ : L2.St} (l : Lr K g env σ) (i : Nat) : Lr K g (env.set i none) (σ.set i none) := by
  refine ⟨by simp [l.len], fun j d e => ?_⟩
  by_cases hj : i = j
  · subst hj
    by_cases hl : i < env.length
    · rw [List.getElem?_set_self hl] at e
      cases e
    · rw [List.getElem?_eq_none (by simpa using hl)] at e
      cases e
  · rw [List.getElem?_set_ne hj] at e ⊢
    exact l.ok j d e
theorem Lr.empty {K : PySem.W.Frag} {g : G} {n : Nat} {σ : L2.St} (h : σ.length = n) : Lr K g (List.replicate n none) σ :=
  ⟨by simp [h], fun j d e => by
    rw [List.getElem?_replicate] at e
    split at e <;> cases e⟩
section
variable {X : Cx}
theorem hds_low {K : PySem.W.Frag} {n : Nat} {g : G} {Wl : XK} {D : Ends} : ∀ {l : List (Value × Option Nat × WS)}, (∀ p ∈ l, MonoS p.2.2) → ∀ (x : XD) (cs : Sto), wHdD K n (upX K g Wl) (upN K g D) l x cs →
    ∀ (g' : G) (H : Hp) (d : Addr) (ws : List (Str × V)), Ext g g' → Sr K g' cs H → g'.Z d = some (.xd ws) → RepF K g' x.fs ws → ∀ σ : L2.St, σ.length = n → wHds K (fun c d _ H => Wl c d H) D (lowHd K l) (.ref x.C) (some d) σ H
  | [], _, x, cs, h, g', H, d, ws, e, s, hz, rf, σ, hl => h g' H d ws e s hz rf
  | (c, o, w) :: l, hm, x, cs, ⟨b, hb, hy, hn⟩, g', H, d, ws, e, s, hz, rf, σ, hl => by
    refine ⟨b, hb, fun eb => ⟨x.C, d, rfl, rfl, fun a na => ?_⟩, fun eb => hds_low (fun p hp => hm p (List.mem_cons_of_mem _ hp)) x cs (hn eb) g' H d ws e s hz rf σ hl⟩
    have e2 := Ext.add s na (errO a x.C d)
    have s2 := Sr.add s na (errO a x.C d)
    have rE : Rep K (g'.add a (errO a x.C d)) (.err x.C x.fs) (.ref a) := ⟨a, d, ws, rfl, upd_same, e2.z _ _ hz, rf.mono e2⟩
    have l0 : Lr K (g'.add a (errO a x.C d)) (List.replicate n none) σ := Lr.empty hl
    cases o with
    | none => exact ⟨_, cs, _, s2, l0, hm _ List.mem_cons_self _ _ _ _ (upN.mono (e.trans e2) D) (hy eb)⟩
    | some i =>
      refine ⟨_, cs, _, s2, l0.set rE, hm _ List.mem_cons_self _ _ _ _ ⟨fun env1 cs1 q g3 H3 σ3 e3 s3 l3 => ?_, fun d1 cs1 q => upV.mono (e.trans e2) q, fun env1 cs1 q g3 H3 σ3 e3 s3 l3 => ?_, fun env1 cs1 q g3 H3 σ3 e3 s3 l3 => ?_⟩ (hy eb)⟩
      · exact q g3 H3 _ ((e.trans e2).trans e3) s3 (l3.unset i)
      · exact q g3 H3 _ ((e.trans e2).trans e3) s3 (l3.unset i)
      · exact q g3 H3 _ ((e.trans e2).trans e3) s3 (l3.unset i)
theorem dsx_try {l : List (Value × Option Nat × WS)} {body : List Stmt} {h₀ : ExceptHandler} {hds : List ExceptHandler} {pos : Pos} {wb : WD → WS} {n : Nat} (hh : HdD X (h₀ :: hds) l)
    (hb : ∀ (pn : List (Addr × Obj)) (xe : Value → Shared → Prop), PassesOwn (model X.prog X.w) X.A X.env xe → DSsX (X.tr pn xe) body wb) (hn : X.N.length = n := by rfl) (hs : X.stack = X.env :: X.outer := by rfl) (hf : X.env.frame = some X.env.locals := by rfl) :
    DSX X (.Try body (h₀ :: hds) [] [] pos) (wTry X.K n wb l) := by
  have mo : MonoSX wb := (hb [] (fun _ _ => False) PassesOwn.never).mo
  refine ⟨fun Wl tk => ?_, fun W W' E E' env cs hW hE q => mo _ _ _ _ env cs (wHdD_mo hW hE hh.mo) hE q⟩
  have key := ps_try_own (X := X) (body := body) (pos := pos) (tb := fun W => lowSX X.K (fun c d H => ∀ σ : L2.St, σ.length = n → W c d σ H) wb) (Wout := fun c d _ H => Wl c d H) hs hf tk
    (fun W pn xe t p => (hb pn xe p).pe _ (fun u s' ⟨a, B, sI, pins, σ, H, cls, d, e, I, nb, up, sky, na, os, ag, w⟩ => t u s' ⟨a, B, sI, pins, σ, H, cls, d, e, I, nb, up, sky, na, os, ag, w σ (by rw [← hn]; exact I.len)⟩)) hh.low
  refine PS.imp key fun D σ H ⟨g, cs, env, s, l', h⟩ => ?_
  exact ⟨g, cs, env, s, l', mo _ _ _ _ env cs (fun x cs1 q g' H' d ws e s' hz rf σ' hl => hds_low hh.mo x cs1 q g' H' d ws e s' hz rf σ' hl) (DN.le.refl _) h⟩
end
end DL
namespace DL
open PySem PySem.Spec PyProof.Rows L2
variable [Tbs]
/-- what may raise, called where it does not -/
theorem FnG.calm {P : Program} {w : World} {K : PySem.W.Frag} {mg : Str → Option Value} {base : Heap} {k : Nat} {f : Addr} {fd : FuncData} {ps : List Str} {s s' : FSpec} (F : FnG P w K mg base (L2.CX P w) k f fd ps (dSp K s))
    (h : ∀ i', ∃ i, s'.args i' = s.args i ∧ ∀ cs, s'.pre i' cs → s.pre i cs ∧ (∀ d cs', s.res i cs d cs' → s'.res i' cs d cs') ∧ ∀ x cs', ¬ s.exc i cs x cs') : FnG P w K mg base CX0 k f fd ps (dSp K s') := by
  have key : ∀ vs H Q E, dSp K s' vs H Q E → dSp K s vs H Q (fun _ _ _ => False) := fun vs H Q E ⟨g, cs, i', sr, r, hp, hq, _⟩ => by
    obtain ⟨i, e1, e2⟩ := h i'
    obtain ⟨q1, q2, q3⟩ := e2 cs hp
    exact ⟨g, cs, i, sr, by rw [← e1]; exact r, q1, fun d cs' q => hq d cs' (q2 d cs' q), fun x cs' q => absurd q (q3 x cs')⟩
  refine ⟨fun vs H Q E q => F.len vs H Q _ (key vs H Q E q), fun A outer s H args us vs Q E hr e0 hb r hsp => codeAny_mono (F.run A outer s H args us vs Q _ hr e0 hb r (key vs H Q E hsp)) fun res s1 q => ?_⟩
  cases res with
  | error e =>
    obtain ⟨a, B, H', cls, d, _, _, _, _, _, _, _, z⟩ := q
    exact z.elim
  | ok fl => cases fl <;> exact q
end DL
namespace DL
open PySem PySem.Spec PyProof.Rows L2
variable [Tbs]
/-! ### how such readings are walked through -/
section
variable {env : En} {cs : Sto} {E : DN} {W : WD} {Q : PD}
theorem wSeqX_eq (w u : WD → WS) : wSeqX w u W E env cs = w W { E with nx := fun env' cs' => u W E env' cs' } env cs := (rfl)
theorem wIfX_eq (t : WT) (w u : WD → WS) : wIfX t w u W E env cs = t env cs fun c cs1 => cond2 c (w W E env cs1) (u W E env cs1) := (rfl)
theorem wDropX_eq (we : WD → WE) : wDropX we W E env cs = we W env cs fun _ cs' => E.nx env cs' := (rfl)
theorem wRetX_eq (we : WD → WE) : wRetX we W E env cs = we W env cs E.rt := (rfl)
theorem wSetX_eq (i : Nat) (we : WD → WE) : wSetX i we W E env cs = we W env cs fun d cs' => letE (env.set i (some d)) fun env' => E.nx env' cs' := (rfl)
theorem wConsX_eq (wa : WD → WE) (wr : WD → WA) (R : List D → Sto → Prop) : wConsX wa wr W env cs R = wa W env cs fun d cs1 => wr W env cs1 fun ds cs2 => R (d :: ds) cs2 := (rfl)
def raiseP (C : Addr) (d : D) (W : WD) (cs : Sto) (_z : Lz W := ⟨⟩) : Prop := ∃ z : Str, d = .str z ∧ z.length ≤ 1000 ∧ W ⟨C, [("part", .str z)]⟩ cs
theorem wRaise_eq (C : Addr) (wa : WE) : wRaise C wa W E env cs = wa env cs fun d cs1 => raiseP C d W cs1 := (rfl)
theorem raiseP_i {C : Addr} {z : Str} {l : Lz W} (hz : z.length ≤ 1000) (h : W ⟨C, [("part", .str z)]⟩ cs) : raiseP C (.str z) W cs l := ⟨z, rfl, hz, h⟩
def callX (s : FSpec) (ds : List D) (cs : Sto) (W : WD) (Q : PD) (_z : Lz (s, W, Q) := ⟨⟩) : Prop := ∃ i, ds = s.args i ∧ s.pre i cs ∧ (∀ d cs', s.res i cs d cs' → Q d cs') ∧ ∀ x cs', s.exc i cs x cs' → W x cs'
theorem wCallX_eq (s : FSpec) (wa : WD → WA) : wCallX s wa W env cs Q = wa W env cs fun ds cs1 => callX s ds cs1 W Q := (rfl)
theorem callX_i {s : FSpec} {ds : List D} {z : Lz (s, W, Q)} (i : s.ι) (h : ds = s.args i) (hp : s.pre i cs) (q : ∀ d cs', s.res i cs d cs' → Q d cs') (qx : ∀ x cs', s.exc i cs x cs' → W x cs') : callX s ds cs W Q z := ⟨i, h, hp, q, qx⟩
theorem wTry_eq (K : PySem.W.Frag) (n : Nat) (wb : WD → WS) (l : List (Value × Option Nat × WS)) : wTry K n wb l W E env cs = wb (wHdD K n W E l) E env cs := (rfl)
theorem hd_yes {K : PySem.W.Frag} {n : Nat} {c : Value} {o : Option Nat} {w : WS} {l : List (Value × Option Nat × WS)} {x : XD} (h : PySem.W.exmOne K (.ref x.C) c = some true) (q : w (endsD E o) (nameD n x o) cs) : wHdD K n W E ((c, o, w) :: l) x cs :=
  ⟨true, h, fun _ => q, (fun z => nomatch z)⟩
theorem hd_no {K : PySem.W.Frag} {n : Nat} {c : Value} {o : Option Nat} {w : WS} {l : List (Value × Option Nat × WS)} {x : XD} (h : PySem.W.exmOne K (.ref x.C) c = some false) (q : wHdD K n W E l x cs) : wHdD K n W E ((c, o, w) :: l) x cs :=
  ⟨false, h, (fun z => nomatch z), fun _ => q⟩
theorem wXf_eq (L : List Addr) (f : Str) (wo : WE) : wXf L f wo env cs Q = wo env cs fun d cs1 => bindP (errF L f d) fun r => r.1 ∧ Q r.2 cs1 := (rfl)
theorem errF_err (L : List Addr) (f : Str) (C : Addr) (fs : List (Str × D)) : errF L f (.err C fs) = (fs.lookup f).map fun v => (C ∈ L, v) := (rfl)
end
end DL

/-! DTab: the end of a law in which lambdas are made. -/
namespace DL
open PySem PySem.Spec L2 LamX
open PyProof.Rows (IntsAre)
/-- a lambda's maker: its code object, that one's table, the name that the lambda's own code objects get -/
abbrev Mkr := Addr × Addr × Str
abbrev tsOf (ms : List Mkr) : Tbs := ⟨ms.map fun p => (p.2.1, p.2.2)⟩
theorem call_DT {P : Program} {w : World} {K : PySem.W.Frag} {mg mb : Str → Option Value} {k n : Nat} {fa a : Addr} {ms : List Mkr} {fd : FuncData} {x : Str} {s : Shared} {vs : List Value} {ns : List Int}
    (KX : K.In s.heap) (hns : s.heap.Ns mainGlobals mg) (hb : s.heap.Ns builtinsNs mb) (hbb : ∀ x : Str, x ≠ "__name__" → mb x = bootBuiltins x) (hlim : s.heap.NoLimit) (hg : s.gens = #[])
    (hms : ∀ p ∈ ms, s.heap.get? p.2.1 = some { cls := .none, data := .fields #[] } ∧ K.lookup p.2.1 = none ∧ PySem.W.CodeHd s.heap p.1 p.2.1)
    (hbm : ∃ (bm : Addr) (ob : Obj), mg "__builtins__" = some (.ref bm) ∧ bm ≠ builtinsNs ∧ s.heap.get? bm = some ob ∧ ob.cls = .type "module" ∧ ob.dict = some builtinsNs ∧ ob.data = .plain)
    (hobj : s.heap.get? a = some { cls := .type "list", data := .seq vs.toArray }) (hints : IntsAre vs ns) (hlen : ns.length ≤ n) (hn2 : n ≤ sizeLine) (hr : RoomG k callerA)
    (hF : ∀ base : Heap, K.In base → base.Ns mainGlobals mg → (∀ p ∈ ms, TabB base mg p.1 p.2.1) → FnG P w K mg base CX0 k fa fd [x] (@dSp (tsOf ms) K (spLaw n))) (hbind : ∀ (s : Shared) (u : Value), BindsTo s fd ⟨[u], []⟩ [(x, u)]) :
    codeAny (model P w) callerA (.call (.ref fa) ⟨[.ref a], []⟩) (fun r s' => r = .ok (.ret (.bool true)) ∧ OldK s.heap s'.heap ∧ s'.os = s.os ∧ PyProof.Rows.AllBare s'.gens) s := by
  have rv := vals_ints hints
  have hl : ns.length ≤ sizeLine := Nat.le_trans hlen hn2
  have lenV := hints.length
  let ts : List Addr := ms.map (·.2.1)
  have isT : ∀ b ∈ ts, s.heap.get? b = some { cls := .none, data := .fields #[] } := fun b hb => by
    obtain ⟨p, hp, e⟩ := List.mem_map.mp hb
    rw [← e]
    exact (hms p hp).1
  have kT : ∀ b ∈ ts, K.lookup b = none := fun b hb => by
    obtain ⟨p, hp, e⟩ := List.mem_map.mp hb
    rw [← e]
    exact (hms p hp).2.1
  have aT : a ∉ ts := fun z => by
    have q := isT a z
    rw [hobj] at q
    exact nomatch (show Data.seq vs.toArray _ = Data.fields #[] from congrArg Obj.data (Option.some.inj q))
  -- what may be tracked: the tables, empty, and the script, locked
  obtain ⟨H, only, seq, hok, free⟩ : ∃ H : Hp, (∀ b, (b ∈ ts ∧ H b = some (.tbl #[])) ∨ (b ∉ ts ∧ (H b = none ∨ ∃ ob xs, H b = some (.frz ob (.lst xs))))) ∧ SqL K H a (ns.map V.int) ∧ HOk P w H s.heap ∧ ∀ b, H b ≠ none → b ∈ ts ∨ (b = a ∧ K.lookup a = none) := by
    cases hk : K.lookup a with
    | some ob =>
      have e := KX a ob hk
      rw [hobj] at e
      cases e
      refine ⟨fun b => if b ∈ ts then some (.tbl #[]) else none, fun b => ?_, .inr ⟨_, vs.toArray, _, hk, rfl, rfl, rfl, by rw [List.size_toArray, lenV]; exact hl, by simpa using rv⟩, fun b u z => ?_, fun b z => ?_⟩
      · by_cases q : b ∈ ts
        · exact .inl ⟨q, if_pos q⟩
        · exact .inr ⟨q, .inl (if_neg q)⟩
      · by_cases q : b ∈ ts
        · cases (if_pos q).symm.trans z
          exact isT b q
        · cases (if_neg q).symm.trans z
      · by_cases q : b ∈ ts
        · exact .inl q
        · exact absurd (if_neg q) z
    | none =>
      refine ⟨fun b => if b ∈ ts then some (.tbl #[]) else if b = a then some (.frz { cls := .type "list", data := .seq vs.toArray } (.lst (ns.map V.int))) else none, fun b => ?_, .inl (.inr ⟨{ cls := .type "list", data := .seq vs.toArray }, by show (if a ∈ ts then _ else _) = _; rw [if_neg aT, if_pos rfl]⟩), fun b u z => ?_, fun b z => ?_⟩
      · by_cases q : b ∈ ts
        · exact .inl ⟨q, if_pos q⟩
        · refine .inr ⟨q, ?_⟩
          show (if b ∈ ts then _ else _) = _ ∨ ∃ ob xs, (if b ∈ ts then _ else _) = _
          rw [if_neg q]
          by_cases e : b = a
          · exact .inr ⟨_, _, if_pos e⟩
          · exact .inl (if_neg e)
      · by_cases q : b ∈ ts
        · cases (if_pos q).symm.trans z
          exact isT b q
        · have z1 := (if_neg q).symm.trans z
          by_cases e : b = a
          · subst e
            cases (if_pos rfl).symm.trans z1
            exact ⟨hobj, by rw [List.length_map]; exact hl, vs, _, rv, hobj⟩
          · cases (if_neg e).symm.trans z1
      · by_cases q : b ∈ ts
        · exact .inl q
        · refine .inr ?_
          have z1 : (if b = a then some (HO.frz { cls := .type "list", data := .seq vs.toArray } (.lst (ns.map V.int))) else none) ≠ none := fun y => z ((if_neg q).trans y)
          by_cases e : b = a
          · exact ⟨e, rfl⟩
          · exact absurd (if_neg e) z1
  have noH : ∀ {b : Addr} {ob : Obj}, s.heap.get? b = some ob → (∀ vs n, ob.data ≠ .seq vs n) → ob.data ≠ .fields #[] → H b = none := fun {b ob} e h1 h2 => by
    cases z : H b with
    | none => rfl
    | some u =>
      rcases free b (by rw [z]; simp) with q | ⟨q, _⟩
      · rw [isT b q] at e
        cases e
        exact absurd rfl h2
      · rw [q, hobj] at e
        cases e
        exact absurd rfl (h1 _ _)
  have nons : ∀ {b : Addr} {m : Str → Option Value}, s.heap.Ns b m → (hidT s.heap H).Ns b m := fun {b m} ⟨ob, es, ep, e, dd, r⟩ => ⟨ob, es, ep, hidT_get e (noH e (fun _ _ z => nomatch dd.symm.trans z) fun z => nomatch dd.symm.trans z), dd, r⟩
  have Kb : K.In (hidT s.heap H) := fun b ob e => hidT_get (KX b ob e) (by
    cases z : H b with
    | none => rfl
    | some u =>
      rcases free b (by rw [z]; simp) with q | ⟨q, q2⟩
      · rw [kT b q] at e
        cases e
      · rw [q, q2] at e
        cases e)
  have M : Mod K mg (hidT s.heap H) := ⟨Kb, nons hns, ⟨mb, nons hb, hbb⟩, let ⟨mc, h1, h2⟩ := hlim; ⟨mc, nons h1, h2⟩⟩
  have e0 : Env0 P w K mg (hidT s.heap H) callerA [] s H := ⟨rfl, M, fun b ob e => of_hidT e, Nat.le_of_eq (hidT_size _ _), trivial, fun b z => (by cases z), hok, PyProof.Rows.AllBare.of_eq hg⟩
  have TB : ∀ p ∈ ms, TabB (hidT s.heap H) mg p.1 p.2.1 := fun p hp => by
    obtain ⟨h1, h2, h3⟩ := hms p hp
    refine ⟨?_, ?_, fun z => ?_⟩
    · obtain ⟨o, us, file, tf, flags, tg, inF, text, tt, e1, r1, r2, r3, r⟩ := h3
      refine ⟨o, us, file, tf, flags, tg, inF, text, tt, hidT_get e1 (noH e1 (fun _ _ z => nomatch r2.symm.trans z) fun z => ?_), r1, r2, r3, r⟩
      rw [r2] at z
      cases z
      simp at r3
    · obtain ⟨bm, ob, b1, b2, b3, b4, b5, b6⟩ := hbm
      refine ⟨bm, ob, b1, b2, fun q => ?_, fun q => ?_, hidT_get b3 (noH b3 (fun _ _ z => nomatch b6.symm.trans z) fun z => nomatch b6.symm.trans z), b4, b5, b6⟩
      · obtain ⟨o, es, ep, e, hd, _⟩ := hns
        rw [q, e] at b3
        cases b3
        cases hd.symm.trans b6
      · rw [q, h1] at b3
        cases b3
        cases b6
    · obtain ⟨o, es, ep, e, hd, _⟩ := hns
      rw [z, h1] at e
      cases e
      cases hd
  let _ : Tbs := tsOf ms
  let Z0 : Hp := fun b => if b ∈ ts then none else H b
  have zle : ∀ b u, Z0 b = some u → b ∉ ts ∧ H b = some u := fun b u e => by
    by_cases q : b ∈ ts
    · cases (if_pos q).symm.trans e
    · exact ⟨q, (if_neg q).symm.trans e⟩
  let g0 : G := ⟨Z0, [], []⟩
  have sr0 : Sr K g0 [] H := ⟨fun b u e => (zle b u e).2, rfl, List.nodup_nil, fun b z => (by cases z), fun i b c z _ => (by cases (show ([] : List Addr)[i]? = some b from z)), fun p z => (by cases z), List.nodup_nil, fun b u e => (by
    obtain ⟨q1, q2⟩ := zle b u e
    rcases only b with ⟨z, _⟩ | ⟨_, z | ⟨ob, xs, z⟩⟩
    · exact absurd z q1
    · rw [z] at q2
      cases q2
    · rw [z] at q2
      cases q2
      nofun), fun p z => (by cases z), fun p hp => (by
    obtain ⟨q, hq, e⟩ := List.mem_map.mp hp
    subst e
    have hq' : q.2.1 ∈ ts := List.mem_map.mpr ⟨q, hq, rfl⟩
    rcases only q.2.1 with ⟨_, z⟩ | ⟨z, _⟩
    · exact TabS.nil z
    · exact absurd hq' z)⟩
  have sqZ : SqL K Z0 a (ns.map V.int) := by
    have ea : Z0 a = H a := if_neg aT
    rcases seq with (z | ⟨o, z⟩) | z
    · exact .inl (.inl (ea.trans z))
    · exact .inl (.inr ⟨o, ea.trans z⟩)
    · exact .inr z
  have sp0 : dSp K (spLaw n) [.ref a] H (fun v _ => v = .bl true) fun _ _ _ => False :=
    ⟨g0, [], ⟨ns, hlen⟩, sr0, .cons ⟨a, rfl, sqZ⟩ .nil, rfl, fun dd cs' z g' H' v _ _ r => by
      have z' : dd = .bl true := z
      subst z'
      exact r, fun x cs' z => z.elim⟩
  refine codeAny_mono ((hF _ Kb (nons hns) TB).run callerA [] s H ⟨[.ref a], []⟩ [.ref a] [.ref a] _ _ hr e0 (hbind s (.ref a)) (.cons rfl .nil) sp0) fun r s' h => ?_
  cases r with
  | error e => exact (show False from h).elim
  | ok fl =>
    cases fl with
    | next => exact h.elim
    | brk => exact h.elim
    | cont => exact h.elim
    | ret u =>
      obtain ⟨v, H', os, bare, un, hok', r', z⟩ := h
      cases (show v = .bl true from z)
      cases (show u = Value.bool true from r')
      have key : ∀ b ob, b ∉ ts → s.heap.get? b = some ob → s'.heap.get? b = some ob := fun b ob nb e => by
        rcases only b with ⟨z, _⟩ | ⟨_, z | ⟨ob', xs, z⟩⟩
        · exact absurd z nb
        · exact un.keep b ob e z (by simp [frs]) (by simp)
        · obtain ⟨e1, _⟩ := hok b _ z
          obtain ⟨e2, _⟩ := hok' b _ (un.frzs b ob' _ z)
          rw [e] at e1
          cases e1
          exact e2
      have grown : ∀ b ∈ ts, ∃ more : Array Value, s'.heap.get? b = some { cls := .none, data := .fields more } := fun b hb => by
        rcases only b with ⟨_, z⟩ | ⟨z, _⟩
        · obtain ⟨more, y⟩ := un.tbls b #[] z
          exact ⟨_, hok' b _ y⟩
        · exact absurd hb z
      refine ⟨rfl, ⟨fun b o e => ?_, fun b o e => ?_⟩, os, bare⟩
      · by_cases hb : b ∈ ts
        · obtain ⟨p, hp, ep⟩ := List.mem_map.mp hb
          obtain ⟨more, hm⟩ := grown b hb
          obtain ⟨h1, h2, h3⟩ := hms p hp
          have ep' : p.2.1 = b := ep
          rw [← ep'] at e hm ⊢
          rw [h1] at e
          cases e
          exact .inr (.inl ⟨(h3.tab h1).isCodeTable, rfl, #[], more, rfl, by rw [Array.empty_append]; exact hm⟩)
        · exact .inl (key b o hb e)
      · by_cases hb : b ∈ ts
        · obtain ⟨more, hm⟩ := grown b hb
          exact ⟨_, hm⟩
        · exact ⟨o, key b o hb e⟩
theorem walk_DT {l : PySem.W.OpenLaw} {n k : Nat} {q : Program} {loose : List Str} {XP : (Str → Option Value) → Heap → Prop} {YP : World → Heap → Prop} {d : DefRec} {K : Params → PySem.W.Frag} {x : Str}
    (hn : l.most = some n) (hn2 : n ≤ sizeLine) (hdf : d.params.defaults = []) (hr : RoomG k callerA) (hY : ∀ (w : World) (h : Heap), YP w h → (K w.params).In h)
    (F : ∀ (w : World) (mg : Str → Option Value) (fa : Addr) (h : Heap), YP w h → (K w.params).In h → h.Ns mainGlobals mg → mg d.name = some (.ref fa) →
      ∃ (fd : FuncData) (ms : List Mkr), (∀ p ∈ ms, h.get? p.2.1 = some { cls := .none, data := .fields #[] } ∧ (K w.params).lookup p.2.1 = none ∧ PySem.W.CodeHd h p.1 p.2.1) ∧ (∀ (s : Shared) (u : Value), BindsTo s fd ⟨[u], []⟩ [(x, u)]) ∧
        ∀ base : Heap, (K w.params).In base → base.Ns mainGlobals mg → (∀ p ∈ ms, TabB base mg p.1 p.2.1) → FnG l.prog w (K w.params) mg base CX0 k fa fd [x] (@dSp (tsOf ms) (K w.params) (spLaw n))) :
    PySem.W.WalkO q loose XP YP l.row.toRowW d [] (fun f vs => PySem.call f vs) := by
  refine Att.attach_call hn hdf fun w s₀ s mg mb fa o pm cd doc a vs ns Gr Y ho hd hcd hmg hobj hints hlen hg => ?_
  have KX := hY w _ Y
  obtain ⟨fd, ms, hms, hb, hF⟩ := F w mg fa _ Y KX Gr.T.g hmg
  exact call_DT KX Gr.T.g Gr.T.b Gr.T.builtins Gr.T.nolimit hg hms Gr.T.bmain hobj hints hlen hn2 hr hF hb
end DL

/-! DLam: a lambda handed to a def that calls it and hears the error; calls of defs held in names; isinstance of errors. -/
namespace DL
open PySem PySem.Spec PyProof.Rows L2 LamX
variable [Tbs]
theorem RoomG.deeper {k : Nat} {A : Around} (h : RoomG (k + 1) A) (e : PySem.Env) : RoomG k (A.deeper e) := ⟨h.r.deeper _, h.gd⟩
theorem Sr.extN {K : PySem.W.Frag} {g : G} {cs : Sto} {H H1 : Hp} (s : Sr K g cs H) (e : ExtN H H1) (t : Tabs Tbs.ts H1) : Sr K g cs H1 := by
  refine ⟨fun a o q => e a o (s.le a o q) (s.tz a o q), s.len, s.nd, fun a ha => ?_, fun i a c h1 h2 => ?_, fun p hp => ?_, s.rn, s.tz, s.rt, t⟩
  · obtain ⟨q1, q2⟩ := s.th a ha
    cases z : H a with
    | none => exact absurd z q1
    | some o =>
      have q3 := e a o z fun ps y => q2 ps (by rw [z, y])
      rw [q3, ← z]
      exact ⟨q1, q2⟩
  · have q := s.ok i a c h1 h2
    cases c with
    | lst ds => obtain ⟨vs, q1, q2, q3⟩ := q; exact ⟨vs, e _ _ q1 (nofun), q2, q3⟩
    | ins C ds => obtain ⟨dx, vs, q1, q2, q3⟩ := q; exact ⟨dx, vs, e _ _ q1 (nofun), q2, q3⟩
    | dic ds => obtain ⟨vs, q1, q2, q3⟩ := q; exact ⟨vs, e _ _ q1 (nofun), q2, q3⟩
    | dead => trivial
  · obtain ⟨q1, q2, q3⟩ := s.rs p hp
    exact ⟨e _ _ q1 (s.rt p hp).t, q2, q3⟩
theorem DN.le.trans' {a b c : DN} (h : DN.le a b) (k : DN.le b c) : DN.le a c := ⟨fun _ _ q => k.nx _ _ (h.nx _ _ q), fun _ _ q => k.rt _ _ (h.rt _ _ q), fun _ _ q => k.bk _ _ (h.bk _ _ q), fun _ _ q => k.ct _ _ (h.ct _ _ q)⟩
/-! ### what a def answers that calls what it got and hears the error -/
abbrev HeardR := Option XD → D → Prop
/-- what is asked of the lambda's run, so that the def that hears it comes to Q -/
def TTd (K : PySem.W.Frag) (R : HeardR) (tl : XK → Hp → VK → Prop) (H : Hp) (Q : VK) : Prop :=
  tl (fun cls d H1 => ∃ g cs x dd ws r, cls = .ref x.C ∧ d = some dd ∧ Sr K g cs H1 ∧ g.Z dd = some (.xd ws) ∧ RepF K g x.fs ws ∧ R (some x) r ∧ upV K g Q r cs) H fun _ H1 => ∃ g cs r, Sr K g cs H1 ∧ R none r ∧ upV K g Q r cs
abbrev MonoL (tl : XK → Hp → VK → Prop) : Prop := ∀ (E E' : XK) (H : Hp) (Q Q' : VK), (∀ c d H, E c d H → E' c d H) → (∀ v H, Q v H → Q' v H) → tl E H Q → tl E' H Q'
def Hears (P : Program) (w : World) (K : PySem.W.Frag) (mg : Str → Option Value) (base : Heap) (k : Nat) (Ng : List Str) (x : Str) (sg : Scope) (g : Addr) (cdg : Value) (bg : List Stmt) (a : Str) (R : HeardR) : Prop :=
  ∀ (A : Around) (outer : List PySem.Env) (s : Shared) (H : Hp) (Q : VK) (f c' : Addr) (q : Str) (tl : XK → Hp → VK → Prop), RoomG k (A.deeper (envOfC x sg s.heap.objs.size g cdg)) → MonoL tl →
    (∀ (W : WX) (pn : List (Addr × Obj)) (xe : Value → Shared → Prop) (E : XK) (p1 p2 : Pos), L2.Takes ((cxOf CX0 P w K mg base Ng x sg g cdg A outer s H E0).tr pn xe) W → (∀ cls d σ' H', E cls d H' → W cls d σ' H') →
      PE ((cxOf CX0 P w K mg base Ng x sg g cdg A outer s H E0).tr pn xe) (.Call (.Name a p1) [] [] p2) (fun σZ HZ Q => σZ[0]? = some (some (.ref f)) ∧ HZ c' = some (CodeO c' q) ∧ tl E HZ Q)) →
    H c' = some (CodeO c' q) → TTd K R tl H Q →
    ∃ t, PSs (cxOf CX0 P w K mg base Ng x sg g cdg A outer s H E0).nox bg t ∧ t { nx := fun _ H' => Q .non H', rt := Q } (start Ng [.ref f]) H
def wHeard (R : HeardR) (w : WD → WE) : WE := fun env cs Q => w (fun x cs' => ∃ r, R (some x) r ∧ Q r cs') env cs fun _ cs' => ∃ r, R none r ∧ Q r cs'
theorem wHeard.mo {R : HeardR} {w : WD → WE} (m : MonoEX w) : MonoE (wHeard R w) := fun env cs Q Q' h q => m _ _ env cs _ _ (fun x cs' ⟨r, q1, q2⟩ => ⟨r, q1, h _ _ q2⟩) (fun d cs' ⟨r, q1, q2⟩ => ⟨r, q1, h _ _ q2⟩) q
section
variable {P : Program} {w : World} {K : PySem.W.Frag} {mg : Str → Option Value} {base : Heap}
/-- such a def: c = None; try: a() / except ..; what follows -/
theorem hears_mk {k : Nat} {Ng : List Str} {x a c : Str} {sg : Scope} {g : Addr} {cdg : Value} {R : HeardR} {n i : Nat} {j0 : Nat} {p0 p1 p2 p3 p4 p5 pt : Pos} {h₀ : ExceptHandler} {hds : List ExceptHandler} {rest : List Stmt} (Sg : FnScope Ng [a] sg) (hn : Ng.length = n) (hi : Ng[i]? = some c) (h0 : i ≠ 0) (hl0 : 0 < n)
    (hx : Loc sg c) (hf : sg.names.lookup c = some .local) (hs0 : ∀ env : PySem.Env, swapsWith (.Constant .none j0 p4) (some (.Name c p0)) p5.line env = pure false)
    (hs1 : ∀ env : PySem.Env, swapsWith (.Call (.Name a p1) [] [] p2) none p3.line env = pure false)
    (hb : ∀ (A : Around) (outer : List PySem.Env) (s : Shared) (H : Hp), RoomG k (A.deeper (envOfC x sg s.heap.objs.size g cdg)) →
      ∃ (l : List (Value × Option Nat × WS)) (wr : WS), HdD (cxOf CX0 P w K mg base Ng x sg g cdg A outer s H E0).nox (h₀ :: hds) l ∧ DSs (cxOf CX0 P w K mg base Ng x sg g cdg A outer s H E0).nox rest wr ∧
        (∀ cs r, R none r → wr { nx := fun _ cs' => r = .non ∧ cs' = cs, rt := fun d cs' => d = r ∧ cs' = cs } ((List.replicate n none).set i (some .non)) cs) ∧
        ∀ xd cs r, R (some xd) r → wHdD K n (fun _ _ => False) { nx := fun env cs' => wr { nx := fun _ cs' => r = .non ∧ cs' = cs, rt := fun d cs' => d = r ∧ cs' = cs } env cs', rt := fun d cs' => d = r ∧ cs' = cs } l xd cs) :
    Hears P w K mg base k Ng x sg g cdg (.Assign [.Name c p0] (.Constant .none j0 p4) p5 :: .Try [.Expr (.Call (.Name a p1) [] [] p2) p3] (h₀ :: hds) [] [] pt :: rest) a R := by
  intro A outer s H Q f c' q tl hr ml act hc h
  obtain ⟨l, wr, hh, hd, hN, hX⟩ := hb A outer s H hr
  let X := (cxOf CX0 P w K mg base Ng x sg g cdg A outer s H E0).nox
  have key := ps_try_own (X := X) (body := [.Expr (.Call (.Name a p1) [] [] p2) p3]) (pos := pt)
    (tb := fun W D σ H => σ[0]? = some (some (.ref f)) ∧ H c' = some (CodeO c' q) ∧ tl (fun cls d H => ∀ σ : L2.St, σ.length = n → W cls d σ H) H (fun _ H' => D.nx σ H')) (Wout := fun _ _ _ _ => False) rfl rfl takes0
    (fun W pn xe t p => pss_one (PS.imp (ps_expr (act (fun cls d σ H => ∀ σ : L2.St, σ.length = n → W cls d σ H) pn xe (fun cls d H => ∀ σ : L2.St, σ.length = n → W cls d σ H) p1 p2
        (fun u s' ⟨a, B, sI, pins, σ, H, cls, d, e, I, nb, up, sky, na, os, ag, w⟩ => t u s' ⟨a, B, sI, pins, σ, H, cls, d, e, I, nb, up, sky, na, os, ag, w σ (by rw [← hn]; exact I.len)⟩) (fun _ _ _ _ z => z)) (hs1 _)) fun D σ H ⟨h1, h2, h3⟩ => ⟨h1, h2, h3⟩)) hh.low
  refine ⟨_, pss_cons (ps_set (i := i) (X := X) Sg.nd hi hx pe_non (hs0 _) (.inl rfl)) (pss_cons key hd.pe), ?_⟩
  have hl1 : (start Ng [V.ref f]).length = n := by
    have : (start Ng [V.ref f]).length = Ng.length := by simp [L2.start]; omega
    rw [this, hn]
  have hl2 : ((start Ng [V.ref f]).set i (some .non)).length = n := by rw [List.length_set, hl1]
  have hz : ((start Ng [V.ref f]).set i (some .non))[0]? = some (some (.ref f)) := by
    rw [List.getElem?_set_ne h0]
    rfl
  have up : ∀ (g : G) (cs : Sto) (r : D), upV K g Q r cs → DN.le { nx := fun _ cs' => r = .non ∧ cs' = cs, rt := fun d cs' => d = r ∧ cs' = cs } (upN K g { nx := fun _ H' => Q .non H', rt := Q }) := fun g cs r hq =>
    ⟨fun env cs' z g' H' σ e s' l' => by
      obtain ⟨rfl, rfl⟩ := z
      exact hq g' H' .non e s' rfl, fun d cs' z => by
      obtain ⟨rfl, rfl⟩ := z
      exact hq, fun _ _ z => (show False from z).elim, fun _ _ z => (show False from z).elim⟩
  refine ⟨hz, hc, ml _ _ _ _ _ (fun cls d H1 => ?_) (fun v H1 => ?_) h⟩
  · rintro ⟨g, cs, xd, dd, ws, r, rfl, rfl, s1, z1, rf, hR, hq⟩ σ hσ
    have hle : DN.le { nx := fun env cs' => wr { nx := fun _ cs' => r = .non ∧ cs' = cs, rt := fun d cs' => d = r ∧ cs' = cs } env cs', rt := fun d cs' => d = r ∧ cs' = cs } (upN K g { nx := fun σ H => lowS K wr { nx := fun _ H' => Q .non H', rt := Q } σ H, rt := Q }) := by
      refine ⟨fun env cs' z => ?_, fun d cs' z => ?_, fun _ _ z => (show False from z).elim, fun _ _ z => (show False from z).elim⟩
      · intro g' H' σ' e s' l'
        exact lowS.go hd.mo s' l' z ((up g cs r hq).trans' (upN.mono e _))
      · obtain ⟨rfl, rfl⟩ := z
        exact hq
    exact hds_low (Wl := fun _ _ _ => False) hh.mo xd cs (wHdD_mo (fun _ _ z => (show False from z).elim) hle hh.mo xd cs (hX xd cs r hR)) g H1 dd ws (Ext.refl g) s1 z1 rf σ hσ
  · rintro ⟨g, cs, r, s1, hR, hq⟩
    exact lowS.go hd.mo s1 ((Lr.empty hl1).set (d := .non) rfl) (hN cs r hR) (up g cs r hq)
end
/-! ### the lambda -/
section
variable {X : Cx}
theorem act_D {pins : List (Addr × Obj)} {σ : L2.St} {H : Hp} {s : Shared} {Ng : List Str} {qg : Str} {sg : Scope} {g f c' : Addr} {cdg pm ctv : Value} {params : Arguments} {body : Expr} {scope : Scope} {k i : Nat} {a : Str} {pn : List (Addr × Obj)} {xe : Value → Shared → Prop} {W : WX} {E : XK} {tb : TE} {p1 p2 : Pos}
    (I : Inv X pins σ H s) (L : LamS X.env.scope scope) (hf : s.heap.get? f = some (PySem.W.kla_obj "<lambda>" (X.env.qual ++ "<lambda>") params body scope (cloFrom X.env.cells scope.names []) pm c' ctv)) (hfn : H f = none) (hfr : f ∉ frs X.stack)
    (hbind : bindArgs (PySem.W.kla_fn "<lambda>" (X.env.qual ++ "<lambda>") params body scope (cloFrom X.env.cells scope.names []) pm (.ref c') ctv) ⟨[], []⟩ = pure [])
    (tk : L2.Takes ((cxOf CX0 X.prog X.w X.K X.mg X.base Ng qg sg g cdg X.A X.stack s H E0).tr pn xe) W) (hW : ∀ cls d σ' H', E cls d H' → W cls d σ' H') (hr : RoomG (k + 1) (X.A.deeper (envOfC qg sg s.heap.objs.size g cdg)))
    (hbody : ∀ (A : Around) (outer : List PySem.Env) (s : Shared) (H : Hp), RoomG k (A.deeper (lamEnv X scope s.heap.objs.size f c')) → PE (lamCx X A outer s H E scope f c') body tb)
    (hN : Ng[i]? = some a) (hv : Vis sg a) (hd : (a == ("__debug__" : Str)) = false := by decide) (hcd : (a == ("__classdict__" : Str)) = false := by decide) :
    PE ((cxOf CX0 X.prog X.w X.K X.mg X.base Ng qg sg g cdg X.A X.stack s H E0).tr pn xe) (.Call (.Name a p1) [] [] p2)
      (fun σZ HZ Q => σZ[i]? = some (some (.ref f)) ∧ HZ c' = some (CodeO c' (X.env.qual ++ "<lambda>")) ∧ tb σ HZ Q) := by
  refine ⟨fun pinsZ sZ σZ HZ Q IZ h => ?_⟩
  obtain ⟨hs, hc, ht⟩ := h
  refine wpAny_Call_Name_kw (thn ((pe_var (pos := p1) (i := i) hN hv hd hcd).run pinsZ sZ σZ HZ (fun v H1 => v = .ref f ∧ H1 = HZ) IZ ⟨.ref f, hs, rfl, rfl⟩) fun u s1 ⟨v, H1, I1, r1, q1⟩ => ?_)
  obtain ⟨ev, eH⟩ := q1
  subst ev
  rw [eH] at I1
  obtain rfl : u = Value.ref f := r1
  have of1 : s1.heap.get? f = some (PySem.W.kla_obj "<lambda>" (X.env.qual ++ "<lambda>") params body scope (cloFrom X.env.cells scope.names []) pm c' ctv) := I1.base.keep f _ hf hfn hfr (fun z => nomatch (show f ∈ ([] : List Addr) from z))
  refine PySem.W.callWith_F0 ⟨_, _, _, _, of1⟩ ?_
  have un : Un (frs X.stack) [] H HZ s.heap s1.heap := I1.base
  obtain ⟨⟨oc, vs, t, hoc, hdc, hvc⟩, _, _⟩ := I1.hok c' _ hc
  have rc : codeAny (model X.prog X.w) (X.A.deeper (envOfC qg sg s.heap.objs.size g cdg)) (.call (.ref f) ⟨[], []⟩) (CR (L2.CX X.prog X.w) (envOfC qg sg s.heap.objs.size g cdg :: X.stack) X.prog X.w HZ s1 Q E) s1 := by
    refine PySem.W.kla_callFunE hr.r.depth of1 rfl L.co L.gen rfl ⟨c', oc, vs, t, rfl, hoc, hdc, hvc⟩ ?_
    rw [hbind]
    refine wpAny_pure (wpAny_newFunctionEnv (fun y hy => (L.own y hy).2) (fun y hy => absurd hy (by simp)) (fun h₁ hns hsb => ⟨I1.nolimit.fresh _ hsb, ?_⟩) L.kind)
    show codeAny _ _ (.expr body (lamEnv X scope s1.heap.objs.size f c')) _ _
    have kp : ∀ b o, s1.heap.get? b = some o → h₁.get? b = some o := fun b o e => hsb.extBut b o (Nat.ne_of_lt (Heap.lt_size e)) (Heap.get?_push_of_some _ e)
    have J : Inv (lamCx X (X.A.deeper (envOfC qg sg s.heap.objs.size g cdg)) (envOfC qg sg s.heap.objs.size g cdg :: X.stack) s1 HZ E scope f c') [] σ HZ { s1 with heap := h₁, toks := s1.toks + ([] : List (Str × Value)).length } :=
      lam_start2 I L I1.env0 hr.r.hd un hns kp
    refine PySem.W.kla_codeExpr (wpAny_mono ((hbody _ _ s1 HZ (hr.deeper _)).run [] _ _ HZ Q J ht) (fun v s' hq => ?_) fun e s' hq => hq)
    obtain ⟨w', H', J', rv, q⟩ := hq
    exact ⟨w', H', J'.os, J'.bare, J'.base, J'.hok, rv, q⟩
  have hx : Passes (L2.CX X.prog X.w) ((cxOf CX0 X.prog X.w X.K X.mg X.base Ng qg sg g cdg X.A X.stack s H E0).tr pn xe) E := passes_call tk hW
  refine wpAny_call (codeAny_mono rc fun r s' hq => ?_)
  cases r with
  | error e => exact hx pinsZ σZ HZ s1 e s' I1 hq
  | ok fl =>
    cases fl with
    | ret u => exact I1.after hq
    | next => exact False.elim hq
    | brk => exact False.elim hq
    | cont => exact False.elim hq
/-- the def that makes lambdas: its code object, and that one's table -/
structure MkrF (X : Cx) (c P : Addr) : Prop where
  code : X.env.code = .ref c
  tb : TabB X.base X.mg c P
  mem : (P, X.env.qual ++ "<lambda>") ∈ Tbs.ts
  one : ∀ p ∈ Tbs.ts, p.1 = P → p.2 = X.env.qual ++ "<lambda>"
theorem mkrF_of {c P : Addr} (q : Str) (h1 : X.env.code = .ref c) (hq : X.env.qual = q) (tb : TabB X.base X.mg c P) (mem : (P, q ++ "<lambda>") ∈ Tbs.ts) (one : ∀ p ∈ Tbs.ts, p.1 = P → p.2 = q ++ "<lambda>") : MkrF X c P := by
  subst hq
  exact ⟨h1, tb, mem, one⟩
/-- the def that hears: where it is, how it is called -/
structure HearF (P : Program) (w : World) (K : PySem.W.Frag) (mg : Str → Option Value) (base : Heap) (k : Nat) (x : Str) (R : HeardR) : Prop where
  it : ∃ (Ng : List Str) (g : Addr) (a : Str) (pg : Arguments) (bg : List Stmt) (sg : Scope) (dV kV doc pm cdv ct oc : Value) (an od : Option Addr) (osl : Array (Option Value)),
    mg x = some (.ref g) ∧ PySem.W.keepIn K (.ref g) = true ∧ K.lookup g = some ⟨oc, od, .func (PySem.W.fnOf x x pg bg sg dV kV doc pm an cdv ct), osl⟩ ∧ PySem.W.codeIn K cdv x = true ∧ L2.Binds K (PySem.W.fnOf x x pg bg sg dV kV doc pm an cdv ct) [a] [] ∧ FnScope Ng [a] sg ∧ Ng[0]? = some a ∧ Vis sg a ∧
      (a == ("__debug__" : Str)) = false ∧ (a == ("__classdict__" : Str)) = false ∧ Hears P w K mg base k Ng x sg g cdv bg a R
/-- x(lambda: body) -/
theorem de_heard {x : Str} {c P : Addr} {k : Nat} {R : HeardR} {params : Arguments} {body : Expr} {scope : Scope} {w : WD → WE} {p lpos pos : Pos} (HF : HearF X.prog X.w X.K X.mg X.base (k + 1) x R) (M : MkrF X c P) (hr : RoomG (k + 2) X.A) (L : LamS X.env.scope scope)
    (hbody : ∀ (A : Around) (outer : List PySem.Env) (s : Shared) (H : Hp) (E : XK) (f c' : Addr), RoomG k (A.deeper (lamEnv X scope s.heap.objs.size f c')) → DEX (lamCx X A outer s H E scope f c') body w) (hg : Gl X x := by rfl) (hdef : defaultsOf params X.env = ([], []) := by rfl)
    (hbind : ∀ (q : Str) (cl : List (Str × Addr)) (pm cv ctv : Value), bindArgs (PySem.W.kla_fn "<lambda>" q params body scope cl pm cv ctv) ⟨[], []⟩ = pure [] := by intros; rfl)
    (hdb : (x == ("__debug__" : Str)) = false := by decide) : DE X (.Call (.Name x p) [.Lambda params body scope lpos] [] pos) (wHeard R w) := by
  obtain ⟨Ng, g, a, pg, bg, sg, dV, kV, doc, pm, cdv, ct, oc, an, od, osl, hm, hk, lk, hcg, hb, Sg, hNg, hva, hd, hcd, hears⟩ := HF.it
  have mo : MonoEX w := (hbody X.A [] {} (fun _ => none) E0 0 0 (RoomG.deeper (hr.mono (by omega)) _)).mo
  refine ⟨⟨fun pins s σ H Q I h => ?_⟩, wHeard.mo mo⟩
  obtain ⟨g0, cs, env, sr, l, h⟩ := h
  refine wpAny_Call_Name_kw (ld_glob I hg hm ?_ hdb)
  refine PySem.W.callWith_K (h₀ := X.base) I.ok.mod.kin hk ?_ (by rfl) (by rfl)
  show wpAny _ _ (spliced ((false, eval (.Lambda params body scope lpos) X.env) :: backTo pos (starEach [] X.env))) _ _ s
  refine Calls.spliced_cons (lam_make2 I M.tb M.code M.mem M.one sr.tb hdef (L.has I.ok) fun f c' pm' ctv H1 s' I1 eN T1 hf hfn hfr hco => ?_)
  refine Calls.spliced_nil ⟨I1.kIn, ?_⟩
  have sr1 : Sr X.K g0 cs H1 := sr.extN eN T1
  have rc : codeAny (model X.prog X.w) X.A (.call (.ref g) ⟨[.ref f], []⟩) (CR CX0 X.stack X.prog X.w H1 s' Q E0) s' := by
    refine run_ofS (N := Ng) (ps := [a]) (us := [.ref f]) (vs := [.ref f]) lk hcg Sg hr.r I1.env0 (hb s' [.ref f] I1.kIn rfl) (.cons rfl .nil) rfl fun hr' => ?_
    obtain ⟨t', ht', hq'⟩ := hears X.A X.stack s' H1 Q f c' (X.env.qual ++ "<lambda>") (fun E H' Q' => lowEX X.K E w σ H' Q') ⟨hr', hr.gd⟩
      (fun E E' H Q Q' hE hQ ⟨g, cs, env, s, l, h⟩ => ⟨g, cs, env, s, l, mo _ _ env cs _ _ (fun x cs' z g' H' d ws e s' hz rf => hE _ _ _ (z g' H' d ws e s' hz rf)) (fun d cs' z g' H' v e s' r => hQ _ _ (z g' H' v e s' r)) h⟩)
      (fun W pn xe E p1 p2 tk hW => act_D (i := 0) I1 L hf hfn hfr (hbind _ _ _ _ _) tk hW ⟨hr', hr.gd⟩ (fun A outer s H hr2 => (hbody A outer s H E f c' hr2).pe E (L2.takes_of rfl rfl rfl rfl)) hNg hva hd hcd) hco
      ⟨g0, cs, env, sr1, l, mo _ _ env cs _ _ (fun xd cs' ⟨r, hR, hq⟩ g' H' d ws e s' hz rf => ⟨g', cs', xd, d, ws, r, rfl, rfl, s', hz, rf, hR, upV.mono e hq⟩) (fun d cs' ⟨r, hR, hq⟩ g' H' v e s' rv => ⟨g', cs', r, s', hR, upV.mono e hq⟩) h⟩
    exact ⟨t', ht'.nox, hq'⟩
  refine wpAny_call (codeAny_mono rc fun r s2 hq => ?_)
  cases r with
  | error e => exact (show False from hq).elim
  | ok fl =>
    cases fl with
    | ret u => exact I1.after hq
    | next => exact False.elim hq
    | brk => exact False.elim hq
    | cont => exact False.elim hq
end
/-! ### a def that makes lambdas -/
section
variable {P : Program} {w : World} {K : PySem.W.Frag} {mg : Str → Option Value} {base : Heap}
structure FunC (K : PySem.W.Frag) (name qual : Str) (st : Stmt) (f : Addr) (fd : FuncData) (c : Addr) : Prop where
  ex : ∃ (oc : Value) (od : Option Addr) (kV doc pm : Value) (an : Option Addr) (ct : Value) (osl : Array (Option Value)), fd = PySem.W.fnOf name qual (defArgs st) (defBody st) (defScope st) .none kV doc pm an (.ref c) ct ∧ K.lookup f = some ⟨oc, od, .func fd, osl⟩ ∧ PySem.W.codeIn K (.ref c) qual = true
theorem dfunC {k : Nat} {f c : Addr} {name qual : Str} {st : Stmt} {fd : FuncData} {N ps : List Str} {sp : FSpec} (F : FunC K name qual st f fd c) (S : FnScope N ps (defScope st)) (len : ∀ i, (sp.args i).length = ps.length)
    (h : ∀ (A : Around) (outer : List PySem.Env) (s : Shared) (H : Hp) (E : XK), RoomG k (A.deeper (envOfC qual (defScope st) s.heap.objs.size f (.ref c))) → ∃ wS, DSs (cxOf CX0 P w K mg base N qual (defScope st) f (.ref c) A outer s H E).nox (defBody st) wS ∧
      ∀ i cs, sp.pre i cs → wS { nx := fun _ cs' => sp.res i cs .non cs', rt := fun d cs' => sp.res i cs d cs' } (startE N.length (sp.args i)) cs) : FnG P w K mg base CX0 (k + 1) f fd ps (dSp K sp) := by
  obtain ⟨oc, od, kV, doc, pm, an, ct, osl, rfl, lk, hcd⟩ := F.ex
  have len' : ∀ vs H Q E, dSp K sp vs H Q E → vs.length = ps.length := fun vs H Q E ⟨g, cs, i, _, r, _⟩ => r.length.symm.trans (len i)
  refine ⟨len', ?_⟩
  intro A outer s H args us vs Q E hr e0 hb r hsp
  have stays : ∀ b o, base.get? b = some o → s.heap.get? b = some o := fun b o e => (e0.bs b o e).1
  have KX : K.In s.heap := e0.mod.kin.keeps stays
  refine codeAny_call_function hr.r.depth (KX _ _ lk) rfl S.co S.gen rfl (PySem.W.codeRec_of KX hcd) (hb _ _ _ _ ?_)
  have kinds : ∀ y ∈ ps.zip us, (defScope st).names.lookup y.1 = some .local ∨ ((defScope st).names.lookup y.1 = some .cell ∧ ((cellsFrom (s.heap.objs.size + 1) (defScope st).names []).lookup y.1).isSome = true) := by
    intro y hy
    cases S.par y.1 (List.of_mem_zip hy).1 with
    | inl q => exact .inl q
    | inr q => exact .inr ⟨q, PySem.W.cellsFrom_some _ _ _ (.inl q)⟩
  refine wpAny_newFunctionEnv_cells S.kind kinds fun env he s1 x => ?_
  subst he
  refine ⟨(e0.mod.nolimit.keeps stays).keeps x.toInCall.keep, codeAny_func ?_⟩
  have hr' : RoomG k (A.deeper (envOfC qual (defScope st) s.heap.objs.size f (.ref c))) := ⟨hr.r.deeper _, hr.gd⟩
  obtain ⟨wS, hd, hw⟩ := h A outer s H E hr'
  have I := inv_start (CX := CX0) S hr.r.hd e0 (len' _ _ _ _ hsp) r x (E := E)
  obtain ⟨g, cs, i, sr, rp, hp, hq, _⟩ := hsp
  have low : lowS K wS { nx := fun _ H' => Q .non H', rt := Q } (start N vs) H :=
    ⟨g, cs, startE N.length (sp.args i), sr, Lr.start rp, hd.mo { nx := fun _ cs' => sp.res i cs .non cs', rt := fun d cs' => sp.res i cs d cs' } _ _ _ ⟨fun env cs' q g' H' σ e s' l => hq .non cs' q g' H' .non e s' rfl, fun d cs' q => hq d cs' q, fun _ _ z => (show False from z).elim, fun _ _ z => (show False from z).elim⟩ (hw i cs hp)⟩
  refine wpAny_mono (hd.pe.nox.run [] s1 (start N vs) H _ I low) ?_ (fun _ _ z => z)
  intro fl s' hs
  cases fl with
  | ret u => obtain ⟨v, σ', H', J, rv, q⟩ := hs; exact ⟨v, H', J.os, J.bare, J.base, J.hok, rv, q⟩
  | next => obtain ⟨σ', H', J, q⟩ := hs; exact ⟨.non, H', J.os, J.bare, J.base, J.hok, rfl, q⟩
  | brk => obtain ⟨_, _, _, q⟩ := hs; exact q.elim
  | cont => obtain ⟨_, _, _, q⟩ := hs; exact q.elim
end
/-! ### a def held in a name, called; it may raise -/
section
variable {X : Cx}
structure FnV (P : Program) (w : World) (K : PySem.W.Frag) (mg : Str → Option Value) (base : Heap) (k n : Nat) (L : List (Addr × FSpec)) : Prop where
  it : ∀ p ∈ L, ∃ fd ps, FnG P w K mg base (L2.CX P w) k p.1 fd ps (dSp K p.2) ∧ PySem.W.keepIn K (.ref p.1) = true ∧ Binds K fd ps []
theorem FnV.nil {P : Program} {w : World} {K : PySem.W.Frag} {mg : Str → Option Value} {base : Heap} {k n : Nat} : FnV P w K mg base k n [] := ⟨fun _ h => nomatch h⟩
theorem FnV.cons {P : Program} {w : World} {K : PySem.W.Frag} {mg : Str → Option Value} {base : Heap} {j k n : Nat} {f : Addr} {s : FSpec} {L : List (Addr × FSpec)} {fd : FuncData} {ps : List Str} (F : FnG P w K mg base (L2.CX P w) j f fd ps (dSp K s)) (h : j ≤ k) (kp : PySem.W.keepIn K (.ref f) = true) (b : Binds K fd ps []) (t : FnV P w K mg base k n L) : FnV P w K mg base k n ((f, s) :: L) :=
  ⟨fun p hp => by
    rcases List.mem_cons.mp hp with rfl | hp
    · exact ⟨fd, ps, F.mono h, kp, b⟩
    · exact t.it p hp⟩
def wCallV (i : Nat) (L : List (Addr × FSpec)) (wa : WD → WA) : WD → WE := fun W env cs Q => ∃ p ∈ L, env[i]? = some (some (.ref p.1)) ∧ wCallX p.2 wa W env cs Q
theorem dex_callV {k i n : Nat} {L : List (Addr × FSpec)} {x : Str} {p pos : Pos} {e : Expr} {es : List Expr} {wa : WD → WA} (F : FnV X.prog X.w X.K X.mg X.base k n L) (hr : RoomG k X.A) (ha : DAX X (e :: es) wa) (hN : X.N[i]? = some x := by rfl)
    (hv : Vis X.env.scope x := by first | exact Or.inl rfl | exact Or.inr (Or.inl rfl) | exact Or.inr (Or.inr rfl)) (hd : (x == ("__debug__" : Str)) = false := by decide) (hcd : (x == ("__classdict__" : Str)) = false := by decide)
    (he : starEach (e :: es) X.env = (false, eval e X.env) :: starEach es X.env := by rfl) (hpl : (backTo pos (starEach es X.env)).any (·.1) = false := by rfl) : DEX X (.Call (.Name x p) (e :: es) [] pos) (wCallV i L wa) := by
  refine ⟨fun Wl tk => ⟨fun pins s σ H Q I h => ?_⟩, fun W W' env cs Q Q' hW hq ⟨p, hp, ep, q⟩ => ⟨p, hp, ep, ha.mo W W' env cs _ _ hW (fun ds cs1 ⟨i, e, p, q1, q2⟩ => ⟨i, e, p, fun d cs' z => hq _ _ (q1 d cs' z), fun x cs' z => hW _ _ (q2 x cs' z)⟩) q⟩⟩
  obtain ⟨g, cs, env, sr, l, ⟨f, sp⟩, hp, ep, h⟩ := h
  obtain ⟨fd, ps, G, hk, hb⟩ := F.it _ hp
  obtain ⟨v, h1, h2⟩ := l.ok i _ ep
  obtain rfl : v = .ref f := h2
  refine wpAny_Call_Name_kw (thn ((pe_var (pos := p) (i := i) hN hv hd hcd).run pins s σ H (fun v H1 => v = .ref f ∧ H1 = H) I ⟨.ref f, h1, rfl, rfl⟩) fun u s1 ⟨v, H1, I1, r1, q1⟩ => ?_)
  obtain ⟨ev, eH⟩ := q1
  subst ev
  subst eH
  obtain rfl : u = Value.ref f := r1
  have hx : Passes (L2.CX X.prog X.w) X Wl := L2.passes_call tk fun _ _ _ _ h => h
  refine PySem.W.callWith_K (h₀ := X.base) I.ok.mod.kin hk (thn ((ha.pe Wl tk).run pos pins s1 σ H1 (fun vs H2 => dSp X.K sp vs H2 Q Wl) I1 ?_) fun us s2 ⟨vs, H2, I2, r, q⟩ => ⟨I2.kIn, ?_⟩) he hpl
  · exact lowAX.go ha.mo sr l h (fun _ _ q => q) fun ds cs1 g1 H2 vs ⟨i, e2, hp, q1, q2⟩ e1 s1 r1 => by
      subst e2
      exact ⟨g1, cs1, i, s1, r1, hp, fun d cs' z => upV.mono e1 (q1 d cs' z), fun x cs' z => upX.mono e1 (q2 x cs' z)⟩
  · have hl : us.length = ps.length := r.length.symm.trans (G.len _ _ _ _ q)
    have hb' := hb s2 us I2.kIn (by simpa using hl)
    rw [List.append_nil] at hb'
    exact run_G G hr hb' hx I2 r q
/-- a call that raises not, of what may raise -/
def wCallN (s : FSpec) (wa : WD → WA) : WD → WE := fun W env cs Q => wa W env cs fun ds cs1 => ∃ i, ds = s.args i ∧ s.pre i cs1 ∧ ∀ d cs', s.res i cs1 d cs' → Q d cs'
theorem dex_callN {k : Nat} {f : Addr} {fd : FuncData} {ps : List Str} {s : FSpec} {x : Str} {p pos : Pos} {e : Expr} {es : List Expr} {wa : WD → WA} (c : Calm s) (F : FnG X.prog X.w X.K X.mg X.base CX0 k f fd ps (dSp X.K s)) (hr : RoomG k X.A) (hm : X.mg x = some (.ref f)) (hk : PySem.W.keepIn X.K (.ref f) = true) (hb : Binds X.K fd ps []) (ha : DAX X (e :: es) wa)
    (hg : Gl X x := by rfl) (hdb : (x == ("__debug__" : Str)) = false := by decide) (he : starEach (e :: es) X.env = (false, eval e X.env) :: starEach es X.env := by rfl) (hpl : (backTo pos (starEach es X.env)).any (·.1) = false := by rfl) : DEX X (.Call (.Name x p) (e :: es) [] pos) (wCallN s wa) :=
  ⟨fun Wl tk => PE.imp (peG_call F hr hg hm hk hb pass0 (ha.pe Wl tk) hdb he hpl) fun σ H Q ⟨g, cs, env, sr, l, h⟩ => lowAX.go ha.mo sr l h (fun _ _ q => q) fun ds cs1 g1 H1 vs ⟨i, e2, hp, q⟩ e1 s1 r1 => by
    subst e2
    show dSp X.K s (vs ++ []) H1 Q E0
    rw [List.append_nil]
    exact low_spec c e1 s1 r1 hp q,
    fun W W' env cs Q Q' hW hq q => ha.mo W W' env cs _ _ hW (fun ds cs1 ⟨i, e, p, q⟩ => ⟨i, e, p, fun d cs' z => hq _ _ (q d cs' z)⟩) q⟩
/-! ### isinstance of an error held as a value -/
structure ErrI (K : PySem.W.Frag) (C : Addr) : Prop where
  f : XfC K C
  ha : PySem.W.findIn K (.ref C) "__class__" = some (some (.builtin "object.__class__"))
  hn : PySem.W.specialIn K (.builtin "object.__class__") "__get__" = some (some (.builtin "getset_descriptor.__get__"))
  hk : PySem.W.takesIn K (.builtin "object.__class__") = some true
  hm : PySem.W.mroIn K C (.type "object") = some true
/-- isinstance(.., D): nothing, and errors of the classes in L, with the answers -/
structure IsE (K : PySem.W.Frag) (D : Addr) (L : List (Addr × Bool)) : Prop where
  n : PySem.W.kitOne K (.type "NoneType") (.ref D) = some false
  e : ∀ p ∈ L, ErrI K p.1 ∧ PySem.W.kitOne K (.ref p.1) (.ref D) = some p.2
theorem IsE.nil {K : PySem.W.Frag} {D : Addr} (n : PySem.W.kitOne K (.type "NoneType") (.ref D) = some false) : IsE K D [] := ⟨n, fun _ h => nomatch h⟩
theorem IsE.cons {K : PySem.W.Frag} {D C : Addr} {b : Bool} {L : List (Addr × Bool)} (h : ErrI K C) (q : PySem.W.kitOne K (.ref C) (.ref D) = some b) (t : IsE K D L) : IsE K D ((C, b) :: L) :=
  ⟨t.n, fun p hp => by
    rcases List.mem_cons.mp hp with rfl | hp
    · exact ⟨h, q⟩
    · exact t.e p hp⟩
theorem kitOne_ref {K : PySem.W.Frag} {C D : Addr} {b : Bool} (h1 : PySem.W.isClsIn K D = true) (h2 : PySem.W.typeIn K (.ref D) = some (.type "type")) (h3 : PySem.W.subIn K (.ref C) (.ref D) = some b) (hb : C = D → b = true) : PySem.W.kitOne K (.ref C) (.ref D) = some b := by
  by_cases e : C = D
  · rw [e, hb e]
    exact kitOne_self _ _
  · unfold PySem.W.kitOne PySem.W.kitCls
    rw [if_neg (fun h => by have := beq_iff_eq.mp h; exact e (Value.ref.inj this))]
    unfold PySem.W.isClsIn at h1
    simp only [h1, h2, h3, beq_self_eq_true, Bool.and_self, if_true]
def isiE (L : List (Addr × Bool)) (d : D) (b : Bool) : Prop := match d with
  | .non => b = false
  | .err C _ => (C, b) ∈ L
  | _ => False
def oIsE (D : Addr) (L : List (Addr × Bool)) : OC := fun ds cs Q => match ds with
  | [d, .ref D'] => D' = D ∧ ∃ b, isiE L d b ∧ Q (.bl b) cs
  | _ => False
theorem cd_isE {D : Addr} {L : List (Addr × Bool)} (h : IsE X.K D L) : CallD X (.builtin "isinstance") (oIsE D L) := .mk' (fun ds cs Q Q' hq q => by
    unfold oIsE at q ⊢
    split at q
    · obtain ⟨e, b, h1, h2⟩ := q
      exact ⟨e, b, h1, hq _ _ h2⟩
    · exact q) fun pins s σ H xs us Q g cs ds I r sr r1 q => by
  unfold oIsE at q
  split at q
  · rename_i d D'
    obtain ⟨q1, b, q2, q3⟩ := q
    subst q1
    obtain ⟨v, vr, e1, h1, h2⟩ := r1
    obtain ⟨v2, vr2, e2, h3, h4⟩ := h2
    have h4' : vr2 = [] := h4
    have h3' : v2 = .ref D' := h3
    subst e1 e2 h4' h3'
    cases d with
    | non =>
      obtain rfl : b = false := q2
      obtain rfl : v = V.non := h1
      exact call_isi pins s σ H _ us Q I r ⟨.non, _, .type "NoneType", .ref D', false, rfl, .own D', .base .non, h.n, q3 g H _ (Ext.refl g) sr rfl⟩
    | err C fs =>
      obtain ⟨E, e⟩ := h.e (C, b) q2
      obtain ⟨a, dx, vs, rfl, z1, z2, _⟩ := h1
      have ea := sr.le _ _ z1
      have ed := sr.le _ _ z2
      have hx0 : ObjOk X.prog X.w H s.heap a (.ext fun h => ∃ (o : Obj) (vs : Array Value), h.get? a = some o ∧ o.cls = .ref C ∧ o.dict = some dx ∧ o.data = .fields vs) := I.hok a _ ea
      obtain ⟨oe, ws, ha, hz1, hz2, hd⟩ := hx0.1
      have hx : ObjOk X.prog X.w H s.heap dx (.xd vs) := I.hok dx _ ed
      obtain ⟨mA, hns, hr⟩ := hx
      obtain ⟨od, ho, hl⟩ := lookIn_ns hns
      have J : PySem.W.InstAt s.heap a oe C (some od) := ⟨ha, hz1, by unfold PySem.W.notCls; rw [hd] <;> rfl, by rw [hz2]; exact ho⟩
      cases r with
      | cons rx rr =>
        cases rr with
        | cons rt rr =>
          cases rr
          cases rx
          cases rt
          exact PySem.W.kia_one (PySem.W.kitx_exc (by obtain ⟨cd, hc, _⟩ := PySem.W.any_some E.f.hdC; rw [hc]; rfl) E.f.ga E.f.gg E.f.exC E.ha E.hn E.hk E.hm) I.kIn J e (fun z => nomatch z) fun tk => ⟨.bl b, H, I.kept (t' := tk) fun _ _ z => z, rfl, q3 g H _ (Ext.refl g) sr rfl⟩
    | _ => exact (show False from q2).elim
  · exact q.elim
end
/-! ### evaluated -/
section
variable {env : En} {cs : Sto} {Q : PD} {W : WD}
def heardP (R : HeardR) (o : Option XD) (cs : Sto) (Q : PD) (_z : Lz (R, Q) := ⟨⟩) : Prop := ∃ r, R o r ∧ Q r cs
theorem heardP_i {R : HeardR} {o : Option XD} {z : Lz (R, Q)} (r : D) (h : R o r) (q : Q r cs) : heardP R o cs Q z := ⟨r, h, q⟩
theorem wHeard_eq (R : HeardR) (w : WD → WE) : wHeard R w env cs Q = w (fun x cs' => heardP R (some x) cs' Q) env cs fun _ cs' => heardP R none cs' Q := (rfl)
def callV (i : Nat) (L : List (Addr × FSpec)) (wa : WD → WA) (W : WD) (env : En) (cs : Sto) (Q : PD) (_z : Lz (L, wa, W, Q) := ⟨⟩) : Prop := ∃ p ∈ L, env[i]? = some (some (.ref p.1)) ∧ wCallX p.2 wa W env cs Q
theorem wCallV_eq (i : Nat) (L : List (Addr × FSpec)) (wa : WD → WA) : wCallV i L wa W env cs Q = callV i L wa W env cs Q := (rfl)
theorem callV_i {i : Nat} {L : List (Addr × FSpec)} {wa : WD → WA} {z : Lz (L, wa, W, Q)} (f : Addr) (s : FSpec) (h : env[i]? = some (some (.ref f))) (m : (f, s) ∈ L) (q : wCallX s wa W env cs Q) : callV i L wa W env cs Q z := ⟨(f, s), m, h, q⟩
theorem wCallN_eq (s : FSpec) (wa : WD → WA) : wCallN s wa W env cs Q = wa W env cs fun ds cs1 => callP s ds cs1 Q := (rfl)
def isiP (L : List (Addr × Bool)) (d : D) (cs : Sto) (Q : PD) (_z : Lz Q := ⟨⟩) : Prop := ∃ b, isiE L d b ∧ Q (.bl b) cs
theorem isiP_i {L : List (Addr × Bool)} {C : Addr} {fs : List (Str × D)} {z : Lz Q} (b : Bool) (m : (C, b) ∈ L) (q : Q (.bl b) cs) : isiP L (.err C fs) cs Q z := ⟨b, m, q⟩
theorem isiP_non (L : List (Addr × Bool)) (z : Lz Q) : isiP L .non cs Q z = Q (.bl false) cs := propext ⟨fun ⟨b, e, q⟩ => by
  obtain rfl : b = false := e
  exact q, fun q => ⟨false, rfl, q⟩⟩
theorem oIsE_eq (D : Addr) (L : List (Addr × Bool)) (d : DL.D) : oIsE D L [d, .ref D] cs Q = isiP L d cs Q := propext ⟨fun h => h.2, fun h => ⟨rfl, h⟩⟩
end
end DL

/-! DErr2: errors of one's own with two fields, whose __init__ says super().__init__(a text). -/
namespace L2
open PySem PySem.Spec PyProof.Rows
structure SupS2 (sc : Scope) (me p1 p2 : Str) : Prop where
  kind : sc.kind = .function
  co : sc.isCoroutine = false
  gen : sc.isGenerator = false
  n1 : me ≠ p1
  n2 : me ≠ p2
  n3 : p1 ≠ p2
  m : sc.names.lookup me = some .local
  p : sc.names.lookup p1 = some .local
  q : sc.names.lookup p2 = some .local
  nocell : ∀ x ∈ sc.names, x.2 ≠ .cell
  free : ∀ x ∈ sc.names, x.2 = .free → x.1 = "__class__"
theorem inv_startS2 {CX : CXT} {P : Program} {w : World} {K : PySem.W.Frag} {mg : Str → Option Value} {base : Heap} {me p1 p2 qual : Str} {scope : Scope} {f cc C : Addr} {cd : Value} {A : Around} {outer : List Env} {s : Shared} {H : Hp} {E : XK} {u1 u2 u3 : Value} {v1 v2 v3 : V}
    (S : SupS2 scope me p1 p2) (hd : A.handled = none) (e0 : Env0 P w K mg base A outer s H) (r1 : RelV v1 u1) (r2 : RelV v2 u2) (r3 : RelV v3 u3) (lcc : ∃ oc : Obj, K.lookup cc = some oc ∧ oc.data = .cell (some (.ref C)))
    {h₀ : Heap} {tk : Nat} (hns : h₀.Ns s.heap.objs.size fun x => ([(me, u1), (p1, u2), (p2, u3)] : List (Str × Value)).reverse.lookup x) (hk : ∀ b o, s.heap.get? b = some o → h₀.get? b = some o) :
    Inv (cxS CX P w K mg base [me, p1, p2] qual scope f cc cd A outer s H E) [] [some v1, some v2, some v3] H { s with heap := h₀, toks := tk } := by
  obtain ⟨oc, hcc, hcd⟩ := lcc
  have hb := e0.mod.kin _ _ hcc
  obtain ⟨hs, hH⟩ := e0.bs _ _ hb
  have noA : ∀ b : Addr, b ∉ (cxS CX P w K mg base [me, p1, p2] qual scope f cc cd A outer s H E).ex := fun b z => absurd (show b ∈ ([] : List Addr) from z) (by simp)
  have lk : ∀ (x : Str) (c : Addr), (PySem.W.ksEnv qual scope s.heap.objs.size f cd cc).cells.lookup x = some c → x = "__class__" ∧ c = cc := fun x c h => by
    have h' : ([("__class__", cc)] : List (Str × Addr)).lookup x = some c := h
    rw [List.lookup_cons] at h'
    split at h'
    · rename_i e
      cases h'
      exact ⟨by simpa using e, rfl⟩
    · cases h'
  refine ⟨⟨e0.mod, S.kind, rfl, rfl, Nat.le_refl _, fun y z c h1 h2 => ?_, fun y hy => ?_, fun y c h => (by cases h), fun _ => hd, Around.frames_deeper e0.frames, .inr ⟨rfl, rfl⟩, fun b z => absurd z (noA b), e0.bs, e0.bsz, fun b _ _ => noA b, fun b z => absurd z (noA b), e0.funs, e0.frf⟩,
    rfl, e0.bare, Un.kept hk, ⟨_, hns, fun i y v h1 h2 h3 => ?_⟩, fun y c h => ?_, e0.hok.fresh (Nat.le_refl _), fun y c h => ?_, fun p hp => absurd (show p ∈ ([] : List (Addr × Obj)) from hp) (by simp), e0.hok.kept hk, rfl⟩
  · rw [(lk _ _ h1).1, (lk _ _ h2).1]
  · have hy' : scope.names.lookup y = some .cell ∨ scope.names.lookup y = some .free := hy
    rcases hy' with hy' | hy'
    · exact absurd rfl (S.nocell _ (PySem.mem_of_lookup hy'))
    · have := S.free _ (PySem.mem_of_lookup hy') rfl
      subst this
      exact ⟨cc, by show ([("__class__", cc)] : List (Str × Addr)).lookup _ = _; rw [List.lookup_cons]; simp⟩
  · have b1 : (me == p1) = false := by simpa using S.n1
    have b2 : (me == p2) = false := by simpa using S.n2
    have b3 : (p1 == p2) = false := by simpa using S.n3
    match i, h1, h2 with
    | 0, h1, h2 =>
      have h1' : me = y := by simpa using h1
      have h2' : v1 = v := by simpa using h2
      subst h1' h2'
      refine ⟨u1, r1, .inl ⟨S.m, ?_⟩⟩
      show ([(p2, u3), (p1, u2), (me, u1)] : List (Str × Value)).lookup me = some u1
      rw [List.lookup_cons, List.lookup_cons, List.lookup_cons]
      simp [b1, b2]
    | 1, h1, h2 =>
      have h1' : p1 = y := by simpa using h1
      have h2' : v2 = v := by simpa using h2
      subst h1' h2'
      refine ⟨u2, r2, .inl ⟨S.p, ?_⟩⟩
      show ([(p2, u3), (p1, u2), (me, u1)] : List (Str × Value)).lookup p1 = some u2
      rw [List.lookup_cons, List.lookup_cons]
      simp [b3]
    | 2, h1, h2 =>
      have h1' : p2 = y := by simpa using h1
      have h2' : v3 = v := by simpa using h2
      subst h1' h2'
      refine ⟨u3, r3, .inl ⟨S.q, ?_⟩⟩
      show ([(p2, u3), (p1, u2), (me, u1)] : List (Str × Value)).lookup p2 = some u3
      rw [List.lookup_cons]
      simp
    | n + 3, h1, h2 => simp at h1
  · obtain ⟨rfl, rfl⟩ := lk y c h
    exact ⟨_, oc, hk _ _ hs, hcd⟩
  · obtain ⟨rfl, rfl⟩ := lk y c h
    exact hH
/-- what it leaves: the exception with its two fields -/
def spInit2 (C : Addr) (f1 f2 : Str) : Sp := fun vs H Q _ => ∃ (a : Addr) (y z : V), vs = [.ref a, y, z] ∧ H a = some (exo a C none) ∧ ∀ dx, H dx = none → dx ≠ a → Q .non (upd (upd (upd H dx (exd dx [(f1, y)])) a (exo a C (some dx))) dx (exd dx [(f2, z), (f1, y)]))
/-- the body of such an __init__ -/
abbrev partBody2 (tx p1n p2n : Str) (p0 p1 ap q1 pos pos' p2 p3 p4 pos2 r2 r3 r4 pos3 : Pos) (j : Nat) : List Stmt :=
  [.Expr (.Call (.Attribute (.Call (.Name "super" p0) [] [] p1) "__init__" ap) [.Constant (.str tx) j q1] [] pos) pos',
   .Assign [.Attribute (.Name "self" p2) p1n p3] (.Name p1n p4) pos2, .Assign [.Attribute (.Name "self" r2) p2n r3] (.Name p2n r4) pos3]
abbrev CallForm2 (tx : Str) (p0 p1 ap q1 pos : Pos) (j : Nat) : Prop := ∀ env : Env, ∃ pl : Sem Bool, eval (.Call (.Attribute (.Call (.Name "super" p0) [] [] p1) "__init__" ap) [.Constant (.str tx) j q1] [] pos) env = (do
      let ov ← attributeBase (.Call (.Name "super" p0) [] [] p1) "__init__" env (eval (.Call (.Name "super" p0) [] [] p1) env)
      standAt ap.atName
      let (f, first) ← holding [ov] (getMethod ov "__init__" pl)
      callWith pos f first (backTo pos (starEach [.Constant (.str tx) j q1] env)) [])
theorem fn_ofS2 {CX : CXT} {P : Program} {w : World} {K : PySem.W.Frag} {mg : Str → Option Value} {base : Heap} {k : Nat} {f cc C cda : Addr} {name qual tx n1 n2 : Str} {params : Arguments} {scope : Scope} {dV kV doc pm ct oc : Value} {an od : Option Addr} {osl : Array (Option Value)}
    {p0 p1 ap q1 pos pos' p2 p3 p4 pos2 r2 r3 r4 pos3 : Pos} {j : Nat} (T : OexC K C)
    (lk : K.lookup f = some ⟨oc, od, .func (PySem.W.ksFn name qual params (partBody2 tx n1 n2 p0 p1 ap q1 pos pos' p2 p3 p4 pos2 r2 r3 r4 pos3 j) scope dV kV doc pm an (.ref cda) ct cc), osl⟩)
    (hcd : PySem.W.codeIn K (.ref cda) qual = true) (S : SupS2 scope "self" n1 n2) (hf1 : PySem.W.findIn K (.ref C) n1 = some none) (hf2 : PySem.W.findIn K (.ref C) n2 = some none)
    (hp1 : (n1 == ("__debug__" : Str)) = false) (hp2 : (n1 == ("__classdict__" : Str)) = false) (hq1 : (n2 == ("__debug__" : Str)) = false) (hq2 : (n2 == ("__classdict__" : Str)) = false)
    (SF : ∀ (A : Around) (outer : List Env) (s : Shared) (H : Hp) (E : XK), SupF (cxS CX P w K mg base ["self", n1, n2] qual scope f cc (.ref cda) A outer s H E) C f cda cc "self") (hform : CallForm2 tx p0 p1 ap q1 pos j)
    (hsw2 : ∀ env : Env, swapsWith (.Name n1 p4) (some (.Attribute (.Name "self" p2) n1 p3)) pos2.line env = pure false) (hsw3 : ∀ env : Env, swapsWith (.Name n2 r4) (some (.Attribute (.Name "self" r2) n2 r3)) pos3.line env = pure false) :
    FnOk P w K mg base CX (k + 1) f (PySem.W.ksFn name qual params (partBody2 tx n1 n2 p0 p1 ap q1 pos pos' p2 p3 p4 pos2 r2 r3 r4 pos3 j) scope dV kV doc pm an (.ref cda) ct cc) ["self", n1, n2] (spInit2 C n1 n2) := by
  refine ⟨fun vs H Q E ⟨a, y, z, e, _⟩ => by rw [e]; rfl, fun A outer s H args us vs Q E hr e0 hb r hsp => ?_⟩
  obtain ⟨a, y, z, ev, ea, hq⟩ := hsp
  subst ev
  obtain ⟨u1, u2, u3, eu, w1, w2, w3⟩ : ∃ u1 u2 u3, us = [u1, u2, u3] ∧ RelV (.ref a) u1 ∧ RelV y u2 ∧ RelV z u3 := by
    cases r with
    | cons a1 r =>
      cases r with
      | cons a2 r =>
        cases r with
        | cons a3 r =>
          cases r
          exact ⟨_, _, _, rfl, a1, a2, a3⟩
  subst eu
  have KX : K.In s.heap := e0.mod.kin.keeps fun b o e => (e0.bs b o e).1
  have lim : s.heap.NoLimit := e0.mod.nolimit.keeps fun b o e => (e0.bs b o e).1
  refine PySem.ks_codeAny_call_defAt (fd := PySem.W.ksFn name qual params _ scope dV kV doc pm an (.ref cda) ct cc) (binds := [("self", u1), (n1, u2), (n2, u3)]) hr.depth (KX _ _ lk) rfl lim (PySem.W.codeRec_of KX hcd) rfl hb S.nocell (fun x hx => ?_) (fun h₀ hns hk => ?_) S.co S.gen S.kind
  · rcases List.mem_cons.mp hx with rfl | hx
    · exact S.m
    · rcases List.mem_cons.mp hx with rfl | hx
      · exact S.p
      · rw [List.mem_singleton.mp hx]
        exact S.q
  have SFx := SF A outer s H E
  let X := cxS CX P w K mg base ["self", n1, n2] qual scope f cc (.ref cda) A outer s H E
  have I : Inv X [] [some (.ref a), some y, some z] H { s with heap := h₀, toks := s.toks + 3 } := inv_startS2 (C := C) (cd := .ref cda) S hr.hd e0 w1 w2 w3 SFx.lcc hns hk
  obtain ⟨pl, hf⟩ := hform X.env
  have hint : interactive X.env = false := by
    unfold interactive
    show (scope.kind == ScopeKind.module && _) = false
    rw [S.kind]
    rfl
  have hte : ∀ Q : VK, Q (.str tx) H → (tC (.str tx)) [some (.ref a), some y, some z] H Q := fun Q q => q
  refine PySem.ks_wpAt_execs_cons (PySem.ks_wpAt_Expr_any (env := X.env) (supinit_wp SFx T I ea rfl (pe_str (X := X)) hte pl (fun s' J => ?_) hf rfl) hint rfl)
  have hst := pss_cons (ps_ost (X := X) (o := .Name "self" p2) (e := .Name n1 p4) (f := n1) (p' := p3) (pos := pos2) (pe_var (i := 0) rfl (.inl S.m) (by decide) (by decide)) (pe_var (i := 1) rfl (.inl S.p) hp1 hp2) (hsw2 _))
    (pss_one (ps_ost (X := X) (o := .Name "self" r2) (e := .Name n2 r4) (f := n2) (p' := r3) (pos := pos3) (pe_var (i := 0) rfl (.inl S.m) (by decide) (by decide)) (pe_var (i := 2) rfl (.inl S.q) hq1 hq2) (hsw3 _)))
  refine wpAt_of_wpAny (wpAny_mono (hst.run [] s' _ H { nx := fun _ H' => Q .non H', rt := Q } J ?_) (fun fl s2 hs2 => ?_) fun e s2 z => z)
  · refine ⟨y, rfl, .ref a, rfl, a, C, rfl, T, hf1, .inl ⟨ea, fun dx n ne => ?_⟩⟩
    refine ⟨z, rfl, .ref a, rfl, a, C, rfl, T, hf2, .inr ⟨dx, [(n1, y)], upd_same, by rw [upd_ne ne, upd_same], by show 1 ≤ 900; decide, hq dx n ne⟩⟩
  · have fin : ∀ {σ' : St} {H' : Hp} {v : V} {u : Value}, Inv X [] σ' H' s2 → RelV v u → Q v H' → CE outer P w H s Q u s2 :=
      fun {σ' H' v u} J rv q => ⟨v, H', J.os, J.bare, J.base, J.hok, rv, q⟩
    cases fl with
    | ret u =>
      obtain ⟨v, σ', H', J, rv, q⟩ := hs2
      exact fin J rv q
    | next =>
      obtain ⟨σ', H', J, q⟩ := hs2
      exact fin (v := V.non) (u := Value.none) J rfl q
    | brk =>
      obtain ⟨_, _, _, q⟩ := hs2
      exact False.elim q
    | cont =>
      obtain ⟨_, _, _, q⟩ := hs2
      exact False.elim q
end L2
namespace L2
open PySem PySem.Spec PyProof.Rows DL
structure ErrF2 (P : Program) (K : PySem.W.Frag) (mg : Str → Option Value) (C f : Addr) (fd : FuncData) (n1 n2 : Str) : Prop where
  T : OexC K C
  ini : PySem.W.findIn K (.ref C) "__init__" = some (some (.ref f))
  ifn : PySem.W.typeIn K (.ref f) = some (.type "function")
  nf1 : PySem.W.findIn K (.ref C) n1 = some none
  nf2 : PySem.W.findIn K (.ref C) n2 = some none
  own : PySem.W.mroIn K C (.ref C) = some true
  sup : PySem.W.ks_superIn K C C "__init__" = some (some (.builtin "ValueError.__init__"))
  exV : PySem.W.subIn K (.ref C) (.type "ValueError") = some true
  any : PySem.W.nsIn K cStatics "thirdparty.any" = some none
  msup : mg "super" = none
  top : (P.main.scope.names.lookup ("super" : Str)).isSome = false
  d1 : (n1 == ("__debug__" : Str)) = false ∧ (n1 == ("__classdict__" : Str)) = false
  d2 : (n2 == ("__debug__" : Str)) = false ∧ (n2 == ("__classdict__" : Str)) = false
  co : ∃ (cda cc : Addr) (oc : Obj) (vs : Array Value) (file : Str) (tf : Tok) (qual tx : Str) (params : Arguments) (scope : Scope) (dV kV doc pm ct o : Value) (an od : Option Addr) (osl : Array (Option Value)) (p0 p1 ap q1 pos pos' p2 p3 p4 pos2 r2 r3 r4 pos3 : Pos) (j : Nat) (ar : Arg),
    fd = PySem.W.ksFn "__init__" qual params (partBody2 tx n1 n2 p0 p1 ap q1 pos pos' p2 p3 p4 pos2 r2 r3 r4 pos3 j) scope dV kV doc pm an (.ref cda) ct cc ∧
    K.lookup f = some ⟨o, od, .func fd, osl⟩ ∧ PySem.W.codeIn K (.ref cda) qual = true ∧ SupS2 scope "self" n1 n2 ∧ scope.names.lookup ("super" : Str) = some .globalImplicit ∧ scope.names.lookup ("__class__" : Str) = some .free ∧
    (params.posonlyargs ++ params.args).head? = some ar ∧ ar.arg = "self" ∧ K.lookup cda = some oc ∧ oc.data = .fields vs ∧ vs[2]? = some (.str file tf) ∧ ((P.main.file : Str) == file) = true ∧
    (∃ oc : Obj, K.lookup cc = some oc ∧ oc.data = .cell (some (.ref C))) ∧ CallForm2 tx p0 p1 ap q1 pos j
section
variable {P : Program} {w : World} {K : PySem.W.Frag} {mg : Str → Option Value} {base : Heap} {C f : Addr} {fd : FuncData} {n1 n2 : Str}
theorem ErrF2.ok {CX : CXT} (e : ErrF2 P K mg C f fd n1 n2) (k : Nat) : FnOk P w K mg base CX (k + 1) f fd ["self", n1, n2] (spInit2 C n1 n2) := by
  obtain ⟨cda, cc, oc, vs, file, tf, qual, tx, params, scope, dV, kV, doc, pm, ct, o, an, od, osl, p0, p1, ap, q1, pos, pos', p2, p3, p4, pos2, r2, r3, r4, pos3, j, ar, rfl, lk, hcd, S, s1, s2, h1, h2, l1, l2, l3, l4, l5, hfo⟩ := e.co
  refine fn_ofS2 e.T lk hcd S e.nf1 e.nf2 e.d1.1 e.d1.2 e.d2.1 e.d2.2 (fun A outer s H E => ?_) hfo (fun env => rfl) (fun env => rfl)
  exact ⟨s1, s2, S.m, rfl, ⟨_, _, ar, lk, rfl, h1, h2⟩, rfl, ⟨oc, vs, file, tf, l1, l2, l3, l4⟩, e.top, by show ([("__class__", cc)] : List (Str × Addr)).lookup _ = _; rw [List.lookup_cons]; simp, l5, rfl, e.msup, by decide +kernel, e.own, e.sup, e.exV, e.any⟩
end
/-- what the text says of such an __init__ -/
structure PartSt2 (st : Stmt) (n1 n2 : Str) : Prop where
  bd : ∃ (tx : Str) (p0 p1 ap q1 pos pos' p2 p3 p4 pos2 r2 r3 r4 pos3 : Pos) (j : Nat), defBody st = partBody2 tx n1 n2 p0 p1 ap q1 pos pos' p2 p3 p4 pos2 r2 r3 r4 pos3 j ∧ CallForm2 tx p0 p1 ap q1 pos j
  sc : SupS2 (defScope st) "self" n1 n2
  s1 : (defScope st).names.lookup ("super" : Str) = some .globalImplicit
  s2 : (defScope st).names.lookup ("__class__" : Str) = some .free
  ar : ∃ ar : Arg, ((defArgs st).posonlyargs ++ (defArgs st).args).head? = some ar ∧ ar.arg = "self"
  d1 : (n1 == ("__debug__" : Str)) = false ∧ (n1 == ("__classdict__" : Str)) = false
  d2 : (n2 == ("__debug__" : Str)) = false ∧ (n2 == ("__classdict__" : Str)) = false
theorem errF2_mk {P : Program} {K : PySem.W.Frag} {mg : Str → Option Value} {C f cda cc N : Addr} {n1 n2 nm q qual file : Str} {tf : Tok} {bs bm sub : List Value} {sn : List Str} {ab : Bool} {col : Option Bool} {dd an od d1 d2 : Option Addr} {k0 k1 k2 k3 k5 : Option Value} {o dV kV doc pm ct c1 c2 : Value} {osl s1 s2 : Array (Option Value)} {vs : Array Value} {st : Stmt} (S : PartSt2 st n1 n2)
    (lC : K.lookup C = some (excClassObj nm q C N bs bm true sn sub ab col dd k0 k1 k2 k3 k5 "ValueError.__new__")) (hbm : PySem.HandSPX.refsVE bm = true)
    (sa : PySem.W.findIn K (.ref C) "__setattr__" = some (some (.builtin "object.__setattr__"))) (exC : PySem.W.subIn K (.ref C) (.type "BaseException") = some true) (ty : PySem.W.typeIn K (.ref C) = some (.type "type")) (kC : PySem.W.keepIn K (.ref C) = true)
    (any : PySem.W.nsIn K cStatics "thirdparty.any" = some none)
    (ini : PySem.W.findIn K (.ref C) "__init__" = some (some (.ref f))) (ifn : PySem.W.typeIn K (.ref f) = some (.type "function")) (nf1 : PySem.W.findIn K (.ref C) n1 = some none) (nf2 : PySem.W.findIn K (.ref C) n2 = some none) (own : PySem.W.mroIn K C (.ref C) = some true)
    (sup : PySem.W.ks_superIn K C C "__init__" = some (some (.builtin "ValueError.__init__"))) (exV : PySem.W.subIn K (.ref C) (.type "ValueError") = some true) (msup : mg "super" = none) (top : (P.main.scope.names.lookup ("super" : Str)).isSome = false)
    (lf : K.lookup f = some ⟨o, od, .func (PySem.W.ksFn "__init__" qual (defArgs st) (defBody st) (defScope st) dV kV doc pm an (.ref cda) ct cc), osl⟩) (cf : PySem.W.codeIn K (.ref cda) qual = true) (lcd : K.lookup cda = some ⟨c1, d1, .fields vs, s1⟩) (hvs : vs[2]? = some (.str file tf)) (hfile : ((P.main.file : Str) == file) = true)
    (lcc : K.lookup cc = some ⟨c2, d2, .cell (some (.ref C)), s2⟩) : ErrF2 P K mg C f (PySem.W.ksFn "__init__" qual (defArgs st) (defBody st) (defScope st) dV kV doc pm an (.ref cda) ct cc) n1 n2 := by
  obtain ⟨⟨tx, p0, p1, ap, q1, pos, pos', p2, p3, p4, pos2, r2, r3, r4, pos3, j, eb, hf⟩, hs, h1, h2, ⟨ar, h3, h4⟩, e1, e2⟩ := S
  rw [eb] at lf ⊢
  exact ⟨⟨⟨_, _, _, _, _, _, _, _, _, _, _, _, _, _, _, lC, hbm⟩, sa, exC, ty, kC⟩, ini, ifn, nf1, nf2, own, sup, exV, any, msup, top, e1, e2,
    cda, cc, _, vs, file, tf, qual, tx, defArgs st, defScope st, dV, kV, doc, pm, ct, o, an, od, osl, p0, p1, ap, q1, pos, pos', p2, p3, p4, pos2, r2, r3, r4, pos3, j, ar, rfl, lf, cf, hs, h1, h2, h3, h4, lcd, rfl, hvs, hfile, ⟨_, lcc, rfl⟩, hf⟩
end L2
namespace DL
open PySem PySem.Spec PyProof.Rows L2
variable [Tbs]
/-- raise x(e1, e2), x an own error with two fields -/
def wRaise2 (C : Addr) (n1 n2 : Str) (wa : WA) : WD → WS := fun W E env cs => wa env cs fun ds cs1 => match ds with
  | [d1, d2] => W ⟨C, [(n2, d2), (n1, d1)]⟩ cs1
  | _ => False
theorem dsx_raise2 {X : Cx} {C f : Addr} {fd : FuncData} {n1 n2 x : Str} {p pos pos' : Pos} {e1 e2 : Expr} {wa : WA} (F : ErrF2 X.prog X.K X.mg C f fd n1 n2) (hb : Binds X.K fd ["self", n1, n2] []) (hm : X.mg x = some (.ref C)) (hc : X.calm = true) (hr : Room 2 X.A) (ha : DA X [e1, e2] wa)
    (hg : Gl X x := by rfl) (hdb : (x == ("__debug__" : Str)) = false := by decide) (he : starEach (e1 :: [e2]) X.env = (false, eval e1 X.env) :: starEach [e2] X.env := by rfl) (hpl : (backTo pos' (starEach [e2] X.env)).any (·.1) = false := by rfl) :
    DSX X (.Raise (some (.Call (.Name x p) [e1, e2] [] pos')) none pos) (wRaise2 C n1 n2 wa) := by
  refine ⟨fun Wl tk => PS.imp (ps_raise (W := fun c d _ H => Wl c d H) hc tk (pmk_oex (dvs := []) F.T F.ini F.ifn (F.ok 0) hr hb .nil pass0 hg hm ha.pe hdb he hpl)) fun D σ H ⟨g, cs, env, s, l, h⟩ => ?_,
    fun W W' E E' env cs hW hE q => ha.mo env cs _ _ (fun ds cs1 q => ?_) q⟩
  · refine lowA.go ha.mo s l h fun ds cs1 g1 H1 vs hw e1 s1 r1 => ?_
    match ds, hw, r1 with
    | [d1, d2], hw, r1 =>
      obtain ⟨v1, t1, ev1, q1, v2, t2, ev2, q2, q3⟩ := r1
      have q3' : t2 = [] := q3
      subst ev1 ev2 q3'
      refine ⟨by show 2 ≤ 1000; decide, fun a na => ⟨a, v1, v2, rfl, upd_same, fun dx ndx nda => ?_⟩⟩
      have n0 : H1 dx = none := by rw [upd_ne nda] at ndx; exact ndx
      refine ⟨rfl, dx, _, by rw [upd_ne nda.symm, upd_same], upd_same, n0, ?_⟩
      have eH : upd (del (upd (upd (upd (upd H1 a (exo a C none)) dx (exd dx [(n1, v1)])) a (exo a C (some dx))) dx (exd dx [(n2, v2), (n1, v1)])) a) dx (.xd [(n2, v2), (n1, v1)]) = upd H1 dx (.xd [(n2, v2), (n1, v1)]) := by
        funext b
        by_cases hb : b = dx
        · rw [hb, upd_same, upd_same]
        · rw [upd_ne hb, upd_ne hb]
          by_cases hba : b = a
          · rw [hba, del_same, na]
          · rw [del_ne hba, upd_ne hb, upd_ne hba, upd_ne hb, upd_ne hba]
      rw [eH]
      exact hw (g1.add dx (.xd [(n2, v2), (n1, v1)])) _ dx _ (e1.trans (Ext.add s1 n0 _)) (Sr.add s1 n0 _) upd_same ⟨_, _, rfl, q2.mono (Ext.add s1 n0 _), _, _, rfl, q1.mono (Ext.add s1 n0 _), rfl⟩
  · match ds, q with
    | [d1, d2], q => exact hW _ _ q
def raise2P (C : Addr) (n1 n2 : Str) (ds : List D) (W : WD) (cs : Sto) (_z : Lz W := ⟨⟩) : Prop := match ds with
  | [d1, d2] => W ⟨C, [(n2, d2), (n1, d1)]⟩ cs
  | _ => False
theorem wRaise2_eq (C : Addr) (n1 n2 : Str) (wa : WA) {W : WD} {E : DN} {env : En} {cs : Sto} : wRaise2 C n1 n2 wa W E env cs = wa env cs fun ds cs1 => raise2P C n1 n2 ds W cs1 := (rfl)
theorem raise2P_i {C : Addr} {n1 n2 : Str} {d1 d2 : D} {W : WD} {cs : Sto} {l : Lz W} (h : W ⟨C, [(n2, d2), (n1, d1)]⟩ cs) : raise2P C n1 n2 [d1, d2] W cs l := h
end DL

/-! DLam2: a lambda with one parameter that has a number by default; isinstance of errors by a tuple of classes. -/
namespace L2
open PySem PySem.Spec PyProof.Rows LamX
section
variable {X : Cx} {pins : List (Addr × Obj)} {σ : L2.St} {H : Hp} {s : Shared}
theorem lam_makeD {T : List (Addr × Str)} {c P : Addr} {params : Arguments} {body : Expr} {scope : Scope} {pos dp : Pos} {i : Int} {j : Nat} {E : Value → Shared → Prop} {Q : Value → Shared → Prop} (I : Inv X pins σ H s) (TB : TabB X.base X.mg c P) (hcode : X.env.code = .ref c)
    (hm : (P, X.env.qual ++ "<lambda>") ∈ T) (hu : ∀ p ∈ T, p.1 = P → p.2 = X.env.qual ++ "<lambda>") (hT : Tabs T H) (hdef : defaultsOf params X.env = ([eval (.Constant (.int i) j dp) X.env], [])) (hfree : ∀ y ∈ scope.names, y.2 = .free → ∃ c, X.env.cells.lookup y.1 = some c)
    (hE : E = X.xe)
    (h : ∀ (f c' t : Addr) (tk : Tok) (pm ctv doc : Value) (H1 : Hp) (s' : Shared), Inv X pins σ H1 s' → ExtN H H1 → Tabs T H1 →
      s'.heap.get? f = some (PySem.W.kdv_obj "<lambda>" (X.env.qual ++ "<lambda>") params (.expr body) scope (cloFrom X.env.cells scope.names []) (.ref t) doc pm c' ctv) → H1 f = none → f ∉ frs X.stack → H1 c' = some (CodeO c' (X.env.qual ++ "<lambda>")) →
      s'.heap.get? t = some (PySem.W.kdv_tup [.int i tk]) → H1 t = none → t ∉ frs X.stack → Q (.ref f) s') :
    wpAny (model X.prog X.w) X.A (eval (.Lambda params body scope pos) X.env) Q E s := by
  subst hE
  rw [arm_eval_Lambda, hdef]
  show wpAny _ _ (do let dv ← evalAll (evalEach [.Constant (.int i) j dp] X.env); let kdv ← holding dv (evalAllOpt []); makeFunction "<lambda>" (X.env.qual ++ "<lambda>") params (.expr body) scope X.env dv kdv [] pos pos.line) Q _ s
  refine wpAny_bind (PySem.W.kdv_all1 (thn ((pe_int (X := X)).run pins s σ H (fun v H1 => v = .int i ∧ H1 = H) I ⟨rfl, rfl⟩) fun u s1 ⟨v, H1, I1, r1, q1⟩ => PySem.W.kdv_all0 ?_))
  obtain ⟨ev, eH⟩ := q1
  subst ev eH
  obtain ⟨tk, rfl⟩ : ∃ tk, u = Value.int i tk := r1
  refine wpAny_bind (wpAny_holding (wpAny_pure ?_))
  obtain ⟨ps, hP, ht, ha⟩ := hT _ hm
  rw [makeFunction_eq]
  simp only [List.zip_nil_right, List.filterMap_nil, List.isEmpty_nil, List.isEmpty_cons, if_true, pure_bind, Bool.false_eq_true, if_false]
  refine wpAny_bind (wpAny_newTextTuple ?_)
  have I2 : Inv X pins σ H1 { s1 with heap := s1.heap.push (PySem.W.kdv_tup [.int i tk]) } := I1.kept (t' := s1.toks) fun b o e => Heap.get?_push_of_some _ e
  have htup : (s1.heap.push (PySem.W.kdv_tup [.int i tk])).get? s1.heap.objs.size = some (PySem.W.kdv_tup [.int i tk]) := Heap.get?_push_size _ rfl
  have hT0 : H1 s1.heap.objs.size = none := I1.hok.fresh (Nat.le_refl _)
  have nofr1 : ∀ f, s1.heap.objs.size ≤ f → f ∉ frs X.stack := fun f hf z => by
    rcases List.mem_cons.mp (I1.stkSub _ z) with e | e
    · have h1 := I1.lt
      rw [← e] at h1
      exact Nat.lt_irrefl _ (Nat.lt_of_lt_of_le h1 hf)
    · exact I1.nofs hf e
  have hTf := nofr1 _ (Nat.le_refl s1.heap.objs.size)
  show wpAny _ _ (makeTail "<lambda>" (X.env.qual ++ "<lambda>") params (.expr body) scope X.env (.ref s1.heap.objs.size) .none none pos pos.line) Q _ { s1 with heap := s1.heap.push (PySem.W.kdv_tup [.int i tk]) }
  generalize s1.heap.objs.size = t at *
  suffices key : ∀ s2 : Shared, Inv X pins σ H1 s2 → s2.heap.get? t = some (PySem.W.kdv_tup [.int i tk]) → wpAny (model X.prog X.w) X.A (makeTail "<lambda>" (X.env.qual ++ "<lambda>") params (.expr body) scope X.env (.ref t) .none none pos pos.line) Q X.xe s2 from key _ I2 htup
  clear I2 htup
  intro s2 I2 htup
  have bP : s2.heap.BuiltinsAt X.mg P := TB.bm.keeps I2.bk
  have hP' : s2.heap.get? P = some { cls := .none, data := .fields ps } := I2.hok P _ hP
  have hlt0 : t < s2.heap.objs.size := Heap.lt_size htup
  have tP : t ≠ P := fun z => by
    rw [z, hP] at hT0
    cases hT0
  have nofr : ∀ f, s2.heap.objs.size ≤ f → f ∉ frs X.stack := fun f hf => nofr1 f (Nat.le_of_lt (Nat.lt_of_lt_of_le hlt0 hf))
  cases hc : codeAmong pos ps.toList with
  | none =>
    refine PySem.W.kdv_makeTail (mg := X.mg) (c := c) (P := P) (ps := ps) (closure_ok hfree) I2.ok.glob (I2.mod.glob.keeps I2.bk) hcode (TB.code.keeps I2.bk) hP' ht hc TB.gP bP fun c' ctv doc h' tk' hx hge hlt hrec htb => ?_
    obtain ⟨c2, oc, vs, tt, e2, hoc, hd, hv⟩ := hrec
    cases e2
    have hsz : s2.heap.objs.size ≤ h'.objs.size := Nat.le_trans hge (Nat.le_of_lt hlt)
    have nC : H1 c' = none := I2.hok.fresh hge
    have tc : t ≠ c' := Nat.ne_of_lt (Nat.lt_of_lt_of_le hlt0 hge)
    have J1 := inv_table (t' := tk') (more := #[rawInt pos.line, rawInt pos.col, .ref c']) (h' := h'.push (PySem.W.kdv_obj "<lambda>" (X.env.qual ++ "<lambda>") params (.expr body) scope (cloFrom X.env.cells scope.names []) (.ref t) doc ((X.mg "__name__").getD .none) c' ctv)) I2 hP
      (fun b o hb e => Heap.get?_push_of_some _ (hx b o hb e)) (Heap.get?_push_of_some _ htb) hge ⟨oc, vs, tt, Heap.get?_push_of_some _ hoc, hd, hv⟩
    have hE : ExtN H1 (upd (upd H1 P (.tbl (ps ++ #[rawInt pos.line, rawInt pos.col, .ref c']))) c' (CodeO c' (X.env.qual ++ "<lambda>"))) := fun b o e n => by
      rw [upd_ne (ne_of_none e nC), upd_ne (fun z => n ps (Option.some.inj (e.symm.trans (by rw [z]; exact hP))))]
      exact e
    have eL : (ps ++ #[rawInt pos.line, rawInt pos.col, .ref c']).toList = ps.toList ++ [rawInt pos.line, rawInt pos.col, .ref c'] := by simp
    refine h h'.objs.size c' t tk ((X.mg "__name__").getD .none) ctv doc _ _ J1 hE (fun p hp => ?_) (Heap.get?_push_size _ rfl) ?_ (nofr _ hsz) upd_same (Heap.get?_push_of_some _ (hx t _ tP htup)) (by rw [upd_ne tc, upd_ne tP]; exact hT0) hTf
    · by_cases hb : p.1 = P
      · rw [hu p hp hb, hb]
        refine ⟨_, by rw [upd_ne (ne_of_none hP nC), upd_same], by rw [eL]; exact PySem.TriplesOk_snoc _ _ _ _ ht, fun p' cv hcv => ?_⟩
        rw [eL] at hcv
        rcases among_app _ ht hcv with z | z
        · obtain ⟨c0, e1, e2⟩ := ha p' cv z
          exact ⟨c0, e1, hE _ _ e2 codeO_ne⟩
        · exact ⟨c', z, upd_same⟩
      · obtain ⟨ps', a1, a2, a3⟩ := hT p hp
        refine ⟨ps', by rw [upd_ne (ne_of_none a1 nC), upd_ne hb]; exact a1, a2, fun p' cv hcv => ?_⟩
        obtain ⟨c0, e1, e2⟩ := a3 p' cv hcv
        exact ⟨c0, e1, hE _ _ e2 codeO_ne⟩
    · have n1 : h'.objs.size ≠ c' := Nat.ne_of_gt hlt
      have n2 : h'.objs.size ≠ P := Nat.ne_of_gt (Nat.lt_of_lt_of_le (Heap.lt_size hP') hsz)
      rw [upd_ne n1, upd_ne n2]
      exact I2.hok.fresh hsz
  | some cv =>
    obtain ⟨c', e, hco⟩ := ha pos cv hc
    subst e
    refine PySem.W.kdv_makeTailHit (mg := X.mg) (c := c) (P := P) (ps := ps) (closure_ok hfree) I2.ok.glob (I2.mod.glob.keeps I2.bk) hcode (TB.code.keeps I2.bk) hP' ht hc bP fun ctv doc h' tk' hx hsz => ?_
    have J1 : Inv X pins σ H1 { s2 with heap := h'.push (PySem.W.kdv_obj "<lambda>" (X.env.qual ++ "<lambda>") params (.expr body) scope (cloFrom X.env.cells scope.names []) (.ref t) doc ((X.mg "__name__").getD .none) c' ctv), toks := tk' } := I2.kept fun b o e => Heap.get?_push_of_some _ (hx b o e)
    exact h h'.objs.size c' t tk ((X.mg "__name__").getD .none) ctv doc H1 _ J1 (ExtN.refl H1) hT (Heap.get?_push_size _ rfl) (I2.hok.fresh hsz) (nofr _ hsz) hco (Heap.get?_push_of_some _ (hx t _ htup)) hT0 hTf
end
/-- one parameter of its own, which is no name of the maker's -/
structure LamSD (sc scope : Scope) (N : List Str) (a1 : Str) : Prop where
  kind : scope.kind = .function
  co : scope.isCoroutine = false
  gen : scope.isGenerator = false
  own : ∀ y ∈ scope.names, y.2 ≠ .cell ∧ (y.2 = .local → y.1 = a1)
  a : scope.names.lookup a1 = some .local
  n : a1 ∉ N
  free : ∀ y ∈ scope.names, y.2 = .free → sc.names.lookup y.1 = some .cell ∨ sc.names.lookup y.1 = some .free
def lamSDB (sc scope : Scope) (N : List Str) (a1 : Str) : Bool :=
  decide (scope.kind = .function) && !scope.isCoroutine && !scope.isGenerator && (scope.names.all fun y => !decide (y.2 = .cell) && (!decide (y.2 = .local) || decide (y.1 = a1)) && (!decide (y.2 = .free) || decide (sc.names.lookup y.1 = some .cell) || decide (sc.names.lookup y.1 = some .free))) && decide (scope.names.lookup a1 = some .local) && !decide (a1 ∈ N)
theorem lamSD_by {sc scope : Scope} {N : List Str} {a1 : Str} (h : lamSDB sc scope N a1 = true) : LamSD sc scope N a1 := by
  unfold lamSDB at h
  simp only [Bool.and_eq_true, Bool.or_eq_true, Bool.not_eq_true', decide_eq_true_eq, decide_eq_false_iff_not, List.all_eq_true] at h
  obtain ⟨⟨⟨⟨⟨h1, h2⟩, h3⟩, h4⟩, h5⟩, h6⟩ := h
  refine ⟨h1, h2, h3, fun y hy => ⟨(h4 y hy).1.1, fun e => ?_⟩, h5, h6, fun y hy e => ?_⟩
  · rcases (h4 y hy).1.2 with z | z
    · exact absurd e z
    · exact z
  · rcases (h4 y hy).2 with (z | z) | z
    · exact absurd e z
    · exact .inl z
    · exact .inr z
section
variable {X : Cx} {pins : List (Addr × Obj)} {σ : L2.St} {H HZ : Hp} {s s1 : Shared} {a1 : Str}
theorem LamSD.has {scope : Scope} (L : LamSD X.env.scope scope X.N a1) (ok : X.Ok) : ∀ y ∈ scope.names, y.2 = .free → ∃ c, X.env.cells.lookup y.1 = some c := fun y hy e => by
  rcases L.free y hy e with k | k
  · exact ok.has _ (.inl k)
  · exact ok.has _ (.inr k)
theorem lam_startD {A : Around} {outer : List Env} {E : XK} {scope : Scope} {f c' : Addr} {h₁ : Heap} {tk : Nat} {m : Str → Option Value} (I : Inv X pins σ H s) (L : LamSD X.env.scope scope X.N a1) (e0 : Env0 X.prog X.w X.K X.mg X.base A outer s1 HZ) (hd : A.handled = none)
    (un : Un (frs X.stack) [] H HZ s.heap s1.heap) (hns : h₁.Ns s1.heap.objs.size m) (kp : ∀ b o, s1.heap.get? b = some o → h₁.get? b = some o) :
    Inv (lamCx X A outer s1 HZ E scope f c') [] σ HZ { s1 with heap := h₁, toks := tk } := by
  have hfree := L.has I.ok
  have cm : ∀ {y c}, (cloFrom X.env.cells scope.names []).lookup y = some c → X.env.cells.lookup y = some c := fun {y c} e => by
    rcases cloFrom_mem (PySem.mem_of_lookup e) with hm | ⟨h1, h2⟩
    · cases hm
    · obtain ⟨c1, hc⟩ := hfree _ h1 rfl
      have hc : X.env.cells.lookup y = some c1 := hc
      have e2 : c = c1 := by
        rw [h2, hc] <;> rfl
      rw [e2]
      exact hc
  have look : ∀ {y}, scope.names.lookup y = some .free → ∃ c, (cloFrom X.env.cells scope.names []).lookup y = some c := fun {y} hl => by
    have hy : (y, NameKind.free) ∈ scope.names := PySem.mem_of_lookup hl
    exact mem_lookup (cloFrom_has (cells := X.env.cells) (acc := []) hy)
  have cellK : ∀ {c : Addr} {v : Option Value}, H c = none → s.heap.IsCell c v → h₁.IsCell c v := fun {c v} n ⟨o, ho, hd⟩ => by
    obtain ⟨sl, q⟩ := un.any ho n (by simp)
    exact ⟨_, kp _ _ q, hd⟩
  have noA : ∀ b : Addr, b ∉ (lamCx X A outer s1 HZ E scope f c').ex := fun b z => absurd (show b ∈ ([] : List Addr) from z) (by simp)
  refine ⟨⟨e0.mod, L.kind, rfl, rfl, Nat.le_refl _, fun y z c e1 e2 => I.ok.inj y z c (cm e1) (cm e2), fun y hy => ?_, fun y c z _ => ?_, fun _ => hd, Around.frames_deeper e0.frames, .inr ⟨rfl, rfl⟩, fun b z => absurd z (noA b), e0.bs, e0.bsz, fun b _ _ => noA b,
      fun b z => absurd z (noA b), e0.funs, e0.frf⟩,
    rfl, e0.bare, Un.kept kp, ⟨_, hns, fun i y v e1 e2 e3 => ?_⟩, fun y c e => ?_, e0.hok.fresh (Nat.le_refl _), fun y c e => ?_, fun q hq => absurd (show q ∈ ([] : List (Addr × Obj)) ++ [] from hq) (by simp), e0.hok.kept kp, I.len⟩
  · have hy : scope.names.lookup y = some .cell ∨ scope.names.lookup y = some .free := hy
    rcases hy with hy | hy
    · exact absurd rfl (L.own _ (PySem.mem_of_lookup hy)).1
    · exact look hy
  · have z : false = true := z
    cases z
  · have e3 : Vis scope y := e3
    rcases e3 with k | k | k
    · have hy := (L.own _ (PySem.mem_of_lookup k)).2 rfl
      have hy' : y = a1 := hy
      rw [hy'] at e1
      exact absurd (List.mem_of_getElem? e1) L.n
    · exact absurd rfl (L.own _ (PySem.mem_of_lookup k)).1
    · obtain ⟨m, hn, hl⟩ := I.loc
      have hvis : Vis X.env.scope y := (L.free _ (PySem.mem_of_lookup k) rfl).elim (fun k => .inr (.inl k)) (fun k => .inr (.inr k))
      obtain ⟨w', r, q⟩ := hl i y v e1 e2 hvis
      obtain ⟨c2, h2⟩ := look k
      refine ⟨w', r, .inr ⟨.inr k, c2, h2, ?_⟩⟩
      have c1 := cm h2
      rcases q with ⟨k', _⟩ | ⟨_, c3, e', z⟩
      · have k' : X.env.scope.names.lookup y = some .local := k'
        rcases L.free _ (PySem.mem_of_lookup k) rfl with k2 | k2 <;> rw [show X.env.scope.names.lookup y = _ from k2] at k' <;> cases k'
      · rw [c1] at e'
        cases e'
        exact cellK (I.freeC y _ c1) z
  · obtain ⟨w', z⟩ := I.cell y c (cm e)
    exact ⟨w', cellK (I.freeC y c (cm e)) z⟩
  · obtain ⟨v, o, ho, hd⟩ := I.cell y c (cm e)
    exact un.free c o ho (I.freeC y c (cm e)) (by simp)
end
end L2
namespace DL
open PySem PySem.Spec PyProof.Rows L2 LamX
variable [Tbs]
section
variable {X : Cx}
theorem act_DD {pins : List (Addr × Obj)} {σ : L2.St} {H : Hp} {s : Shared} {Ng : List Str} {qg : Str} {sg : Scope} {g f c' : Addr} {cdg pm ctv doc v0 : Value} {t : Addr} {a1 : Str} {params : Arguments} {body : Expr} {scope : Scope} {k i : Nat} {a : Str} {pn : List (Addr × Obj)} {xe : Value → Shared → Prop} {W : WX} {E : XK} {tb : TE} {p1 p2 : Pos}
    (I : Inv X pins σ H s) (L : LamSD X.env.scope scope X.N a1) (hf : s.heap.get? f = some (PySem.W.kdv_obj "<lambda>" (X.env.qual ++ "<lambda>") params (.expr body) scope (cloFrom X.env.cells scope.names []) (.ref t) doc pm c' ctv)) (hfn : H f = none) (hfr : f ∉ frs X.stack)
    (htu : s.heap.get? t = some (PySem.W.kdv_tup [v0])) (htn : H t = none) (htf : t ∉ frs X.stack)
    (hbind : ∃ k, bindArgs (PySem.W.kdv_fn "<lambda>" (X.env.qual ++ "<lambda>") params (.expr body) scope (cloFrom X.env.cells scope.names []) (.ref t) doc pm (.ref c') ctv) ⟨[], []⟩ = seqItems? (.ref t) >>= k ∧ k (some #[v0]) = pure [(a1, v0)])
    (tk : L2.Takes ((cxOf CX0 X.prog X.w X.K X.mg X.base Ng qg sg g cdg X.A X.stack s H E0).tr pn xe) W) (hW : ∀ cls d σ' H', E cls d H' → W cls d σ' H') (hr : RoomG (k + 1) (X.A.deeper (envOfC qg sg s.heap.objs.size g cdg)))
    (hbody : ∀ (A : Around) (outer : List PySem.Env) (s : Shared) (H : Hp), RoomG k (A.deeper (lamEnv X scope s.heap.objs.size f c')) → PE (lamCx X A outer s H E scope f c') body tb)
    (hN : Ng[i]? = some a) (hv : Vis sg a) (hd : (a == ("__debug__" : Str)) = false := by decide) (hcd : (a == ("__classdict__" : Str)) = false := by decide) :
    PE ((cxOf CX0 X.prog X.w X.K X.mg X.base Ng qg sg g cdg X.A X.stack s H E0).tr pn xe) (.Call (.Name a p1) [] [] p2)
      (fun σZ HZ Q => σZ[i]? = some (some (.ref f)) ∧ HZ c' = some (CodeO c' (X.env.qual ++ "<lambda>")) ∧ tb σ HZ Q) := by
  refine ⟨fun pinsZ sZ σZ HZ Q IZ h => ?_⟩
  obtain ⟨hs, hc, ht⟩ := h
  refine wpAny_Call_Name_kw (thn ((pe_var (pos := p1) (i := i) hN hv hd hcd).run pinsZ sZ σZ HZ (fun v H1 => v = .ref f ∧ H1 = HZ) IZ ⟨.ref f, hs, rfl, rfl⟩) fun u s1 ⟨v, H1, I1, r1, q1⟩ => ?_)
  obtain ⟨ev, eH⟩ := q1
  subst ev
  rw [eH] at I1
  obtain rfl : u = Value.ref f := r1
  have of1 : s1.heap.get? f = some (PySem.W.kdv_obj "<lambda>" (X.env.qual ++ "<lambda>") params (.expr body) scope (cloFrom X.env.cells scope.names []) (.ref t) doc pm c' ctv) := I1.base.keep f _ hf hfn hfr (fun z => nomatch (show f ∈ ([] : List Addr) from z))
  refine PySem.W.callWith_F0 ⟨_, _, _, _, of1⟩ ?_
  have un : Un (frs X.stack) [] H HZ s.heap s1.heap := I1.base
  obtain ⟨⟨oc, vs, tt, hoc, hdc, hvc⟩, _, _⟩ := I1.hok c' _ hc
  have rc : codeAny (model X.prog X.w) (X.A.deeper (envOfC qg sg s.heap.objs.size g cdg)) (.call (.ref f) ⟨[], []⟩) (CR (L2.CX X.prog X.w) (envOfC qg sg s.heap.objs.size g cdg :: X.stack) X.prog X.w HZ s1 Q E) s1 := by
    refine PySem.W.kla_callFunE hr.r.depth of1 rfl L.co L.gen rfl ⟨c', oc, vs, tt, rfl, hoc, hdc, hvc⟩ ?_
    obtain ⟨kk, hb1, hb2⟩ := hbind
    have tup1 : s1.heap.get? t = some (PySem.W.kdv_tup [v0]) := I1.base.keep t _ htu htn htf (fun z => nomatch (show t ∈ ([] : List Addr) from z))
    refine (BindsTo.of_defaults (fd := PySem.W.kdv_fn "<lambda>" (X.env.qual ++ "<lambda>") params (.expr body) scope (cloFrom X.env.cells scope.names []) (.ref t) doc pm (.ref c') ctv) rfl tup1 rfl hb1 hb2) _ _ _ _ ?_
    refine (wpAny_newFunctionEnv (fun y hy => (L.own y hy).1) (fun y hy => by rw [List.mem_singleton.mp hy]; exact L.a) (fun h₁ hns hsb => ⟨I1.nolimit.fresh _ hsb, ?_⟩) L.kind)
    show codeAny _ _ (.expr body (lamEnv X scope s1.heap.objs.size f c')) _ _
    have kp : ∀ b o, s1.heap.get? b = some o → h₁.get? b = some o := fun b o e => hsb.extBut b o (Nat.ne_of_lt (Heap.lt_size e)) (Heap.get?_push_of_some _ e)
    have J : Inv (lamCx X (X.A.deeper (envOfC qg sg s.heap.objs.size g cdg)) (envOfC qg sg s.heap.objs.size g cdg :: X.stack) s1 HZ E scope f c') [] σ HZ { s1 with heap := h₁, toks := s1.toks + ([(a1, v0)] : List (Str × Value)).length } :=
      lam_startD I L I1.env0 hr.r.hd un hns kp
    refine PySem.W.kla_codeExpr (wpAny_mono ((hbody _ _ s1 HZ (hr.deeper _)).run [] _ _ HZ Q J ht) (fun v s' hq => ?_) fun e s' hq => hq)
    obtain ⟨w', H', J', rv, q⟩ := hq
    exact ⟨w', H', J'.os, J'.bare, J'.base, J'.hok, rv, q⟩
  have hx : Passes (L2.CX X.prog X.w) ((cxOf CX0 X.prog X.w X.K X.mg X.base Ng qg sg g cdg X.A X.stack s H E0).tr pn xe) E := passes_call tk hW
  refine wpAny_call (codeAny_mono rc fun r s' hq => ?_)
  cases r with
  | error e => exact hx pinsZ σZ HZ s1 e s' I1 hq
  | ok fl =>
    cases fl with
    | ret u => exact I1.after hq
    | next => exact False.elim hq
    | brk => exact False.elim hq
    | cont => exact False.elim hq
/-- x(lambda a1=i: body) -/
theorem de_heardD {a1 : Str} {i0 : Int} {j0 : Nat} {dp : Pos} {x : Str} {c P : Addr} {k : Nat} {R : HeardR} {params : Arguments} {body : Expr} {scope : Scope} {w : WD → WE} {p lpos pos : Pos} (HF : HearF X.prog X.w X.K X.mg X.base (k + 1) x R) (M : MkrF X c P) (hr : RoomG (k + 2) X.A) (L : LamSD X.env.scope scope X.N a1)
    (hbody : ∀ (A : Around) (outer : List PySem.Env) (s : Shared) (H : Hp) (E : XK) (f c' : Addr), RoomG k (A.deeper (lamEnv X scope s.heap.objs.size f c')) → DEX (lamCx X A outer s H E scope f c') body w) (hg : Gl X x := by rfl) (hdef : defaultsOf params X.env = ([eval (.Constant (.int i0) j0 dp) X.env], []) := by rfl)
    (hbind : ∀ (q : Str) (cl : List (Str × Addr)) (t : Addr) (doc pm cv ctv v0 : Value), ∃ k, bindArgs (PySem.W.kdv_fn "<lambda>" q params (.expr body) scope cl (.ref t) doc pm cv ctv) ⟨[], []⟩ = seqItems? (.ref t) >>= k ∧ k (some #[v0]) = pure [(a1, v0)] := by intros; exact ⟨_, rfl, rfl⟩)
    (hdb : (x == ("__debug__" : Str)) = false := by decide) : DE X (.Call (.Name x p) [.Lambda params body scope lpos] [] pos) (wHeard R w) := by
  obtain ⟨Ng, g, a, pg, bg, sg, dV, kV, doc, pm, cdv, ct, oc, an, od, osl, hm, hk, lk, hcg, hb, Sg, hNg, hva, hd, hcd, hears⟩ := HF.it
  have mo : MonoEX w := (hbody X.A [] {} (fun _ => none) E0 0 0 (RoomG.deeper (hr.mono (by omega)) _)).mo
  refine ⟨⟨fun pins s σ H Q I h => ?_⟩, wHeard.mo mo⟩
  obtain ⟨g0, cs, env, sr, l, h⟩ := h
  refine wpAny_Call_Name_kw (ld_glob I hg hm ?_ hdb)
  refine PySem.W.callWith_K (h₀ := X.base) I.ok.mod.kin hk ?_ (by rfl) (by rfl)
  show wpAny _ _ (spliced ((false, eval (.Lambda params body scope lpos) X.env) :: backTo pos (starEach [] X.env))) _ _ s
  refine Calls.spliced_cons (lam_makeD I M.tb M.code M.mem M.one sr.tb hdef (L.has I.ok) rfl fun f c' t tk0 pm' ctv doc H1 s' I1 eN T1 hf hfn hfr hco htu htn htf => ?_)
  refine Calls.spliced_nil ⟨I1.kIn, ?_⟩
  have sr1 : Sr X.K g0 cs H1 := sr.extN eN T1
  have rc : codeAny (model X.prog X.w) X.A (.call (.ref g) ⟨[.ref f], []⟩) (CR CX0 X.stack X.prog X.w H1 s' Q E0) s' := by
    refine run_ofS (N := Ng) (ps := [a]) (us := [.ref f]) (vs := [.ref f]) lk hcg Sg hr.r I1.env0 (hb s' [.ref f] I1.kIn rfl) (.cons rfl .nil) rfl fun hr' => ?_
    obtain ⟨t', ht', hq'⟩ := hears X.A X.stack s' H1 Q f c' (X.env.qual ++ "<lambda>") (fun E H' Q' => lowEX X.K E w σ H' Q') ⟨hr', hr.gd⟩
      (fun E E' H Q Q' hE hQ ⟨g, cs, env, s, l, h⟩ => ⟨g, cs, env, s, l, mo _ _ env cs _ _ (fun x cs' z g' H' d ws e s' hz rf => hE _ _ _ (z g' H' d ws e s' hz rf)) (fun d cs' z g' H' v e s' r => hQ _ _ (z g' H' v e s' r)) h⟩)
      (fun W pn xe E p1 p2 tk hW => act_DD (i := 0) I1 L hf hfn hfr htu htn htf (hbind _ _ _ _ _ _ _ _) tk hW ⟨hr', hr.gd⟩ (fun A outer s H hr2 => (hbody A outer s H E f c' hr2).pe E (L2.takes_of rfl rfl rfl rfl)) hNg hva hd hcd) hco
      ⟨g0, cs, env, sr1, l, mo _ _ env cs _ _ (fun xd cs' ⟨r, hR, hq⟩ g' H' d ws e s' hz rf => ⟨g', cs', xd, d, ws, r, rfl, rfl, s', hz, rf, hR, upV.mono e hq⟩) (fun d cs' ⟨r, hR, hq⟩ g' H' v e s' rv => ⟨g', cs', r, s', hR, upV.mono e hq⟩) h⟩
    exact ⟨t', ht'.nox, hq'⟩
  refine wpAny_call (codeAny_mono rc fun r s2 hq => ?_)
  cases r with
  | error e => exact (show False from hq).elim
  | ok fl =>
    cases fl with
    | ret u => exact I1.after hq
    | next => exact False.elim hq
    | brk => exact False.elim hq
    | cont => exact False.elim hq
end
/-! ### isinstance of an error by a tuple of classes -/
/-- isinstance(.., (D1, D2, ..)): Ds and what each of them says of nothing and of errors of the classes in L -/
structure IsTE (K : PySem.W.Frag) (L : List (Addr × Bool)) (Ds : List Addr) : Prop where
  n : PySem.W.kitAny K (.type "NoneType") (Ds.map Value.ref) = some false
  e : ∀ p ∈ L, ErrI K p.1 ∧ PySem.W.kitAny K (.ref p.1) (Ds.map Value.ref) = some p.2
theorem IsTE.nil {K : PySem.W.Frag} {Ds : List Addr} (n : PySem.W.kitAny K (.type "NoneType") (Ds.map Value.ref) = some false) : IsTE K [] Ds := ⟨n, fun _ h => nomatch h⟩
theorem IsTE.cons {K : PySem.W.Frag} {C : Addr} {b : Bool} {L : List (Addr × Bool)} {Ds : List Addr} (h : ErrI K C) (q : PySem.W.kitAny K (.ref C) (Ds.map Value.ref) = some b) (t : IsTE K L Ds) : IsTE K ((C, b) :: L) Ds :=
  ⟨t.n, fun p hp => by
    rcases List.mem_cons.mp hp with rfl | hp
    · exact ⟨h, q⟩
    · exact t.e p hp⟩
theorem kitAny2 {K : PySem.W.Frag} {t : Value} {A B : Addr} {a b : Bool} (h1 : PySem.W.kitOne K t (.ref A) = some a) (h2 : PySem.W.kitOne K t (.ref B) = some b) : PySem.W.kitAny K t ([A, B].map Value.ref) = some (a || b) := by
  simp only [List.map_cons, List.map_nil, PySem.W.kitAny, h1, h2]
  cases a <;> cases b <;> rfl
theorem repL_refs {K : PySem.W.Frag} {g : G} : ∀ {Ds : List Addr} {vs : List V}, RepL K g (Ds.map D.ref) vs → vs = Ds.map V.ref
  | [], vs, h => h
  | d :: ds, vs, h => by
    obtain ⟨v, r, e1, h1, h2⟩ := h
    obtain rfl : v = V.ref d := h1
    rw [e1, repL_refs h2]
    rfl
theorem paired_refs : ∀ Ds : List Addr, Paired ClsV (Ds.map V.ref) (Ds.map Value.ref)
  | [] => .nil
  | d :: ds => .cons (.own d) (paired_refs ds)
def oIsTE (L : List (Addr × Bool)) (Ds : List Addr) : OC := fun ds cs Q => match ds with
  | [d, .tup rs] => rs = Ds.map D.ref ∧ ∃ b, isiE L d b ∧ Q (.bl b) cs
  | _ => False
section
variable {X : Cx}
theorem cd_isTE {Ds : List Addr} {L : List (Addr × Bool)} (h : IsTE X.K L Ds) : CallD X (.builtin "isinstance") (oIsTE L Ds) := .mk' (fun ds cs Q Q' hq q => by
    unfold oIsTE at q ⊢
    split at q
    · obtain ⟨e, b, h1, h2⟩ := q
      exact ⟨e, b, h1, hq _ _ h2⟩
    · exact q) fun pins s σ H xs us Q g cs ds I r sr r1 q => by
  unfold oIsTE at q
  split at q
  · rename_i d rs
    obtain ⟨q1, b, q2, q3⟩ := q
    subst q1
    obtain ⟨v, vr, e1, h1, h2⟩ := r1
    obtain ⟨v2, vr2, e2, h3, h4⟩ := h2
    have h4' : vr2 = [] := h4
    subst e1 e2 h4'
    obtain ⟨p, vs, f3, h5, h6⟩ := h3
    subst f3
    obtain rfl := repL_refs h6
    have hT := sqT_mono sr.le h5
    cases d with
    | non =>
      obtain rfl : b = false := q2
      obtain rfl : v = V.non := h1
      exact isi_any pins s σ H us Q I r hT (paired_refs Ds) (.base .non) h.n (q3 g H _ (Ext.refl g) sr rfl)
    | err C fs =>
      obtain ⟨E, e⟩ := h.e (C, b) q2
      obtain ⟨a, dx, vs, rfl, z1, z2, _⟩ := h1
      have ea := sr.le _ _ z1
      have ed := sr.le _ _ z2
      have hx0 : ObjOk X.prog X.w H s.heap a (.ext fun h => ∃ (o : Obj) (vs : Array Value), h.get? a = some o ∧ o.cls = .ref C ∧ o.dict = some dx ∧ o.data = .fields vs) := I.hok a _ ea
      obtain ⟨oe, ws, ha, hz1, hz2, hd⟩ := hx0.1
      have hx : ObjOk X.prog X.w H s.heap dx (.xd vs) := I.hok dx _ ed
      obtain ⟨mA, hns, hr⟩ := hx
      obtain ⟨od, ho, hl⟩ := lookIn_ns hns
      have J : PySem.W.InstAt s.heap a oe C (some od) := ⟨ha, hz1, by unfold PySem.W.notCls; rw [hd] <;> rfl, by rw [hz2]; exact ho⟩
      obtain ⟨u1, u2, rfl, r1, r2⟩ := vals2 r
      cases (show u2 = Value.ref p from r2)
      cases (show u1 = Value.ref a from r1)
      obtain ⟨its, rv, ⟨o, k1, k2, n, k3⟩, _⟩ := I.tuple hT
      have e3 := ClsV.all (paired_refs Ds) rv
      subst e3
      obtain ⟨oc, od2, dt, sl⟩ := o
      simp only at k2 k3
      subst k2 k3
      exact PySem.W.kia_tup (PySem.W.kitx_exc (by obtain ⟨cd, hc, _⟩ := PySem.W.any_some E.f.hdC; rw [hc]; rfl) E.f.ga E.f.gg E.f.exC E.ha E.hn E.hk E.hm) I.kIn J k1 e (fun z => nomatch z) fun tk => ⟨.bl b, H, I.kept (t' := tk) fun _ _ z => z, rfl, q3 g H _ (Ext.refl g) sr rfl⟩
    | _ => exact (show False from q2).elim
  · exact q.elim
theorem oIsTE_eq (A B : Addr) (L : List (Addr × Bool)) (d : D) {cs : Sto} {Q : PD} : oIsTE L [A, B] [d, .tup [.ref A, .ref B]] cs Q = isiP L d cs Q := propext ⟨fun h => h.2, fun h => ⟨rfl, h⟩⟩
end
end DL

/-! DOEq: == and != of own instances by their own __eq__. -/
namespace L2
open PySem PySem.Spec PyProof.Rows
theorem lkObj_eq : ∃ y, typeLookup (.type "object") "__eq__" = pure y := ⟨some (.builtin "object.__eq__"), by rw [typeLookup_type, builtinLookup_eq_fast]; kernel_rfl⟩
theorem ns_some_of {K : PySem.W.Frag} {h : Heap} {N : Addr} {mg : Str → Option Value} {n : Str} {v : Value} (X : K.In h) (G : h.Ns N mg) (e : PySem.W.nsIn K N n = some (some v)) : mg n = some v := by
  obtain ⟨o, es, ep, ho, hd, _, hf⟩ := G
  unfold PySem.W.nsIn at e
  split at e
  · rename_i c d es' n' sl q
    have := X _ _ q
    rw [ho] at this
    cases this
    cases hd
    split at e
    · rename_i en he
      cases e
      rw [← hf]
      unfold nsFind findBy
      rw [← Array.find?_toList, he]
      rfl
    · split at e <;> cases e
  · cases e
/-- what the written part says of a class with an own == and no own != -/
structure EqF (K : PySem.W.Frag) (C f : Addr) : Prop where
  es : PySem.W.findIn K (.ref C) "__eq__" = some (some (.ref f))
  fn : PySem.W.isFn K (.ref f) = true
  ne : ∃ (of : Obj) (nm q : Str) (N : Addr) (bs : List Value) (hdct : Bool) (sn : List Str) (sub : List Value) (ab : Bool) (col : Option Bool) (dd : Option Addr) (k0 k1 k2 k3 k5 : Option Value),
    K.lookup C = some (excClassObj nm q C N bs [.type "object"] hdct sn sub ab col dd k0 k1 k2 k3 k5 "object.__new__") ∧ PySem.W.nsOkIn K N = true ∧ PySem.W.nsIn K N "__eq__" = some (some (.ref f)) ∧ PySem.W.nsIn K N "__ne__" = some none ∧ K.lookup f = some of ∧ of.cls = .type "function"
theorem eqF_mk {K : PySem.W.Frag} {C f N : Addr} {of : Obj} {nm q : Str} {bs : List Value} {hdct : Bool} {sn : List Str} {sub : List Value} {ab : Bool} {col : Option Bool} {dd : Option Addr} {k0 k1 k2 k3 k5 : Option Value} (es : PySem.W.findIn K (.ref C) "__eq__" = some (some (.ref f))) (fn : PySem.W.isFn K (.ref f) = true)
    (h1 : K.lookup C = some (excClassObj nm q C N bs [.type "object"] hdct sn sub ab col dd k0 k1 k2 k3 k5 "object.__new__")) (h2 : PySem.W.nsOkIn K N = true) (h3 : PySem.W.nsIn K N "__eq__" = some (some (.ref f))) (h4 : PySem.W.nsIn K N "__ne__" = some none) (h5 : K.lookup f = some of) (h6 : of.cls = .type "function") : EqF K C f :=
  ⟨es, fn, of, nm, q, N, bs, hdct, sn, sub, ab, col, dd, k0, k1, k2, k3, k5, h1, h2, h3, h4, h5, h6⟩
theorem EqF.at {K : PySem.W.Frag} {C f x : Addr} {h : Heap} {o : Obj} (e : EqF K C f) (X : K.In h) (hx : h.get? x = some o) (hc : o.cls = .ref C) : h.OwnEqNoNe x C f "object" [.type "object"] := by
  obtain ⟨of, nm, q, N, bs, hdct, sn, sub, ab, col, dd, k0, k1, k2, k3, k5, h1, h2, h3, h4, h5, h6⟩ := e.ne
  obtain ⟨y, hy⟩ := lkObj_eq
  have G : h.Ns N (h.nsMap N) := .of_isNs (PySem.W.isNs_of_in X h2)
  exact ⟨o, of, nm, q, N, bs, hdct, sn, sub, ab, col, dd, k0, k1, k2, k3, k5, _, h.nsMap N, y, hx, hc, X _ _ h1, G, ns_some_of X G h3, X _ _ h5, h6, PySem.F.cmp_object.mro, hy, PySem.W.ns_none_of X G h4⟩
end L2
namespace DL
open PySem PySem.Spec PyProof.Rows L2
variable [Tbs]
def oEqX (s : FSpec) (C : Addr) (neg : Bool) : O2 := fun d1 d2 cs Q => match d1, d2 with
  | .obj C1 fs, .obj C2 gs => C1 = C ∧ C2 = C ∧ ∃ i, [D.obj C fs, D.obj C gs] = s.args i ∧ s.pre i cs ∧ ∀ d cs', s.res i cs d cs' → ∃ b, d = .bl b ∧ Q (.bl (if neg = true then !b else b)) cs'
  | d1, d2 => oEq neg d1 d2 cs Q
theorem oEqX.mo {s : FSpec} {C : Addr} {neg : Bool} : ∀ d1 d2 cs Q Q', (∀ d cs, Q d cs → Q' d cs) → oEqX s C neg d1 d2 cs Q → oEqX s C neg d1 d2 cs Q' := fun d1 d2 cs Q Q' h z => by
  unfold oEqX at z ⊢
  split at z
  · obtain ⟨e1, e2, i, e3, hp, q⟩ := z
    exact ⟨e1, e2, i, e3, hp, fun d cs' y => by
      obtain ⟨b, eb, q⟩ := q d cs' y
      exact ⟨b, eb, h _ _ q⟩⟩
  · exact oEq.mo _ _ _ _ _ h z
section
variable {X : Cx} {s : FSpec} {C f : Addr} {k : Nat} {fd : FuncData} {ps : List Str}
theorem obj_at {K : PySem.W.Frag} {g : G} {cs : Sto} {H : Hp} {C : Addr} {fs : List (Str × D)} {v : V} (s : Sr K g cs H) (r : Rep K g (.obj C fs) v) : ∃ a dx vs, v = .ref a ∧ H a = some (.ins C dx vs) := by
  obtain ⟨a, dx, vs, e, h, _⟩ := r
  exact ⟨a, dx, vs, e, s.le _ _ h⟩
/-- the call of __eq__ inside the comparison -/
theorem eq_call (c : Calm s) (F : FnG X.prog X.w X.K X.mg X.base CX0 k f fd ps (dSp X.K s)) (hb : Binds X.K fd ps []) {A : Around} (hr : RoomG k A) (hA : A.frames = X.A.frames) {pins : List (Addr × Obj)} {st : Shared} {σ : L2.St} {H : Hp} {g : G} {cs : Sto} {a b : Addr} {d1 d2 : D} {i : s.ι} {R : Bool → Hp → Prop} (I : Inv X pins σ H st) (sr : Sr X.K g cs H)
    (r1 : Rep X.K g d1 (.ref a)) (r2 : Rep X.K g d2 (.ref b)) (ea : [d1, d2] = s.args i) (hp : s.pre i cs) (q : ∀ d cs', s.res i cs d cs' → ∃ t, d = .bl t ∧ ∀ g' H', Ext g g' → Sr X.K g' cs' H' → R t H') :
    wpAny (model X.prog X.w) A (call (.ref f) [.ref a, .ref b]) (fun v s' => ∃ t H', v = .bool t ∧ Inv X pins σ H' s' ∧ R t H') X.xe st := by
  have e := I.env0
  have e0 : Env0 X.prog X.w X.K X.mg X.base A X.stack st H := ⟨by rw [hA]; exact e.frames, e.mod, e.bs, e.bsz, e.funs, e.frf, e.hok, e.bare⟩
  have rr : RepL X.K g (s.args i) [.ref a, .ref b] := by rw [← ea]; exact .cons r1 (.cons r2 .nil)
  have hsp : dSp X.K s [.ref a, .ref b] H (fun v H' => ∃ t, v = .bl t ∧ R t H') (fun _ _ _ => False) := ⟨g, cs, i, sr, rr, hp, fun d cs' z g' H' v e' s' rv => by
    obtain ⟨t, rfl, q⟩ := q d cs' z
    exact ⟨t, rv, q g' H' e' s'⟩, fun x cs' z => (c.no _ _ _ _ z).elim⟩
  have hl := F.len _ _ _ _ hsp
  have rv : Vals [V.ref a, V.ref b] [Value.ref a, Value.ref b] := .cons rfl (.cons rfl .nil)
  refine wpAny_call (codeAny_mono (F.run A X.stack st H ⟨[.ref a, .ref b], []⟩ [.ref a, .ref b] [.ref a, .ref b] _ _ hr e0 (by
    have := hb st [.ref a, .ref b] I.kIn (by simpa using hl)
    simpa using this) rv hsp) fun r s' hq => ?_)
  cases r with
  | error e => exact (show False from hq).elim
  | ok fl =>
    cases fl with
    | ret w =>
      obtain ⟨z, H', I', rz, t, ez, q⟩ := I.after hq
      subst ez
      cases rz
      exact ⟨t, H', rfl, I', q⟩
    | next => exact False.elim hq
    | brk => exact False.elim hq
    | cont => exact False.elim hq
theorem opd_eqX (c : Calm s) (E : EqF X.K C f) (F : FnG X.prog X.w X.K X.mg X.base CX0 k f fd ps (dSp X.K s)) (hb : Binds X.K fd ps []) (hr : RoomG k X.A) (hu : X.A.units + 64 < cLine) : OpD X (compareOp .Eq) (oEqX s C false) := .mk' oEqX.mo fun pins st σ H x y v u Q g cs d1 d2 I rx ry sr r1 r2 z => by
  unfold oEqX at z
  split at z
  · obtain ⟨rfl, rfl, i, ea, hp, q⟩ := z
    rename_i fs gs _
    obtain ⟨a, dx, vs, rfl, ha⟩ := obj_at sr r1
    obtain ⟨b, dy, ws, rfl, hb'⟩ := obj_at sr r2
    cases rx
    cases ry
    obtain ⟨mA, J, _⟩ := ins_get I.hok ha
    obtain ⟨mB, J', _⟩ := ins_get I.hok hb'
    obtain ⟨od, J, _⟩ := J.look
    obtain ⟨od', J', _⟩ := J'.look
    obtain ⟨m, hF⟩ := I.fr
    show wpAny _ _ (richCompare .Eq _ _) _ _ _
    refine PySem.W.cmp_K (op := .Eq) hr.r.units0 hF I.ok.mod.kin J J'.type (by simp [PySem.W.notFirst]) E.es E.fn ?_
    refine wpAny_mono (eq_call c F hb hr rfl (R := fun t H' => Q (.bl t) H') I sr r1 r2 ea hp fun d cs' y => ?_) (fun v s' ⟨t, H', ev, I', q⟩ => ?_) fun _ _ x => x
    · obtain ⟨t, e, q⟩ := q d cs' y
      exact ⟨t, e, fun g' H' e' s' => q g' H' (.bl t) e' s' rfl⟩
    · subst ev
      exact ⟨.bl t, H', I', rfl, q⟩
  · exact (opd_eq hu).op pins st σ H x y v u Q I rx ry ⟨g, cs, _, _, sr, r1, r2, z⟩
theorem opd_neX (c : Calm s) (E : EqF X.K C f) (F : FnG X.prog X.w X.K X.mg X.base CX0 k f fd ps (dSp X.K s)) (hb : Binds X.K fd ps []) (hr : RoomG (k + 1) X.A) (hu : X.A.units + 64 < cLine) : OpD X (compareOp .NotEq) (oEqX s C true) := .mk' oEqX.mo fun pins st σ H x y v u Q g cs d1 d2 I rx ry sr r1 r2 z => by
  unfold oEqX at z
  split at z
  · obtain ⟨rfl, rfl, i, ea, hp, q⟩ := z
    obtain ⟨a, dx, vs, rfl, ha⟩ := obj_at sr r1
    obtain ⟨b, dy, ws, rfl, hb'⟩ := obj_at sr r2
    cases rx
    cases ry
    obtain ⟨mA, J, _⟩ := ins_get I.hok ha
    obtain ⟨mB, J', _⟩ := ins_get I.hok hb'
    obtain ⟨od, J, _⟩ := J.look
    obtain ⟨od', J', _⟩ := J'.look
    have e1 := E.at I.kIn J.at_ J.cls
    have rin : RoomG k X.A.in1 := ⟨hr.r.in1, hr.gd⟩
    obtain ⟨hh, gg, dd, tt, os⟩ := st
    refine compareOp_ne_ownEq PySem.F.cmp_object e1 J'.at_ J'.cls (by have := hu; omega) ?_
    refine wpAny_mono (eq_call c F hb rin rfl (R := fun t H' => Q (.bl (!t)) H') I sr r1 r2 ea hp fun d cs' y => ?_) (fun v s' ⟨t, H', ev, I', q⟩ => ?_) fun _ _ x => x
    · obtain ⟨t, e, q⟩ := q d cs' y
      exact ⟨t, e, fun g' H' e' s' => q g' H' (.bl (!t)) e' s' rfl⟩
    · subst ev
      exact ⟨t, rfl, .bl (!t), H', I', rfl, q⟩
  · exact (opd_ne hu).op pins st σ H x y v u Q I rx ry ⟨g, cs, _, _, sr, r1, r2, z⟩
end
section
variable {s : FSpec} {C : Addr} {neg : Bool} {cs : Sto} {Q : PD}
def eqXP (s : FSpec) (C : Addr) (neg : Bool) (fs gs : List (Str × D)) (cs : Sto) (Q : PD) (_z : Lz (s, Q) := ⟨⟩) : Prop := ∃ i, [D.obj C fs, D.obj C gs] = s.args i ∧ s.pre i cs ∧ ∀ d cs', s.res i cs d cs' → ∃ b, d = .bl b ∧ Q (.bl (if neg = true then !b else b)) cs'
theorem eqXP_i {fs gs : List (Str × D)} {z : Lz (s, Q)} (i : s.ι) (h : [D.obj C fs, D.obj C gs] = s.args i) (hp : s.pre i cs) (q : ∀ d cs', s.res i cs d cs' → ∃ b, d = .bl b ∧ Q (.bl (if neg = true then !b else b)) cs') : eqXP s C neg fs gs cs Q z := ⟨i, h, hp, q⟩
theorem oEqX_obj (fs gs : List (Str × D)) : oEqX s C neg (.obj C fs) (.obj C gs) cs Q = eqXP s C neg fs gs cs Q := propext ⟨fun h => h.2.2, fun h => ⟨rfl, rfl, h⟩⟩
theorem oEqX_int (i : Int) (d : D) : oEqX s C neg (.int i) d cs Q = oEq neg (.int i) d cs Q := (rfl)
theorem oEqX_str (i : Str) (d : D) : oEqX s C neg (.str i) d cs Q = oEq neg (.str i) d cs Q := (rfl)
theorem oEqX_non (d : D) : oEqX s C neg .non d cs Q = oEq neg .non d cs Q := (rfl)
theorem oEqX_bl (b : Bool) (d : D) : oEqX s C neg (.bl b) d cs Q = oEq neg (.bl b) d cs Q := (rfl)
theorem oEqX_tup (xs : List D) (d : D) : oEqX s C neg (.tup xs) d cs Q = oEq neg (.tup xs) d cs Q := (rfl)
theorem oEqX_lst (xs : List D) (d : D) : oEqX s C neg (.lst xs) d cs Q = oEq neg (.lst xs) d cs Q := (rfl)
theorem oEqX_cell (i : Nat) (d : D) : oEqX s C neg (.cell i) d cs Q = oEq neg (.cell i) d cs Q := (rfl)
end
/-! ### x + y of lists, the sum will change -/
def addC (cs : Sto) (d1 d2 : D) : Option (Prop × List D) := match lstOf cs d1, lstOf cs d2 with
  | some xs, some ys => some (xs.length + ys.length ≤ sizeLine, xs ++ ys)
  | _, _ => none
def oAddC : O2 := fun d1 d2 cs Q => bindP (addC cs d1 d2) fun p => p.1 ∧ Q (.cell cs.length) (cs ++ [.lst p.2])
theorem opd_addC {X : Cx} : OpD X (binaryOp .Add) oAddC := .mk' (fun d1 d2 cs Q Q' h q => bindP_mo (fun p q => ⟨q.1, h _ _ q.2⟩) q) fun pins s σ H x y v u Q g cs d1 d2 I rx ry sr r1 r2 q => by
  unfold oAddC at q
  cases e : lstOf cs d1 with
  | none => simp only [addC, e, bindP_none] at q
  | some xs =>
    cases e2 : lstOf cs d2 with
    | none => simp only [addC, e, e2, bindP_none] at q
    | some ys =>
      simp only [addC, e, e2, bindP_some] at q
      obtain ⟨z, q⟩ := q
      obtain ⟨p, vs, f1, h1, h2⟩ := rd_of sr e r1
      obtain ⟨p', us, f2, h3, h4⟩ := rd_of sr e2 r2
      subst f1 f2
      cases (show v = Value.ref p from rx)
      cases (show u = Value.ref p' from ry)
      obtain ⟨z1, its, n, rv, hl⟩ := I.hok _ _ h1
      obtain ⟨z2, its2, n2, rv2, hl2⟩ := I.hok _ _ h3
      have ez : vs.length + us.length ≤ sizeLine := by rw [← h2.length, ← h4.length]; exact z
      have k1 := rv.length
      have k2 := rv2.length
      refine PySem.P.add_list hl hl2 ?_ (by simp only [List.size_toArray]; omega)
      rw [show its.toArray ++ its2.toArray = (its ++ its2).toArray by simp]
      exact ⟨.ref _, _, I.lnew (t' := s.toks) (rv.append rv2) (by rw [List.length_append]; exact ez), rfl, new_cel sr (h2.append h4) q _ I.fresh⟩
theorem oAddC_eq (d1 d2 : D) {cs : Sto} {Q : PD} : oAddC d1 d2 cs Q = bindP (addC cs d1 d2) fun p => p.1 ∧ Q (.cell cs.length) (cs ++ [.lst p.2]) := (rfl)
theorem addC_lst (xs ys : List D) {cs : Sto} : addC cs (.lst xs) (.lst ys) = some (xs.length + ys.length ≤ sizeLine, xs ++ ys) := (rfl)
/-! ### xs[::-1] of a list -/
def wRevL (we : WE) : WE := fun env cs Q => we env cs fun d cs1 => bindP (lstOf cs1 d) fun ds => Q (.lst ds.reverse) cs1
theorem repL_rev {K : PySem.W.Frag} {g : G} : ∀ {ds : List D} {vs : List V}, RepL K g ds vs → RepL K g ds.reverse vs.reverse
  | [], vs, h => by
    have h' : vs = [] := h
    subst h'
    exact rfl
  | d :: ds, vs, h => by
    obtain ⟨v, r, e1, h1, h2⟩ := h
    subst e1
    rw [List.reverse_cons, List.reverse_cons]
    exact (repL_rev h2).append (.cons h1 .nil)
theorem de_revL {X : Cx} {e : Expr} {we : WE} {k : Nat} {p1 p2 p3 pos : Pos} (he : DE X e we) : DE X (.Subscript e (.Slice none none (some (.UnaryOp .USub (.Constant (.int 1) k p1) p2)) p3) pos) (wRevL we) :=
  ⟨PE.imp (pe_revL he.pe) fun σ H Q ⟨g, cs, env, s, l, h⟩ => lowE.go he.mo s l h fun d cs1 g1 H1 v1 h1 e1 s1 r1 => by
    cases el : lstOf cs1 d with
    | none => rw [el] at h1; exact h1.elim
    | some ds =>
      simp only [el, bindP_some] at h1
      obtain ⟨a, vs, q1, q2, q3⟩ := lst_of s1 el r1
      exact ⟨a, vs, q1, q2, new_lst s1 (repL_rev q3) (upV.mono e1 h1)⟩,
    fun env cs Q Q' h q => he.mo env cs _ _ (fun d cs1 q => bindP_mo (fun ds q => h _ _ q) q) q⟩
theorem wRevL_eq (we : WE) {env : En} {cs : Sto} {Q : PD} : wRevL we env cs Q = we env cs fun d cs1 => bindP (lstOf cs1 d) fun ds => Q (.lst ds.reverse) cs1 := (rfl)
end DL

/-! DTxt: int of a text, split at a text. -/
namespace DL
open PySem PySem.Spec PyProof.Rows L2
variable [Tbs]
section
variable {X : Cx}
def intT (d : D) : Option (Prop × D) := match d with
  | .str x => (PySem.intText? x).map fun n => (x.length ≤ 640, .int n)
  | d => (intOf d).map fun x => (True, x)
def oIntT : O1 := fun d cs Q => bindP (intT d) fun p => p.1 ∧ Q p.2 cs
theorem cd_intT : CallD X (.type "int") (o1 oIntT) := cd1 (fun d cs Q Q' h q => bindP_mo (fun _ q => ⟨q.1, h _ _ q.2⟩) q) fun pins s σ H x u Q g cs d I ru rv sr r q => by
  unfold oIntT at q
  cases d with
  | str z =>
    cases r
    cases e : PySem.intText? z with
    | none => simp only [intT, e, Option.map_none, bindP_none] at q
    | some n =>
      simp only [intT, e, Option.map_some, bindP_some] at q
      obtain ⟨hz, q⟩ := q
      obtain ⟨t, rfl⟩ := ru
      exact PySem.W.KIN.call_text e hz ⟨.int n, H, I.tok _, ⟨_, rfl⟩, q g H _ (Ext.refl g) sr rfl⟩
  | int i =>
    cases r
    exact call_int1 pins s σ H _ _ Q I rv (.inl ⟨_, rfl, q.2 g H _ (Ext.refl g) sr rfl⟩)
  | bl k =>
    cases r
    exact call_int1 pins s σ H _ _ Q I rv (.inr ⟨_, rfl, q.2 g H _ (Ext.refl g) sr rfl⟩)
  | _ => exact q.elim
theorem oIntT_eq {d : D} {cs : Sto} {Q : PD} : oIntT d cs Q = bindP (intT d) fun p => p.1 ∧ Q p.2 cs := rfl
/-- x.split(y) -/
def splS (d : D) (ds : List D) : Option (Prop × D) := match d, ds with
  | .str a, [.str b] => some ((b.length == 0) = false ∧ a.length + 2 ≤ sizeLine, .lst ((Txt.split a b).map .str))
  | _, _ => none
def oSplit : OM := fun d ds cs Q => bindP (splS d ds) fun p => p.1 ∧ Q p.2 cs
theorem RepL.of_strs {K : PySem.W.Frag} {g : G} : ∀ (ns : List Str), RepL K g (ns.map .str) (ns.map V.str)
  | [] => rfl
  | n :: ns => ⟨_, _, rfl, rfl, RepL.of_strs ns⟩
theorem md_split : MtD X "str.split" oSplit := .mk' (fun d ds cs Q Q' h q => bindP_mo (fun p q => ⟨q.1, h _ _ q.2⟩) q) fun pins s σ H x xs v us Q g cs d ds I rx r sr r1 r2 q => by
  unfold oSplit at q
  cases ea : splS d ds with
  | none => rw [ea] at q; exact q.elim
  | some p =>
    rw [ea] at q
    obtain ⟨hz, q⟩ := q
    unfold splS at ea
    split at ea
    · rename_i a b
      cases ea
      cases r1
      obtain ⟨u, ur, e2, h2, h3⟩ := r2
      have h3' : ur = [] := h3
      subst e2 h3'
      cases h2
      refine mt_split pins s σ H _ _ v us Q I rx r ⟨a, b, rfl, rfl, hz.1, hz.2, fun p hp => ?_⟩
      exact q (g.add p _) _ _ (Ext.add sr hp _) (sr.add hp _) ⟨p, _, rfl, add_at, RepL.of_strs _⟩
    · cases ea
theorem oSplit_eq {d : D} {ds : List D} {cs : Sto} {Q : PD} : oSplit d ds cs Q = bindP (splS d ds) fun p => p.1 ∧ Q p.2 cs := rfl
theorem splS_str {a b : Str} : splS (.str a) [.str b] = some ((b.length == 0) = false ∧ a.length + 2 ≤ sizeLine, .lst ((Txt.split a b).map .str)) := rfl
end
end DL

namespace Law
open PySem PySem.Spec L2 DL
open PyProof.Rows (envOfC)
def top (i : Nat) : Stmt := PySem.Challenge.pw_lookmade_k11_deeds_led_back.main.body.getD i (.Pass ⟨0, 0, 0, 0⟩)
def clsB : Stmt → List Stmt
  | .ClassDef (body := b) .. => b
  | _ => []
abbrev s__law_mason : Stmt := top 36
abbrev s_Program___eq__ : Stmt := (clsB (top 27)).getD 2 (.Pass ⟨0, 0, 0, 0⟩)
abbrev s__law_hew : Stmt := top 37
abbrev s__law_one : Stmt := top 38
abbrev s__law_deed : Stmt := top 39
abbrev s_is_integer : Stmt := top 7
abbrev s_is_within : Stmt := top 8
abbrev s_is_deed : Stmt := top 26
abbrev s_Program___init__ : Stmt := (clsB (top 27)).getD 0 (.Pass ⟨0, 0, 0, 0⟩)
abbrev s_need_program : Stmt := top 28
abbrev s_three_led_back : Stmt := top 31
abbrev s_led_back : Stmt := top 30
abbrev s_basic_deeds : Stmt := top 32
abbrev s_need_few : Stmt := top 29
abbrev s_basic : Stmt := top 33
abbrev s__law_table : Stmt := top 40
abbrev s__law_due : Stmt := top 41
abbrev s__law_heard : Stmt := top 43
abbrev s_odd_turns : Stmt := top 34
abbrev s__law_odd : Stmt := top 42
abbrev s__law_led_right : Stmt := top 44
abbrev s_law : Stmt := top 45
abbrev N__law_mason : List Str := ["_law_script", "_law_cell"]
abbrev N_Program___eq__ : List Str := ["self", "other"]
abbrev N__law_hew : List Str := ["_law_mason_here", "_law_many", "_law_turn", "_law_cell", "_law_mixed", "_law_left"]
abbrev N__law_one : List Str := ["_law_mason_here", "_law_some"]
abbrev N__law_deed : List Str := ["_law_mason_here", "_law_wires", "_law_words", "_law_word", "_law_many", "_law_turn", "_law_left", "_law_found"]
abbrev N_is_integer : List Str := ["value"]
abbrev N_is_within : List Str := ["value", "least", "most"]
abbrev N_is_deed : List Str := ["value", "wires", "its", "many", "is_turned", "wire"]
abbrev N_Program___init__ : List Str := ["self", "wires", "deeds", "each"]
abbrev N_need_program : List Str := ["value", "part"]
abbrev N_three_led_back : List Str := ["one", "other", "third", "first", "there", "back"]
abbrev N_led_back : List Str := ["deed", "word", "its"]
abbrev N_basic_deeds : List Str := ["program", "steps", "deed", "step", "last"]
abbrev N_need_few : List Str := ["deeds"]
abbrev N_basic : List Str := ["program", "found"]
abbrev N__law_table : List Str := ["_law_deed_here", "_law_names", "_law_found", "_law_step", "_law_word", "_law_wires", "_law_a", "_law_b", "_law_c"]
abbrev N__law_due : List Str := ["_law_deeds", "_law_found", "_law_deed_here", "_law_step"]
abbrev N__law_heard : List Str := ["_law_ask", "_law_caught", "error"]
abbrev N_odd_turns : List Str := ["program", "deed"]
abbrev N__law_odd : List Str := ["_law_deeds", "_law_deed_here"]
abbrev N__law_led_right : List Str := ["_law_wires", "_law_deeds", "_law_told", "_law_program", "_law_due_here"]
abbrev N_law : List Str := ["_law_script", "_law_mason_here", "_law_turn", "_law_many", "_law_odd_here", "_law_wires", "_law_deeds", "_law_both", "_law_swap", "_law_step"]
structure Cs where
  Program : Addr
  BadProgram : Addr
  LookError : Addr
  TooMany : Addr
abbrev se_BadProgram : Stmt := (clsB (top 3)).getD 0 (.Pass ⟨0, 0, 0, 0⟩)
theorem eb_BadProgram : PartSt se_BadProgram := ⟨⟨_, _, _, _, _, _, _, _, _, _, _, _, _, _, _, _, _, _, rfl, fun env => ⟨_, rfl⟩⟩, ⟨rfl, rfl, rfl, by decide, rfl, rfl, by decide +kernel, by decide +kernel⟩, rfl, rfl, _, rfl, rfl⟩
abbrev se_TooMany : Stmt := (clsB (top 4)).getD 0 (.Pass ⟨0, 0, 0, 0⟩)
theorem eb_TooMany : PartSt2 se_TooMany "what" "most" := ⟨⟨_, _, _, _, _, _, _, _, _, _, _, _, _, _, _, _, rfl, fun env => ⟨_, rfl⟩⟩, ⟨rfl, rfl, rfl, by decide, by decide, by decide, rfl, rfl, rfl, by decide +kernel, by decide +kernel⟩, rfl, rfl, ⟨_, rfl, rfl⟩, ⟨by decide, by decide⟩, ⟨by decide, by decide⟩⟩
structure Txt (P : Program) (w : World) (K : PySem.W.Frag) (mg : Str → Option Value) where
  cs : Cs
  f__law_mason : Addr
  d__law_mason : FuncData
  F__law_mason : Fun K "_law_mason" "_law_mason" s__law_mason f__law_mason d__law_mason
  m__law_mason : mg "_law_mason" = some (.ref f__law_mason)
  b__law_mason : Binds K d__law_mason ["_law_script"] []
  f_Program___eq__ : Addr
  d_Program___eq__ : FuncData
  F_Program___eq__ : Fun K "__eq__" "Program.__eq__" s_Program___eq__ f_Program___eq__ d_Program___eq__
  b_Program___eq__ : Binds K d_Program___eq__ ["self", "other"] []
  f__law_hew : Addr
  d__law_hew : FuncData
  F__law_hew : Fun K "_law_hew" "_law_hew" s__law_hew f__law_hew d__law_hew
  m__law_hew : mg "_law_hew" = some (.ref f__law_hew)
  b__law_hew : Binds K d__law_hew ["_law_mason_here", "_law_many"] []
  f__law_one : Addr
  d__law_one : FuncData
  F__law_one : Fun K "_law_one" "_law_one" s__law_one f__law_one d__law_one
  m__law_one : mg "_law_one" = some (.ref f__law_one)
  b__law_one : Binds K d__law_one ["_law_mason_here", "_law_some"] []
  f__law_deed : Addr
  d__law_deed : FuncData
  F__law_deed : Fun K "_law_deed" "_law_deed" s__law_deed f__law_deed d__law_deed
  m__law_deed : mg "_law_deed" = some (.ref f__law_deed)
  b__law_deed : Binds K d__law_deed ["_law_mason_here", "_law_wires"] []
  f_is_integer : Addr
  d_is_integer : FuncData
  F_is_integer : Fun K "is_integer" "is_integer" s_is_integer f_is_integer d_is_integer
  m_is_integer : mg "is_integer" = some (.ref f_is_integer)
  b_is_integer : Binds K d_is_integer ["value"] []
  f_is_within : Addr
  d_is_within : FuncData
  F_is_within : Fun K "is_within" "is_within" s_is_within f_is_within d_is_within
  m_is_within : mg "is_within" = some (.ref f_is_within)
  b_is_within : Binds K d_is_within ["value", "least", "most"] []
  f_is_deed : Addr
  d_is_deed : FuncData
  F_is_deed : Fun K "is_deed" "is_deed" s_is_deed f_is_deed d_is_deed
  m_is_deed : mg "is_deed" = some (.ref f_is_deed)
  b_is_deed : Binds K d_is_deed ["value", "wires"] []
  f_Program___init__ : Addr
  d_Program___init__ : FuncData
  F_Program___init__ : Fun K "__init__" "Program.__init__" s_Program___init__ f_Program___init__ d_Program___init__
  b_Program___init__ : Binds K d_Program___init__ ["self", "wires", "deeds"] []
  f_need_program : Addr
  d_need_program : FuncData
  F_need_program : Fun K "need_program" "need_program" s_need_program f_need_program d_need_program
  m_need_program : mg "need_program" = some (.ref f_need_program)
  b_need_program : Binds K d_need_program ["value", "part"] []
  f_three_led_back : Addr
  d_three_led_back : FuncData
  F_three_led_back : Fun K "three_led_back" "three_led_back" s_three_led_back f_three_led_back d_three_led_back
  m_three_led_back : mg "three_led_back" = some (.ref f_three_led_back)
  b_three_led_back : Binds K d_three_led_back ["one", "other", "third"] []
  f_led_back : Addr
  d_led_back : FuncData
  F_led_back : Fun K "led_back" "led_back" s_led_back f_led_back d_led_back
  m_led_back : mg "led_back" = some (.ref f_led_back)
  b_led_back : Binds K d_led_back ["deed"] []
  f_basic_deeds : Addr
  d_basic_deeds : FuncData
  F_basic_deeds : Fun K "basic_deeds" "basic_deeds" s_basic_deeds f_basic_deeds d_basic_deeds
  m_basic_deeds : mg "basic_deeds" = some (.ref f_basic_deeds)
  b_basic_deeds : Binds K d_basic_deeds ["program"] []
  f_need_few : Addr
  d_need_few : FuncData
  F_need_few : Fun K "need_few" "need_few" s_need_few f_need_few d_need_few
  m_need_few : mg "need_few" = some (.ref f_need_few)
  b_need_few : Binds K d_need_few ["deeds"] []
  f_basic : Addr
  d_basic : FuncData
  F_basic : Fun K "basic" "basic" s_basic f_basic d_basic
  m_basic : mg "basic" = some (.ref f_basic)
  b_basic : Binds K d_basic ["program"] []
  f__law_table : Addr
  d__law_table : FuncData
  F__law_table : Fun K "_law_table" "_law_table" s__law_table f__law_table d__law_table
  m__law_table : mg "_law_table" = some (.ref f__law_table)
  b__law_table : Binds K d__law_table ["_law_deed_here"] []
  f__law_due : Addr
  d__law_due : FuncData
  F__law_due : Fun K "_law_due" "_law_due" s__law_due f__law_due d__law_due
  m__law_due : mg "_law_due" = some (.ref f__law_due)
  b__law_due : Binds K d__law_due ["_law_deeds"] []
  f__law_heard : Addr
  d__law_heard : FuncData
  F__law_heard : Fun K "_law_heard" "_law_heard" s__law_heard f__law_heard d__law_heard
  m__law_heard : mg "_law_heard" = some (.ref f__law_heard)
  b__law_heard : Binds K d__law_heard ["_law_ask"] []
  f_odd_turns : Addr
  d_odd_turns : FuncData
  F_odd_turns : Fun K "odd_turns" "odd_turns" s_odd_turns f_odd_turns d_odd_turns
  m_odd_turns : mg "odd_turns" = some (.ref f_odd_turns)
  b_odd_turns : Binds K d_odd_turns ["program"] []
  f__law_odd : Addr
  d__law_odd : FuncData
  F__law_odd : Fun K "_law_odd" "_law_odd" s__law_odd f__law_odd d__law_odd
  m__law_odd : mg "_law_odd" = some (.ref f__law_odd)
  b__law_odd : Binds K d__law_odd ["_law_deeds"] []
  f__law_led_right : Addr
  d__law_led_right : FuncData
  F__law_led_right : Fun K "_law_led_right" "_law_led_right" s__law_led_right f__law_led_right d__law_led_right
  m__law_led_right : mg "_law_led_right" = some (.ref f__law_led_right)
  b__law_led_right : Binds K d__law_led_right ["_law_wires", "_law_deeds"] []
  cA__law_led_right : Addr
  P__law_led_right : Addr
  G__law_led_right : FunC K "_law_led_right" "_law_led_right" s__law_led_right f__law_led_right d__law_led_right cA__law_led_right
  f_law : Addr
  d_law : FuncData
  F_law : Fun K "law" "law" s_law f_law d_law
  m_law : mg "law" = some (.ref f_law)
  b_law : Binds K d_law ["_law_script"] []
  cA_law : Addr
  P_law : Addr
  G_law : FunC K "law" "law" s_law f_law d_law cA_law
  i_BadProgram : IsE K cs.BadProgram [(cs.BadProgram, true), (cs.TooMany, false)]
  i_TooMany : IsE K cs.TooMany [(cs.BadProgram, false), (cs.TooMany, true)]
  m_Program : mg "Program" = some (.ref cs.Program)
  c_Program : IsC K cs.Program
  M_Program : Mk K cs.Program f_Program___init__
  n_Program_wires : NoAttr K cs.Program "wires"
  n_Program_deeds : NoAttr K cs.Program "deeds"
  h_Program___eq__ : Meth K cs.Program "__eq__" f_Program___eq__
  q_Program : EqF K cs.Program f_Program___eq__
  m_BadProgram : mg "BadProgram" = some (.ref cs.BadProgram)
  m_LookError : mg "LookError" = some (.ref cs.LookError)
  m_TooMany : mg "TooMany" = some (.ref cs.TooMany)
  fe_BadProgram : Addr
  de_BadProgram : FuncData
  E_BadProgram : ErrF P K mg cs.BadProgram fe_BadProgram de_BadProgram
  be_BadProgram : Binds K de_BadProgram ["self", "part"] []
  x_BadProgram_LookError : PySem.W.exmOne K (.ref cs.BadProgram) (.ref cs.LookError) = some true
  fe_TooMany : Addr
  de_TooMany : FuncData
  E_TooMany : ErrF2 P K mg cs.TooMany fe_TooMany de_TooMany "what" "most"
  be_TooMany : Binds K de_TooMany ["self", "what", "most"] []
  x_TooMany_LookError : PySem.W.exmOne K (.ref cs.TooMany) (.ref cs.LookError) = some true
  xf_most : XfL K "most" [cs.TooMany]
  xf_part : XfL K "part" [cs.BadProgram]
  xf_what : XfL K "what" [cs.TooMany]
  k_WIRES_IN : KDic K w mg "WIRES_IN" [("turn", 1), ("mix", 1), ("sign", 2), ("not", 1), ("under", 2), ("swap", 2), ("both", 3)]
  z_abs : mg "abs" = none
  z_all : mg "all" = none
  z_bool : mg "bool" = none
  z_int : mg "int" = none
  z_isinstance : mg "isinstance" = none
  z_len : mg "len" = none
  z_list : mg "list" = none
  z_range : mg "range" = none
  z_repr : mg "repr" = none
  z_set : mg "set" = none
  z_str : mg "str" = none
  z_super : mg "super" = none
  z_tuple : mg "tuple" = none
  k_MOST_DEEDS : KonD K mg "MOST_DEEDS" (D.int 200)
  k_MOST_WIRES : KonD K mg "MOST_WIRES" (D.int 8)
/-- the tables of those that make lambdas -/
class TBs [Tbs] {P : Program} {w : World} {K : PySem.W.Frag} {mg : Str → Option Value} (base : Heap) (T : Txt P w K mg) : Prop where
  tb__law_led_right : LamX.TabB base mg T.cA__law_led_right T.P__law_led_right
  mem__law_led_right : (T.P__law_led_right, (("_law_led_right" : Str) ++ ".<locals>.") ++ "<lambda>") ∈ Tbs.ts
  one__law_led_right : ∀ p ∈ Tbs.ts, p.1 = T.P__law_led_right → p.2 = (("_law_led_right" : Str) ++ ".<locals>.") ++ "<lambda>"
  tb_law : LamX.TabB base mg T.cA_law T.P_law
  mem_law : (T.P_law, (("law" : Str) ++ ".<locals>.") ++ "<lambda>") ∈ Tbs.ts
  one_law : ∀ p ∈ Tbs.ts, p.1 = T.P_law → p.2 = (("law" : Str) ++ ".<locals>.") ++ "<lambda>"
section
variable [Tbs]
variable {P : Program} {w : World} {K : PySem.W.Frag} {mg : Str → Option Value} {base : Heap}
theorem kw_basic_0_program (T : Txt P w K mg) : KwB K T.d_basic ["program"] 0 ["program"] [0] := Fun.kwb T.F_basic 0 ["program"] [0] (fun _ _ _ _ _ _ us ws h1 h2 => match us, ws, h1, h2 with | [], [_], _, _ => rfl)
theorem kw_odd_turns_0_program (T : Txt P w K mg) : KwB K T.d_odd_turns ["program"] 0 ["program"] [0] := Fun.kwb T.F_odd_turns 0 ["program"] [0] (fun _ _ _ _ _ _ us ws h1 h2 => match us, ws, h1, h2 with | [], [_], _, _ => rfl)
theorem sc__law_mason : FnScope N__law_mason ["_law_script"] (defScope s__law_mason) := ⟨rfl, rfl, rfl, by decide +kernel, rfl, by decide +kernel, by decide +kernel⟩
theorem sc_Program___eq__ : FnScope N_Program___eq__ ["self", "other"] (defScope s_Program___eq__) := ⟨rfl, rfl, rfl, by decide +kernel, rfl, by decide +kernel, by decide +kernel⟩
theorem sc__law_hew : FnScope N__law_hew ["_law_mason_here", "_law_many"] (defScope s__law_hew) := ⟨rfl, rfl, rfl, by decide +kernel, rfl, by decide +kernel, by decide +kernel⟩
theorem sc__law_one : FnScope N__law_one ["_law_mason_here", "_law_some"] (defScope s__law_one) := ⟨rfl, rfl, rfl, by decide +kernel, rfl, by decide +kernel, by decide +kernel⟩
theorem sc__law_deed : FnScope N__law_deed ["_law_mason_here", "_law_wires"] (defScope s__law_deed) := ⟨rfl, rfl, rfl, by decide +kernel, rfl, by decide +kernel, by decide +kernel⟩
theorem sc_is_integer : FnScope N_is_integer ["value"] (defScope s_is_integer) := ⟨rfl, rfl, rfl, by decide +kernel, rfl, by decide +kernel, by decide +kernel⟩
theorem sc_is_within : FnScope N_is_within ["value", "least", "most"] (defScope s_is_within) := ⟨rfl, rfl, rfl, by decide +kernel, rfl, by decide +kernel, by decide +kernel⟩
theorem sc_is_deed : FnScope N_is_deed ["value", "wires"] (defScope s_is_deed) := ⟨rfl, rfl, rfl, by decide +kernel, rfl, by decide +kernel, by decide +kernel⟩
theorem sc_Program___init__ : FnScope N_Program___init__ ["self", "wires", "deeds"] (defScope s_Program___init__) := ⟨rfl, rfl, rfl, by decide +kernel, rfl, by decide +kernel, by decide +kernel⟩
theorem sc_need_program : FnScope N_need_program ["value", "part"] (defScope s_need_program) := ⟨rfl, rfl, rfl, by decide +kernel, rfl, by decide +kernel, by decide +kernel⟩
theorem sc_three_led_back : FnScope N_three_led_back ["one", "other", "third"] (defScope s_three_led_back) := ⟨rfl, rfl, rfl, by decide +kernel, rfl, by decide +kernel, by decide +kernel⟩
theorem sc_led_back : FnScope N_led_back ["deed"] (defScope s_led_back) := ⟨rfl, rfl, rfl, by decide +kernel, rfl, by decide +kernel, by decide +kernel⟩
theorem sc_basic_deeds : FnScope N_basic_deeds ["program"] (defScope s_basic_deeds) := ⟨rfl, rfl, rfl, by decide +kernel, rfl, by decide +kernel, by decide +kernel⟩
theorem sc_need_few : FnScope N_need_few ["deeds"] (defScope s_need_few) := ⟨rfl, rfl, rfl, by decide +kernel, rfl, by decide +kernel, by decide +kernel⟩
theorem sc_basic : FnScope N_basic ["program"] (defScope s_basic) := ⟨rfl, rfl, rfl, by decide +kernel, rfl, by decide +kernel, by decide +kernel⟩
theorem sc__law_table : FnScope N__law_table ["_law_deed_here"] (defScope s__law_table) := ⟨rfl, rfl, rfl, by decide +kernel, rfl, by decide +kernel, by decide +kernel⟩
theorem sc__law_due : FnScope N__law_due ["_law_deeds"] (defScope s__law_due) := ⟨rfl, rfl, rfl, by decide +kernel, rfl, by decide +kernel, by decide +kernel⟩
theorem sc__law_heard : FnScope N__law_heard ["_law_ask"] (defScope s__law_heard) := ⟨rfl, rfl, rfl, by decide +kernel, rfl, by decide +kernel, by decide +kernel⟩
theorem sc_odd_turns : FnScope N_odd_turns ["program"] (defScope s_odd_turns) := ⟨rfl, rfl, rfl, by decide +kernel, rfl, by decide +kernel, by decide +kernel⟩
theorem sc__law_odd : FnScope N__law_odd ["_law_deeds"] (defScope s__law_odd) := ⟨rfl, rfl, rfl, by decide +kernel, rfl, by decide +kernel, by decide +kernel⟩
theorem sc__law_led_right : FnScope N__law_led_right ["_law_wires", "_law_deeds"] (defScope s__law_led_right) := ⟨rfl, rfl, rfl, by decide +kernel, rfl, by decide +kernel, by decide +kernel⟩
theorem sc_law : FnScope N_law ["_law_script"] (defScope s_law) := ⟨rfl, rfl, rfl, by decide +kernel, rfl, by decide +kernel, by decide +kernel⟩
structure LI where
  i : Nat
  many : Int
  n : Nat
theorem svn_lt {i n : Nat} {cs : Sto} (h : SvN i n cs) : i < cs.length := by
  obtain ⟨ns, k, r, e, _⟩ := h
  exact (List.getElem?_eq_some_iff.mp e).1
/-- the sieve beside one more changing object -/
theorem svn_app {i n : Nat} {cs : Sto} {c : CO} (h : SvN i n cs) : SvN i n (cs ++ [c]) := by
  have hl := svn_lt h
  obtain ⟨ns, k, r, e, h⟩ := h
  exact ⟨ns, k, r, by rw [List.getElem?_append_left hl]; exact e, h⟩
theorem mv_app {i n : Nat} {cs S : Sto} {c : CO} (hi : i < cs.length) (h : Mv i n (cs ++ [c]) S) : ∃ cs2, S = cs2 ++ [c] ∧ Mv i n cs cs2 := by
  have hl : S.length = cs.length + 1 := by rw [h.len]; simp
  have hc : S[cs.length]? = some c := by
    rw [h.el cs.length (by omega)]
    simp
  have e : S = S.take cs.length ++ [c] := by
    apply List.ext_getElem?
    intro k
    by_cases hk : k < cs.length
    · rw [List.getElem?_append_left (by rw [List.length_take]; omega), List.getElem?_take_of_lt hk]
    · by_cases hk2 : k = cs.length
      · subst hk2
        rw [hc, List.getElem?_append_right (by rw [List.length_take]; omega), List.length_take, Nat.min_eq_left (by omega), Nat.sub_self]
        rfl
      · rw [List.getElem?_eq_none (by omega), List.getElem?_eq_none (by rw [List.length_append, List.length_take]; simp; omega)]
  refine ⟨S.take cs.length, e, ?_, by rw [List.length_take]; omega, fun k hk => ?_⟩
  · obtain ⟨ns, a, r, e2, h2⟩ := h.sv
    exact ⟨ns, a, r, by rw [List.getElem?_take_of_lt hi]; exact e2, h2⟩
  · by_cases hk2 : k < cs.length
    · rw [List.getElem?_take_of_lt hk2, h.el k hk, List.getElem?_append_left hk2]
    · rw [List.getElem?_eq_none (by rw [List.length_take]; omega), List.getElem?_eq_none (by omega)]
theorem okDs_ints {n : Nat} : ∀ ns : List Int, okDs n (ns.map .int)
  | [] => trivial
  | m :: ns => ⟨trivial, okDs_ints ns⟩
theorem mv_okS {i n m : Nat} {cs cs2 : Sto} (h : Mv i n cs cs2) (o : okS m cs) : okS m cs2 := fun c hc => by
  obtain ⟨k, hk, e⟩ := List.getElem_of_mem hc
  have e2 : cs2[k]? = some c := by rw [List.getElem?_eq_getElem hk, e]
  by_cases hki : k = i
  · subst hki
    obtain ⟨ns, a, r, e3, h2⟩ := h.sv
    rw [e3] at e2
    cases e2
    refine ⟨?_, ?_, ?_, ?_⟩
    · simp only [okD]
      exact okDs_ints ns
    all_goals simp [okD, okDs]
  · rw [h.el k hki] at e2
    exact o c (List.mem_of_getElem? e2)
/-- own changing objects behind the sieve's store are forgotten -/
theorem trim_mv {cs cs2 tail : Sto} {R : PD} {d : D} {i n : Nat} (h : Mv i n cs cs2) (hk : okS cs.length cs) (hd : okD cs.length d) (r : R d cs2) : trimR cs.length R d (cs2 ++ tail) :=
  .inr ⟨hd, by rw [List.take_left' h.len]; exact mv_okS h hk, by rw [List.take_left' h.len]; exact r⟩
def oD : Option Int → D
  | none => .non
  | some i => .int i
/-- four integers -/
structure Am where
  a : Int
  b : Int
  c : Int
  d : Int
def Am.ds (x : Am) : List D := [.int x.a, .int x.b, .int x.c, .int x.d]
def Am.t (x : Am) : D := .tup x.ds
def Am.py (x : Am) : PyData := .tuple [.int x.a, .int x.b, .int x.c, .int x.d]
structure Am.B (n : Nat) (x : Am) : Prop where
  a : Bd n x.a
  b : Bd n x.b
  c : Bd n x.c
  d : Bd n x.d
def Am.add (x y : Am) : Am := ⟨x.a + y.a, x.b + y.b, x.c + y.c, x.d + y.d⟩
def Am.mul (x y : Am) : Am := ⟨x.a * y.a - x.b * y.d - x.c * y.c - x.d * y.b, x.a * y.b + x.b * y.a - x.c * y.d - x.d * y.c, x.a * y.c + x.b * y.b + x.c * y.a - x.d * y.d, x.a * y.d + x.b * y.c + x.c * y.b + x.d * y.a⟩
def Am.mir (x : Am) : Am := ⟨x.a, -x.d, -x.c, -x.b⟩
def Am.tn1 (x : Am) : Am := ⟨-x.d, x.a, x.b, x.c⟩
def Am.tn : Nat → Am → Am
  | 0, x => x
  | n + 1, x => (Am.tn n x).tn1
def Am.l1 (x : Am) : Int := x.a * x.a + x.b * x.b + x.c * x.c + x.d * x.d
def Am.l2 (x : Am) : Int := x.a * x.b + x.b * x.c + x.c * x.d - x.d * x.a
abbrev SA := D × Am
def SA.ok (i : SA) (cs : Sto) : Prop := seqOf cs i.1 = some i.2.ds
theorem bd1 : Bd 64 1 := by unfold Bd; decide
theorem bdm1 : Bd 64 (-1) := by unfold Bd; decide
theorem ng1 (x : Int) : -1 * x = -x := by omega
structure MB where
  x : Am
  y : Am
  n : Nat
  m : Nat
def MB.ok (i : MB) : Prop := i.x.B i.n ∧ i.y.B i.m ∧ i.n + i.m ≤ 900000
theorem Am.ext' {x y : Am} (h1 : x.a = y.a) (h2 : x.b = y.b) (h3 : x.c = y.c) (h4 : x.d = y.d) : x = y := by
  cases x
  cases y
  simp_all
instance : DecidableEq Am := fun x y => decidable_of_iff (x.a = y.a ∧ x.b = y.b ∧ x.c = y.c ∧ x.d = y.d) ⟨fun h => Am.ext' h.1 h.2.1 h.2.2.1 h.2.2.2, fun h => by subst h; exact ⟨rfl, rfl, rfl, rfl⟩⟩
theorem seqOf_t (cs : Sto) (x : Am) : seqOf cs x.t = some x.ds := (rfl)
theorem eqA (cs : Sto) (neg : Bool) (x y : Am) : eqD cs neg x.t y.t = some (True, .bl (if neg = true then !decide (x = y) else decide (x = y))) := by
  have h := eqD_tints (cs := cs) neg [x.a, x.b, x.c, x.d] [y.a, y.b, y.c, y.d]
  have e : ([x.a, x.b, x.c, x.d] = [y.a, y.b, y.c, y.d]) ↔ x = y := ⟨fun h => by simp only [List.cons.injEq, and_true] at h; exact Am.ext' h.1 h.2.1 h.2.2.1 h.2.2.2, fun h => by subst h; rfl⟩
  simp only [e] at h
  exact h
theorem eqA4 (cs : Sto) (neg : Bool) (x : Am) (a b c d : Int) : eqD cs neg x.t (.tup [.int a, .int b, .int c, .int d]) = some (True, .bl (if neg = true then !decide (x = ⟨a, b, c, d⟩) else decide (x = ⟨a, b, c, d⟩))) := eqA cs neg x ⟨a, b, c, d⟩
theorem ixA0 (cs : Sto) (x : Am) : ixD cs x.t (.int 0) = some (True, .int x.a) := (rfl)
theorem ixA1 (cs : Sto) (x : Am) : ixD cs x.t (.int 1) = some (True, .int x.b) := (rfl)
theorem ixA2 (cs : Sto) (x : Am) : ixD cs x.t (.int 2) = some (True, .int x.c) := (rfl)
theorem ixA3 (cs : Sto) (x : Am) : ixD cs x.t (.int 3) = some (True, .int x.d) := (rfl)
theorem reprA {n : Nat} {x : Am} (h : x.B n) (l : n ≤ 1920 := by decide) (cs : Sto) : reprD cs x.t = some (True, shD x.t) :=
  reprD_ok (n := n) (k := 1) (by simp only [Am.t, Am.ds, DB, DBL, and_true]; exact ⟨h.a, h.b, h.c, h.d⟩) l (by decide) (by simp [Am.t, Am.ds, dwt, dwts])
theorem repr2 {n : Nat} {a b : Int} (h1 : Bd n a) (h2 : Bd n b) (l : n ≤ 1920 := by decide) (cs : Sto) : reprD cs (.tup [.int a, .int b]) = some (True, shD (.tup [.int a, .int b])) :=
  reprD_ok (n := n) (k := 1) (by simp only [DB, DBL, and_true]; exact ⟨h1, h2⟩) l (by decide) (by simp [dwt, dwts])
theorem Am.B.mono {n m : Nat} {x : Am} (h : x.B n) (l : n ≤ m) : x.B m := ⟨h.a.mono l, h.b.mono l, h.c.mono l, h.d.mono l⟩
theorem Am.B.add {n : Nat} {x y : Am} (h : x.B n) (k : y.B n) : (x.add y).B (n + 1) := ⟨h.a.add k.a, h.b.add k.b, h.c.add k.c, h.d.add k.d⟩
theorem Am.B.mir {n : Nat} {x : Am} (h : x.B n) : x.mir.B n := ⟨h.a, h.d.neg, h.c.neg, h.b.neg⟩
theorem Am.B.tn {n : Nat} {x : Am} (h : x.B n) : ∀ k, (Am.tn k x).B n
  | 0 => h
  | k + 1 => by
    have i := Am.B.tn h k
    exact ⟨i.d.neg, i.a, i.b, i.c⟩
theorem Am.B.mul {n m : Nat} {x y : Am} (h : x.B n) (k : y.B m) : (x.mul y).B (n + m + 3) :=
  ⟨(((h.a.mul k.a).sub (h.b.mul k.d)).sub ((h.c.mul k.c).mono (by omega))).sub ((h.d.mul k.b).mono (by omega)),
   (((h.a.mul k.b).add (h.b.mul k.a)).sub ((h.c.mul k.d).mono (by omega))).sub ((h.d.mul k.c).mono (by omega)),
   (((h.a.mul k.c).add (h.b.mul k.b)).add ((h.c.mul k.a).mono (by omega))).sub ((h.d.mul k.d).mono (by omega)),
   (((h.a.mul k.d).add (h.b.mul k.c)).add ((h.c.mul k.b).mono (by omega))).add ((h.d.mul k.a).mono (by omega))⟩
theorem Am.B.l1 {n : Nat} {x : Am} (h : x.B n) : Bd (n + n + 3) x.l1 := (((h.a.mul h.a).add (h.b.mul h.b)).add ((h.c.mul h.c).mono (by omega))).add ((h.d.mul h.d).mono (by omega))
theorem Am.B.l2 {n : Nat} {x : Am} (h : x.B n) : Bd (n + n + 3) x.l2 := (((h.a.mul h.b).add (h.b.mul h.c)).add ((h.c.mul h.d).mono (by omega))).sub ((h.d.mul h.a).mono (by omega))
theorem Am.add_comm (x y : Am) : y.add x = x.add y := by
  apply Am.ext' <;> simp only [Am.add] <;> omega
theorem Am.mul_comm (x y : Am) : y.mul x = x.mul y := by
  apply Am.ext' <;> simp only [Am.mul] <;> grind
theorem Am.mul_assoc (x y z : Am) : (x.mul y).mul z = x.mul (y.mul z) := by
  apply Am.ext' <;> simp only [Am.mul] <;> grind
theorem Am.mul_add (x y z : Am) : x.mul (y.add z) = (x.mul y).add (x.mul z) := by
  apply Am.ext' <;> simp only [Am.mul, Am.add] <;> grind
theorem Am.mul_mir (x : Am) : x.mul x.mir = ⟨x.l1, x.l2, 0, -x.l2⟩ := by
  apply Am.ext' <;> simp only [Am.mul, Am.mir, Am.l1, Am.l2] <;> grind
theorem Am.mir_mir (x : Am) : x.mir.mir = x := by
  apply Am.ext' <;> simp only [Am.mir] <;> omega
theorem Am.l1_mul (x y : Am) : (x.mul y).l1 = x.l1 * y.l1 + 2 * x.l2 * y.l2 := by
  simp only [Am.mul, Am.l1, Am.l2]
  grind
theorem Am.l2_mul (x y : Am) : (x.mul y).l2 = x.l1 * y.l2 + x.l2 * y.l1 := by
  simp only [Am.mul, Am.l1, Am.l2]
  grind
theorem Am.l1_tn (x : Am) : ∀ k, (Am.tn k x).l1 = x.l1
  | 0 => rfl
  | k + 1 => by
    rw [← Am.l1_tn x k]
    simp only [Am.tn, Am.tn1, Am.l1]
    grind
theorem Am.l2_tn (x : Am) : ∀ k, (Am.tn k x).l2 = x.l2
  | 0 => rfl
  | k + 1 => by
    rw [← Am.l2_tn x k]
    simp only [Am.tn, Am.tn1, Am.l2]
    grind
theorem Am.tn_tn (x : Am) (m : Nat) : ∀ k, Am.tn k (Am.tn m x) = Am.tn (m + k) x
  | 0 => rfl
  | k + 1 => by
    show (Am.tn k (Am.tn m x)).tn1 = (Am.tn (m + k) x).tn1
    rw [Am.tn_tn x m k]
theorem Am.tn8 (x : Am) (k : Nat) : Am.tn (k + 8) x = Am.tn k x := by
  show ((((((((Am.tn k x).tn1).tn1).tn1).tn1).tn1).tn1).tn1).tn1 = _
  apply Am.ext' <;> simp only [Am.tn1] <;> omega
theorem Am.tn_mod (x : Am) (k : Nat) (h : k < 16) : Am.tn (k % 8) x = Am.tn k x := by
  by_cases h8 : k < 8
  · rw [Nat.mod_eq_of_lt h8]
  · have e : k % 8 + 8 = k := by omega
    rw [← Am.tn8, e]
theorem Am.zero (x : Am) : (x.l1 = 0 ∧ x.l2 = 0) ↔ x = ⟨0, 0, 0, 0⟩ := by
  constructor
  · intro h
    have h1 : x.a * x.a + x.b * x.b + x.c * x.c + x.d * x.d = 0 := h.1
    have sq : ∀ y : Int, 0 ≤ y * y := fun y => by
      rcases Int.le_total 0 y with h | h
      · exact Int.mul_nonneg h h
      · exact Int.mul_nonneg_of_nonpos_of_nonpos h h
    have z : ∀ y : Int, y * y = 0 → y = 0 := fun y h => (Int.mul_eq_zero.mp h).elim id id
    have := sq x.a
    have := sq x.b
    have := sq x.c
    have := sq x.d
    exact Am.ext' (z _ (by omega)) (z _ (by omega)) (z _ (by omega)) (z _ (by omega))
  · intro h
    subst h
    exact ⟨rfl, rfl⟩

/-! ### spreads -/
abbrev Spr := List Am
def Am.O : Am := ⟨0, 0, 0, 0⟩
def sT (xs : Spr) : List D := xs.map Am.t
def Alls (cs : Sto) : List D → Spr → Prop
  | [], [] => True
  | d :: ds, x :: xs => seqOf cs d = some x.ds ∧ Alls cs ds xs
  | _, _ => False
theorem Alls.len {cs : Sto} : ∀ {ds : List D} {xs : Spr}, Alls cs ds xs → ds.length = xs.length
  | [], [], _ => rfl
  | d :: ds, x :: xs, h => by rw [List.length_cons, List.length_cons, Alls.len h.2]
theorem Alls.mem {cs : Sto} {d : D} : ∀ {ds : List D} {xs : Spr}, Alls cs ds xs → d ∈ ds → ∃ x ∈ xs, seqOf cs d = some x.ds
  | e :: ds, x :: xs, h, m => by
    rcases List.mem_cons.mp m with rfl | m
    · exact ⟨x, List.mem_cons_self, h.1⟩
    · obtain ⟨y, h1, h2⟩ := Alls.mem h.2 m
      exact ⟨y, List.mem_cons_of_mem _ h1, h2⟩
theorem Alls.t {cs : Sto} : ∀ xs : Spr, Alls cs (sT xs) xs
  | [] => trivial
  | x :: xs => ⟨rfl, Alls.t xs⟩
def Am.nz (x : Am) : Bool := [x.a, x.b, x.c, x.d].any (· != 0)
def nzOf (cs : Sto) (d : D) : D := match seqOf cs d with
  | some es => (match nums es with
    | some ns => D.bl (ns.any (· != 0))
    | none => .non)
  | none => .non
theorem nzOf_t {cs : Sto} {d : D} {x : Am} (h : seqOf cs d = some x.ds) : nzOf cs d = .bl x.nz := by
  unfold nzOf
  rw [h]
  simp [Am.ds, nums, Am.nz]
theorem Alls.nz {cs : Sto} : ∀ {ds : List D} {xs : Spr}, Alls cs ds xs → ds.map (nzOf cs) = (xs.map Am.nz).map D.bl
  | [], [], _ => rfl
  | d :: ds, x :: xs, h => by
    rw [List.map_cons, List.map_cons, List.map_cons, Alls.nz h.2, nzOf_t h.1]
def tupOf (cs : Sto) (d : D) : D := match seqOf cs d with
  | some es => D.tup es
  | none => .non
theorem tupOf_t {cs : Sto} {d : D} {ds : List D} (h : seqOf cs d = some ds) : tupOf cs d = .tup ds := by
  unfold tupOf
  rw [h]
theorem Alls.tups {cs : Sto} : ∀ {ds : List D} {xs : Spr}, Alls cs ds xs → ds.map (tupOf cs) = sT xs
  | [], [], _ => rfl
  | d :: ds, x :: xs, h => by
    rw [List.map_cons, Alls.tups h.2, tupOf_t h.1]
    rfl
structure SpD (cs : Sto) (d : D) (xs : Spr) : Prop where
  it : ∃ ds, seqOf cs d = some ds ∧ Alls cs ds xs
theorem SpD.tup {cs : Sto} (xs : Spr) : SpD cs (.tup (sT xs)) xs := ⟨sT xs, rfl, Alls.t xs⟩
theorem SpD.lst {cs : Sto} (xs : Spr) : SpD cs (.lst (sT xs)) xs := ⟨sT xs, rfl, Alls.t xs⟩
/-- a spread: its number of places -/
structure Spr.W (n : Nat) (xs : Spr) : Prop where
  len : xs.length = 2 ^ n
  few : n ≤ 12
  nz : (xs.map Am.nz).any id = true
def s1 (xs : Spr) : Int := (xs.map Am.l1).sum
def s2 (xs : Spr) : Int := (xs.map Am.l2).sum
theorem s1_app (xs : Spr) (x : Am) : s1 (xs ++ [x]) = s1 xs + x.l1 := by simp [s1]
theorem s2_app (xs : Spr) (x : Am) : s2 (xs ++ [x]) = s2 xs + x.l2 := by simp [s2]
theorem take_succ' {α : Type} {xs : List α} {k : Nat} {x : α} (h : xs[k]? = some x) : xs.take (k + 1) = xs.take k ++ [x] := by
  rw [List.take_add_one, h]
  rfl
theorem sT_get {xs : Spr} {k : Nat} {d : D} (h : (sT xs)[k]? = some d) : ∃ x, xs[k]? = some x ∧ d = .tup x.ds := by
  unfold sT at h
  rw [List.getElem?_map] at h
  obtain ⟨x, h1, h2⟩ := Option.map_eq_some_iff.mp h
  exact ⟨x, h1, h2.symm⟩
theorem p2 (p : Nat) : ((2 ^ p : Nat) : Int) = 2 ^ p := by rw [Int.natCast_pow]; rfl
theorem band_low (a p : Nat) : Builtin.bitAnd (a : Int) (2 ^ p - 1) = ((a % 2 ^ p : Nat) : Int) := by
  rw [PySem.W.kbt_mask, Int.natCast_emod, p2]
theorem bitNot_low (p : Nat) : Builtin.bitNot ((2 : Int) ^ p - 1) = -(2 ^ p) := by
  show -((2 : Int) ^ p - 1) - 1 = _
  omega
theorem band_high (a p : Nat) : Builtin.bitAnd (a : Int) (-(2 ^ p)) = ((a - a % 2 ^ p : Nat) : Int) := by
  have h1 := Nat.two_pow_pos p
  have h2 := p2 p
  unfold Builtin.bitAnd
  have e1 : decide ((0 : Int) ≤ (a : Int)) = true := by simp
  have e2 : decide ((0 : Int) ≤ -(2 ^ p : Int)) = false := by
    rw [decide_eq_false_iff_not]
    omega
  simp only [e1, e2]
  have e3 : (Builtin.bitNot (-(2 ^ p : Int))).toNat = 2 ^ p - 1 := by
    show (-(-(2 ^ p : Int)) - 1).toNat = _
    omega
  rw [e3, Int.toNat_natCast, Nat.and_two_pow_sub_one_eq_mod]
  have := Nat.mod_le a (2 ^ p)
  omega
theorem bor_nat (a b : Nat) : Builtin.bitOr (a : Int) (b : Int) = ((a ||| b : Nat) : Int) := by
  unfold Builtin.bitOr
  show -(Builtin.bitAnd (-(a : Int) - 1) (-(b : Int) - 1)) - 1 = _
  unfold Builtin.bitAnd
  have e1 : decide ((0 : Int) ≤ -(a : Int) - 1) = false := by rw [decide_eq_false_iff_not]; omega
  have e2 : decide ((0 : Int) ≤ -(b : Int) - 1) = false := by rw [decide_eq_false_iff_not]; omega
  simp only [e1, e2]
  show -(-(((-(-(a : Int) - 1) - 1).toNat ||| (-(-(b : Int) - 1) - 1).toNat : Nat) : Int) - 1) - 1 = _
  have e3 : (-(-(a : Int) - 1) - 1).toNat = a := by omega
  have e4 : (-(-(b : Int) - 1) - 1).toNat = b := by omega
  rw [e3, e4]
  omega
def ixL (p a : Nat) : Nat := a % 2 ^ p + 2 * (a - a % 2 ^ p)
theorem high_mul (a p : Nat) : a - a % 2 ^ p = 2 ^ p * (a / 2 ^ p) := by
  have := Nat.div_add_mod a (2 ^ p)
  omega
theorem or_here (a p : Nat) : a % 2 ^ p ||| (a - a % 2 ^ p) * 2 = ixL p a := by
  have h1 := Nat.mod_lt a (Nat.two_pow_pos p)
  rw [ixL, high_mul, Nat.or_comm, Nat.mul_assoc, ← Nat.two_pow_add_eq_or_of_lt h1, Nat.add_comm, Nat.mul_comm (a / 2 ^ p) 2, Nat.mul_left_comm]
theorem ixL_eq (p a : Nat) : ixL p a = 2 ^ (p + 1) * (a / 2 ^ p) + a % 2 ^ p := by
  rw [ixL, high_mul, Nat.pow_succ, Nat.add_comm, Nat.mul_assoc, Nat.mul_left_comm]
theorem or_bit (a p : Nat) : ixL p a ||| 2 ^ p = ixL p a + 2 ^ p := by
  have h1 := Nat.mod_lt a (Nat.two_pow_pos p)
  have h2 : a % 2 ^ p ||| 2 ^ p = 2 ^ p + a % 2 ^ p := by
    have := Nat.two_pow_add_eq_or_of_lt h1 1
    rw [Nat.mul_one] at this
    rw [Nat.or_comm, this]
  have h3 : 2 ^ p + a % 2 ^ p < 2 ^ (p + 1) := by rw [Nat.pow_succ]; omega
  have h4 : a % 2 ^ p < 2 ^ (p + 1) := by omega
  have h5 := Nat.two_pow_add_eq_or_of_lt h4 (a / 2 ^ p)
  have h6 := Nat.two_pow_add_eq_or_of_lt h3 (a / 2 ^ p)
  rw [ixL_eq, h5, Nat.or_assoc, h2, ← h6, ← h5]
  omega
theorem ixL_lt {n p a : Nat} (hp : p < n) (ha : a < 2 ^ n / 2) : ixL p a + 2 ^ p < 2 ^ n := by
  obtain ⟨m, rfl⟩ : ∃ m, n = p + 1 + m := ⟨n - p - 1, by omega⟩
  have h1 := Nat.mod_lt a (Nat.two_pow_pos p)
  have h2 : a / 2 ^ p < 2 ^ m := by
    rw [Nat.div_lt_iff_lt_mul (Nat.two_pow_pos p)]
    have : 2 ^ (p + 1 + m) = 2 * (2 ^ m * 2 ^ p) := by rw [Nat.pow_add, Nat.pow_succ]; grind
    omega
  have h3 : 2 ^ (p + 1) * (a / 2 ^ p + 1) ≤ 2 ^ (p + 1) * 2 ^ m := Nat.mul_le_mul_left _ h2
  rw [ixL_eq, Nat.pow_add 2 (p + 1) m]
  have : 2 ^ (p + 1) = 2 * 2 ^ p := by rw [Nat.pow_succ, Nat.mul_comm]
  rw [Nat.mul_add] at h3
  omega
def atS (xs : Spr) (i : Nat) : Am := xs.getD i Am.O
theorem atS_get {xs : Spr} {i : Nat} (h : i < xs.length) : atI (sT xs) (i : Int) = some (atS xs i).t := by
  rw [DL.atI_nat, sT, List.getElem?_map, List.getElem?_eq_getElem h, atS, List.getD_eq_getElem?_getD, List.getElem?_eq_getElem h]
  rfl
def lookL (xs : Spr) (p k : Nat) : Spr := (List.range (xs.length / 2)).map fun a => (atS xs (ixL p a)).add (Am.tn k (atS xs (ixL p a + 2 ^ p)))
theorem cast2 (m : Nat) : (m : Int) * 2 = ((m * 2 : Nat) : Int) := by omega
theorem bor_bit (x p : Nat) : Builtin.bitOr (x : Int) (2 ^ p) = ((x ||| 2 ^ p : Nat) : Int) := by rw [← p2, bor_nat]
theorem Spr.W.le {n : Nat} {xs : Spr} (w : xs.W n) : xs.length ≤ 4096 := by
  rw [w.len]
  exact Nat.pow_le_pow_right (n := 2) (by decide) w.few
theorem lookL_len (xs : Spr) (p k : Nat) : (lookL xs p k).length = xs.length / 2 := by simp [lookL]
theorem lookL_get {xs : Spr} {p k a : Nat} (h : a < xs.length / 2) : (lookL xs p k)[a]? = some ((atS xs (ixL p a)).add (Am.tn k (atS xs (ixL p a + 2 ^ p)))) := by
  rw [lookL, List.getElem?_map, List.getElem?_range h]
  rfl
theorem sT_take {xs : Spr} {k : Nat} {x : Am} (h : xs[k]? = some x) : sT (xs.take (k + 1)) = sT (xs.take k) ++ [x.t] := by
  rw [take_succ' h, sT, List.map_append]
  rfl
theorem okT {n : Nat} : ∀ xs : Spr, okDs n (sT xs)
  | [] => trivial
  | x :: xs => by
    rw [sT, List.map_cons]
    refine ⟨by simp [Am.t, Am.ds, okD, okDs], okT xs⟩
theorem Am.B.O {n : Nat} : Am.O.B n := by
  have z : Bd n 0 := by unfold Bd; exact Nat.two_pow_pos n
  exact ⟨z, z, z, z⟩
def SB (n : Nat) (xs : Spr) : Prop := ∀ x ∈ xs, x.B n
theorem SB.at {n : Nat} {xs : Spr} (h : SB n xs) (i : Nat) : (atS xs i).B n := by
  unfold atS
  rw [List.getD_eq_getElem?_getD]
  cases e : xs[i]? with
  | none => exact Am.B.O
  | some x => exact h x (List.mem_of_getElem? e)
theorem SB.look {n : Nat} {xs : Spr} (h : SB n xs) (p k : Nat) : SB (n + 1) (lookL xs p k) := fun x hx => by
  obtain ⟨a, _, rfl⟩ := List.mem_map.mp hx
  exact (h.at _).add ((h.at _).tn _)
/-- a spread, or None if nothing is left -/
def optT (xs : Spr) : D := if (xs.map Am.nz).any id = true then .tup (sT xs) else .non
theorem sT_nz (cs : Sto) (xs : Spr) : (sT xs).map (nzOf cs) = (xs.map Am.nz).map D.bl := (Alls.t (cs := cs) xs).nz
theorem mem_sT {xs : Spr} {d : D} (h : d ∈ sT xs) : ∃ x ∈ xs, d = x.t := by
  obtain ⟨x, h1, h2⟩ := List.mem_map.mp h
  exact ⟨x, h1, h2.symm⟩
def Am.oth (x : Am) : Am := (Am.mul ⟨x.a, x.d, -x.c, x.b⟩ ⟨x.a, -x.b, x.c, -x.d⟩).mul x.mir
theorem Am.B.oth {n : Nat} {x : Am} (h : x.B n) : x.oth.B (n + n + 3 + n + 3) := by
  have h1 : Am.B n ⟨x.a, x.d, -x.c, x.b⟩ := ⟨h.a, h.d, h.c.neg, h.b⟩
  have h2 : Am.B n ⟨x.a, -x.b, x.c, -x.d⟩ := ⟨h.a, h.b.neg, h.c, h.d.neg⟩
  exact (h1.mul h2).mul h.mir
def turnL (xs : Spr) (p k : Nat) : Spr := (List.range xs.length).map fun a => if a / 2 ^ p % 2 = 1 then Am.tn k (atS xs a) else atS xs a
theorem turnL_len (xs : Spr) (p k : Nat) : (turnL xs p k).length = xs.length := by simp [turnL]
theorem turnL_get {xs : Spr} {p k a : Nat} (h : a < xs.length) : (turnL xs p k)[a]? = some (if a / 2 ^ p % 2 = 1 then Am.tn k (atS xs a) else atS xs a) := by
  rw [turnL, List.getElem?_map, List.getElem?_range h]
  rfl
theorem atS_some {xs : Spr} {i : Nat} {x : Am} (h : xs[i]? = some x) : atS xs i = x := by
  rw [atS, List.getD_eq_getElem?_getD, h]
  rfl
def gL (g : Nat) (ns : List Int) : Nat := ns.foldl (fun g n => Nat.gcd g n.natAbs) g
def gS (g : Nat) (xs : Spr) : Nat := xs.foldl (fun g x => gL g [x.a, x.b, x.c, x.d]) g
theorem gL_app (g : Nat) (ns : List Int) (n : Int) : gL g (ns ++ [n]) = Nat.gcd (gL g ns) n.natAbs := by simp [gL]
theorem gS_app (g : Nat) (xs : Spr) (x : Am) : gS g (xs ++ [x]) = gL (gS g xs) [x.a, x.b, x.c, x.d] := by simp [gS]
theorem bit_at (i p : Nat) : (Builtin.bitAnd ((i : Int) / 2 ^ p) 1 != 0) = decide (i / 2 ^ p % 2 = 1) := by
  have e : (i : Int) / 2 ^ p = ((i / 2 ^ p : Nat) : Int) := by rw [← p2, Int.natCast_ediv]
  have h : Builtin.bitAnd ((i : Int) / 2 ^ p) 1 = ((i / 2 ^ p % 2 : Nat) : Int) := by
    rw [e]
    have := band_low (i / 2 ^ p) 1
    simpa using this
  rw [h, Bool.eq_iff_iff]
  simp only [bne_iff_ne, decide_eq_true_eq, ne_eq]
  omega
/-! ### the norm; plain forms -/
def Am.N (x : Am) : Int := x.l1 * x.l1 - 2 * x.l2 * x.l2
theorem Am.mul_oth (x : Am) : x.mul x.oth = ⟨x.N, 0, 0, 0⟩ := by
  apply Am.ext' <;> simp only [Am.mul, Am.oth, Am.mir, Am.N, Am.l1, Am.l2] <;> grind
theorem sq2 : ∀ (n a b : Nat), a < n → a * a = 2 * (b * b) → a = 0
  | 0, a, b, h, _ => absurd h (Nat.not_lt_zero a)
  | n + 1, a, b, h, e => by
    by_cases ha : a = 0
    · exact ha
    · have h2 : a % 2 = 0 := by
        rcases Nat.mod_two_eq_zero_or_one a with h0 | h0
        · exact h0
        · exfalso
          obtain ⟨c, hc⟩ : ∃ c, a = 2 * c + 1 := ⟨a / 2, by omega⟩
          have : a * a = 2 * (2 * (c * c) + 2 * c) + 1 := by subst hc; grind
          omega
      obtain ⟨c, hc⟩ : ∃ c, a = 2 * c := ⟨a / 2, by omega⟩
      have e2 : b * b = 2 * (c * c) := by
        have : a * a = 4 * (c * c) := by subst hc; grind
        omega
      have hb : b < a := by
        by_cases h4 : b < a
        · exact h4
        · exfalso
          have h5 : a * a ≤ b * b := Nat.mul_self_le_mul_self (Nat.le_of_not_lt h4)
          have h6 : 0 < a * a := Nat.mul_pos (by omega) (by omega)
          omega
      have := sq2 n b c (by omega) e2
      subst this
      have : c * c = 0 := by omega
      have : c = 0 := by rcases Nat.mul_eq_zero.mp this with h | h <;> exact h
      omega
theorem Am.l1_nn (x : Am) : 0 ≤ x.l1 := by
  have sq : ∀ y : Int, 0 ≤ y * y := fun y => by
    rcases Int.le_total 0 y with h | h
    · exact Int.mul_nonneg h h
    · exact Int.mul_nonneg_of_nonpos_of_nonpos h h
  have := sq x.a
  have := sq x.b
  have := sq x.c
  have := sq x.d
  unfold Am.l1
  omega
theorem Am.N_nn (x : Am) : 0 ≤ x.N := by
  have e : x.N = (x.a * x.a - x.c * x.c + 2 * x.b * x.d) * (x.a * x.a - x.c * x.c + 2 * x.b * x.d) + (2 * x.a * x.c - x.b * x.b + x.d * x.d) * (2 * x.a * x.c - x.b * x.b + x.d * x.d) := by
    simp only [Am.N, Am.l1, Am.l2]
    grind
  have sq : ∀ y : Int, 0 ≤ y * y := fun y => by
    rcases Int.le_total 0 y with h | h
    · exact Int.mul_nonneg h h
    · exact Int.mul_nonneg_of_nonpos_of_nonpos h h
  rw [e]
  exact Int.add_nonneg (sq _) (sq _)
theorem Am.N_pos {x : Am} (h : x ≠ ⟨0, 0, 0, 0⟩) : 0 < x.N := by
  have h1 := x.N_nn
  by_cases hz : x.N = 0
  · exfalso
    apply h
    have e : x.l1 * x.l1 = 2 * (x.l2 * x.l2) := by unfold Am.N at hz; rw [Int.mul_assoc] at hz; omega
    have e2 : x.l1.natAbs * x.l1.natAbs = 2 * (x.l2.natAbs * x.l2.natAbs) := by
      rw [← Int.natAbs_mul, ← Int.natAbs_mul, e, Int.natAbs_mul]
      rfl
    have e3 := sq2 (x.l1.natAbs + 1) _ _ (by omega) e2
    have e4 : x.l1 = 0 := by omega
    have e5 : x.l2 = 0 := by
      rw [e3] at e2
      have : x.l2.natAbs * x.l2.natAbs = 0 := by omega
      have : x.l2.natAbs = 0 := by rcases Nat.mul_eq_zero.mp this with h | h <;> exact h
      omega
    exact x.zero.mp ⟨e4, e5⟩
  · omega
theorem Am.nz_iff (x : Am) : x.nz = true ↔ x ≠ ⟨0, 0, 0, 0⟩ := by
  unfold Am.nz
  simp only [List.any_cons, List.any_nil, Bool.or_false, Bool.or_eq_true, bne_iff_ne, ne_eq]
  constructor
  · intro h e
    subst e
    simp at h
  · intro h
    by_cases h1 : x.a = 0
    · by_cases h2 : x.b = 0
      · by_cases h3 : x.c = 0
        · by_cases h4 : x.d = 0
          · exact absurd (Am.ext' h1 h2 h3 h4) h
          · exact .inr (.inr (.inr h4))
        · exact .inr (.inr (.inl h3))
      · exact .inr (.inl h2)
    · exact .inl h1
theorem Am.nz_dec (x : Am) : (!decide (x = ⟨0, 0, 0, 0⟩)) = x.nz := by
  rw [Bool.eq_iff_iff, x.nz_iff]
  simp
/-! ### comprehensions over the amounts of a spread -/
theorem lc_sT {pt : Pat} {we : WE} {env : En} {W : Sto → Prop} {Q : PD} {cs : Sto} {z : Lz (pt, wYes, we, env, W, Q)} (f : Am → D) (hW : W cs) (xs : Spr)
    (hs : ∀ x ∈ xs, ∃ env', patSet cs pt x.t env = some env' ∧ ∀ R : PD, R (f x) cs → we env' cs R) (hd : Q (.lst (xs.map f)) cs) : lcP pt wYes we env W Q (sT xs) [] cs z := by
  have go : ∀ (ys : Spr) (acc : List D), (∀ x ∈ ys, x ∈ xs) → Q (.lst (acc ++ ys.map f)) cs → lcloop pt wYes we env W Q (sT ys) acc cs := by
    intro ys
    induction ys with
    | nil => intro acc _ h; exact ⟨hW, by simpa using h⟩
    | cons y ys ih =>
      intro acc hm h
      obtain ⟨env', e, q⟩ := hs y (hm y List.mem_cons_self)
      refine ⟨hW, ?_⟩
      show match patSet cs pt y.t env with | some env' => _ | none => False
      rw [e]
      show wYes env' cs _
      simp only [wYes, if_true]
      exact q _ (ih _ (fun x hx => hm x (List.mem_cons_of_mem _ hx)) (by simpa using h))
  exact go xs [] (fun _ h => h) (by simpa using hd)
theorem lc_sTf {pt : Pat} {tt : WT} {we : WE} {env : En} {W : Sto → Prop} {Q : PD} {cs : Sto} {z : Lz (pt, tt, we, env, W, Q)} (t : Am → Bool) (f : Am → D) (hW : W cs) (xs : Spr)
    (hs : ∀ x ∈ xs, ∃ env', patSet cs pt x.t env = some env' ∧ (∀ R : Bool → Sto → Prop, R (t x) cs → tt env' cs R) ∧ (t x = true → ∀ R : PD, R (f x) cs → we env' cs R)) (hd : Q (.lst ((xs.filter t).map f)) cs) : lcP pt tt we env W Q (sT xs) [] cs z := by
  have go : ∀ (ys : Spr) (acc : List D), (∀ x ∈ ys, x ∈ xs) → Q (.lst (acc ++ (ys.filter t).map f)) cs → lcloop pt tt we env W Q (sT ys) acc cs := by
    intro ys
    induction ys with
    | nil => intro acc _ h; exact ⟨hW, by simpa using h⟩
    | cons y ys ih =>
      intro acc hm h
      obtain ⟨env', e, q1, q2⟩ := hs y (hm y List.mem_cons_self)
      refine ⟨hW, ?_⟩
      show match patSet cs pt y.t env with | some env' => _ | none => False
      rw [e]
      refine q1 _ ?_
      cases ht : t y with
      | true =>
        rw [if_pos rfl]
        exact q2 ht _ (ih _ (fun x hx => hm x (List.mem_cons_of_mem _ hx)) (by simpa [List.filter_cons, ht] using h))
      | false =>
        rw [if_neg (by simp)]
        exact ih _ (fun x hx => hm x (List.mem_cons_of_mem _ hx)) (by simpa [List.filter_cons, ht] using h)
  exact go xs [] (fun _ h => h) (by simpa using hd)
def fzL (xs : Spr) : Am := (xs.filter Am.nz).headD Am.O
def byL (xs : Spr) : Spr := xs.map fun x => x.mul (fzL xs).oth
def Am.dv (g : Int) (x : Am) : Am := ⟨x.a / g, x.b / g, x.c / g, x.d / g⟩
def plainL (xs : Spr) : Spr := (byL xs).map (Am.dv (gS 0 (byL xs) : Nat))
theorem fz_mem {xs : Spr} (h : (xs.map Am.nz).any id = true) : fzL xs ∈ xs ∧ (fzL xs).nz = true ∧ (xs.filter Am.nz)[0]? = some (fzL xs) := by
  obtain ⟨b, hb, e⟩ := List.any_eq_true.mp h
  obtain ⟨x, hx, rfl⟩ := List.mem_map.mp hb
  have hf : x ∈ xs.filter Am.nz := List.mem_filter.mpr ⟨hx, e⟩
  cases hc : xs.filter Am.nz with
  | nil => rw [hc] at hf; cases hf
  | cons y ys =>
    have hy : y ∈ xs.filter Am.nz := by rw [hc]; exact List.mem_cons_self
    have ef : fzL xs = y := by unfold fzL; rw [hc]; rfl
    rw [ef]
    exact ⟨(List.mem_filter.mp hy).1, (List.mem_filter.mp hy).2, rfl⟩
theorem gL_dvd : ∀ (ns : List Int) (g : Nat), gL g ns ∣ g ∧ ∀ n ∈ ns, gL g ns ∣ n.natAbs
  | [], g => ⟨Nat.dvd_refl _, fun n h => by cases h⟩
  | m :: ns, g => by
    obtain ⟨h1, h2⟩ := gL_dvd ns (Nat.gcd g m.natAbs)
    have e : gL g (m :: ns) = gL (Nat.gcd g m.natAbs) ns := rfl
    rw [e]
    refine ⟨Nat.dvd_trans h1 (Nat.gcd_dvd_left _ _), fun n hn => ?_⟩
    rcases List.mem_cons.mp hn with rfl | hn
    · exact Nat.dvd_trans h1 (Nat.gcd_dvd_right _ _)
    · exact h2 n hn
theorem gS_dvd : ∀ (xs : Spr) (g : Nat), gS g xs ∣ g ∧ ∀ x ∈ xs, gS g xs ∣ x.a.natAbs ∧ gS g xs ∣ x.b.natAbs ∧ gS g xs ∣ x.c.natAbs ∧ gS g xs ∣ x.d.natAbs
  | [], g => ⟨Nat.dvd_refl _, fun n h => by cases h⟩
  | y :: xs, g => by
    obtain ⟨h1, h2⟩ := gS_dvd xs (gL g [y.a, y.b, y.c, y.d])
    obtain ⟨h3, h4⟩ := gL_dvd [y.a, y.b, y.c, y.d] g
    have e : gS g (y :: xs) = gS (gL g [y.a, y.b, y.c, y.d]) xs := rfl
    rw [e]
    refine ⟨Nat.dvd_trans h1 h3, fun n hn => ?_⟩
    rcases List.mem_cons.mp hn with rfl | hn
    · exact ⟨Nat.dvd_trans h1 (h4 _ (by simp)), Nat.dvd_trans h1 (h4 _ (by simp)), Nat.dvd_trans h1 (h4 _ (by simp)), Nat.dvd_trans h1 (h4 _ (by simp))⟩
    · exact h2 n hn
theorem by_pos {xs : Spr} {m : Nat} (h : (xs.map Am.nz).any id = true) (b : SB m (byL xs)) : 0 < gS 0 (byL xs) ∧ gS 0 (byL xs) < 2 ^ m := by
  obtain ⟨h1, h2, _⟩ := fz_mem h
  have hm : (fzL xs).mul (fzL xs).oth ∈ byL xs := List.mem_map.mpr ⟨_, h1, rfl⟩
  have hN := Am.N_pos ((Am.nz_iff _).mp h2)
  have hd := ((gS_dvd (byL xs) 0).2 _ hm).1
  have hb := (b _ hm).a
  rw [Am.mul_oth] at hd hb
  have hd' : gS 0 (byL xs) ∣ (fzL xs).N.natAbs := hd
  have hb' : (fzL xs).N.natAbs < 2 ^ m := hb
  have hp : 0 < (fzL xs).N.natAbs := by omega
  have := Nat.le_of_dvd hp hd'
  have := Nat.pos_of_dvd_of_pos hd' hp
  exact ⟨by omega, by omega⟩
theorem inD_pow (cs : Sto) (neg : Bool) (i : Int) : inD cs neg (.int i) (.lst [.int 1, .int 2, .int 4, .int 8, .int 16, .int 32, .int 64, .int 128, .int 256, .int 512, .int 1024, .int 2048, .int 4096]) = some (True, .bl (if neg = true then !decide (i ∈ [1, 2, 4, 8, 16, 32, 64, 128, 256, 512, 1024, 2048, 4096]) else decide (i ∈ [1, 2, 4, 8, 16, 32, 64, 128, 256, 512, 1024, 2048, 4096]))) := inD_ints neg i [1, 2, 4, 8, 16, 32, 64, 128, 256, 512, 1024, 2048, 4096]
theorem pow_in {n : Nat} (h : n ≤ 12) : decide (((2 ^ n : Nat) : Int) ∈ ([1, 2, 4, 8, 16, 32, 64, 128, 256, 512, 1024, 2048, 4096] : List Int)) = true := by
  have : ∀ n : Nat, n < 13 → decide (((2 ^ n : Nat) : Int) ∈ ([1, 2, 4, 8, 16, 32, 64, 128, 256, 512, 1024, 2048, 4096] : List Int)) = true := by decide
  exact this n (by omega)
theorem bits_pow (n : Nat) : Builtin.Int.intBits ((2 ^ n : Nat) : Int) = n + 1 := by
  unfold Builtin.Int.intBits
  have h : ¬ (((2 ^ n : Nat) : Int) == 0) = true := by
    have h1 := Nat.two_pow_pos n
    intro h2
    have h3 : ((2 ^ n : Nat) : Int) = 0 := by simpa only [beq_iff_eq] using h2
    omega
  rw [if_neg h, Int.natAbs_natCast, Nat.log2_two_pow]
theorem szSpr {n : Nat} (h : n ≤ 12) : 2 ^ n ≤ sizeLine := by
  have : 2 ^ n ≤ 2 ^ 12 := Nat.pow_le_pow_right (by decide) h
  rw [sizeLine_eq]
  omega
/-! ### exchanges, ties, two spreads -/
def Am.neg (x : Am) : Am := ⟨-x.a, -x.b, -x.c, -x.d⟩
/-- the bit p of a turned about -/
def fl (p a : Nat) : Nat := if a / 2 ^ p % 2 = 1 then a - 2 ^ p else a + 2 ^ p
theorem bxor_fl (a p : Nat) : Builtin.bitXor (a : Int) (2 ^ p) = ((fl p a : Nat) : Int) := by
  have e1 : (a : Int) / 2 ^ p % 2 = ((a / 2 ^ p % 2 : Nat) : Int) := by rw [← p2, Int.natCast_emod, Int.natCast_ediv]; rfl
  rw [PyProof.Rows.bitXor_and, PySem.W.kbt_bit, e1, ← p2]
  unfold fl
  have h1 := Nat.div_add_mod a (2 ^ p)
  split
  · rename_i h
    have h2 : 2 ^ p ≤ a := by
      have h3 : 1 ≤ a / 2 ^ p := by
        generalize a / 2 ^ p = z at h
        omega
      have h4 : 2 ^ p * 1 ≤ 2 ^ p * (a / 2 ^ p) := Nat.mul_le_mul_left _ h3
      have h5 := Nat.mul_div_le a (2 ^ p)
      omega
    rw [h]
    omega
  · rename_i h
    have h2 : a / 2 ^ p % 2 = 0 := by omega
    rw [h2]
    omega
theorem fl_bit (p a : Nat) : fl p a / 2 ^ p % 2 = 1 - a / 2 ^ p % 2 := by
  have hp := Nat.two_pow_pos p
  unfold fl
  split
  · rename_i h
    have e : (a - 2 ^ p) / 2 ^ p = a / 2 ^ p - 1 := by
      have := Nat.sub_mul_div a (2 ^ p) 1
      rw [Nat.mul_one] at this
      exact this
    rw [e]
    generalize a / 2 ^ p = z at *
    omega
  · rename_i h
    have e : (a + 2 ^ p) / 2 ^ p = a / 2 ^ p + 1 := Nat.add_div_right _ hp
    rw [e]
    generalize a / 2 ^ p = z at *
    omega
theorem fl_lt {p n a : Nat} (hp : p < n) (ha : a < 2 ^ n) : fl p a < 2 ^ n := by
  unfold fl
  split
  · exact Nat.lt_of_le_of_lt (Nat.sub_le _ _) ha
  · rename_i h
    obtain ⟨m, rfl⟩ : ∃ m, n = p + 1 + m := ⟨n - p - 1, by omega⟩
    have h1 := Nat.div_add_mod a (2 ^ p)
    have h2 := Nat.mod_lt a (Nat.two_pow_pos p)
    have e2 : 2 ^ (p + 1 + m) = 2 ^ p * (2 * 2 ^ m) := by rw [Nat.pow_add, Nat.pow_succ]; grind
    have h3 : a / 2 ^ p < 2 * 2 ^ m := by
      rw [Nat.div_lt_iff_lt_mul (Nat.two_pow_pos p), Nat.mul_comm, ← e2]
      exact ha
    have h4 : a / 2 ^ p + 2 ≤ 2 * 2 ^ m := by
      generalize a / 2 ^ p = z at *
      omega
    have h5 : 2 ^ p * (a / 2 ^ p + 2) ≤ 2 ^ p * (2 * 2 ^ m) := Nat.mul_le_mul_left _ h4
    rw [e2]
    rw [Nat.mul_add] at h5
    omega
def exchL (xs : Spr) (p : Nat) : Spr := (List.range xs.length).map fun a => atS xs (fl p a)
def bt (p a : Nat) : Bool := decide (a / 2 ^ p % 2 = 1)
def tieL (xs : Spr) (p q : Nat) : Spr := (List.range xs.length).map fun a => if (bt p a && bt q a) = true then (atS xs a).neg else atS xs a
def evenL (xs : Spr) (p : Nat) (t : Int) : Prop := (s1 (lookL xs p (t % 8).toNat) = s1 xs ∧ s2 (lookL xs p (t % 8).toNat) = s2 xs) ∧ s1 (lookL xs p ((t + 4) % 8).toNat) = s1 xs ∧ s2 (lookL xs p ((t + 4) % 8).toNat) = s2 xs
instance (xs : Spr) (p : Nat) (t : Int) : Decidable (evenL xs p t) := by unfold evenL; infer_instance
def bothL (xs ys : Spr) : Spr := ys.flatMap fun y => xs.map fun x => x.mul y
theorem mk_len (xs : Spr) (f : Nat → Am) : ((List.range xs.length).map f).length = xs.length := by simp
theorem exchL_len (xs : Spr) (p : Nat) : (exchL xs p).length = xs.length := by simp [exchL]
theorem tieL_len (xs : Spr) (p q : Nat) : (tieL xs p q).length = xs.length := by simp [tieL]
theorem mk_at {xs : Spr} {f : Nat → Am} {n a : Nat} (h : a < n) : atS ((List.range n).map f) a = f a := by
  apply atS_some
  rw [List.getElem?_map, List.getElem?_range h]
  rfl
theorem exch_at {xs : Spr} {p a : Nat} (h : a < xs.length) : atS (exchL xs p) a = atS xs (fl p a) := mk_at (xs := xs) h
theorem tie_at {xs : Spr} {p q a : Nat} (h : a < xs.length) : atS (tieL xs p q) a = if (bt p a && bt q a) = true then (atS xs a).neg else atS xs a := mk_at (xs := xs) h
theorem spr_ext {xs ys : Spr} (hl : xs.length = ys.length) (h : ∀ a, a < xs.length → atS xs a = atS ys a) : xs = ys := by
  apply List.ext_getElem hl
  intro a h1 h2
  have := h a h1
  rw [atS_some (List.getElem?_eq_getElem h1), atS_some (List.getElem?_eq_getElem h2)] at this
  exact this
theorem band_nat (a b : Nat) : Builtin.bitAnd (a : Int) (b : Int) = ((a &&& b : Nat) : Int) := by
  unfold Builtin.bitAnd
  have e1 : decide ((0 : Int) ≤ (a : Int)) = true := by simp
  have e2 : decide ((0 : Int) ≤ (b : Int)) = true := by simp
  simp only [e1, e2, Int.toNat_natCast]
theorem bt_test (p a : Nat) : bt p a = a.testBit p := by
  unfold bt
  rw [Nat.testBit_eq_decide_div_mod_eq]
/-- at & both == both -/
theorem both_bits (a p q : Nat) : (Builtin.bitAnd (a : Int) (Builtin.bitOr (2 ^ p) (2 ^ q)) = Builtin.bitOr (2 ^ p) (2 ^ q)) ↔ (bt p a && bt q a) = true := by
  rw [← p2, ← p2, bor_nat, band_nat, bt_test, bt_test]
  constructor
  · intro h
    have h : a &&& (2 ^ p ||| 2 ^ q) = (2 ^ p ||| 2 ^ q) := by omega
    have h1 := congrArg (fun z => Nat.testBit z p) h
    have h2 := congrArg (fun z => Nat.testBit z q) h
    simp only [Nat.testBit_and, Nat.testBit_or, Nat.testBit_two_pow_self, Bool.true_or, Bool.or_true, Bool.and_true] at h1 h2
    simp [h1, h2]
  · intro h
    rw [Bool.and_eq_true] at h
    have : a &&& (2 ^ p ||| 2 ^ q) = (2 ^ p ||| 2 ^ q) := by
      apply Nat.eq_of_testBit_eq
      intro i
      rw [Nat.testBit_and, Nat.testBit_or, Nat.testBit_two_pow, Nat.testBit_two_pow]
      by_cases h1 : p = i
      · subst h1
        simp [h.1]
      · by_cases h2 : q = i
        · subst h2
          simp [h.2]
        · simp [h1, h2]
    rw [this]
theorem Am.tn_four (x : Am) : Am.tn 4 x = x.neg := by
  show (((x.tn1).tn1).tn1).tn1 = _
  apply Am.ext' <;> simp only [Am.tn1, Am.neg]
theorem Am.B.neg {n : Nat} {x : Am} (h : x.B n) : x.neg.B n := ⟨h.a.neg, h.b.neg, h.c.neg, h.d.neg⟩
theorem Am.neg_neg (x : Am) : x.neg.neg = x := by
  apply Am.ext' <;> simp only [Am.neg, Int.neg_neg]
theorem Am.neg_nz (x : Am) : x.neg.nz = x.nz := by
  rw [Bool.eq_iff_iff, Am.nz_iff, Am.nz_iff]
  constructor <;> intro h e
  · subst e; exact h rfl
  · apply h
    have := congrArg Am.neg e
    rw [Am.neg_neg] at this
    exact this
theorem Am.mul_one' (x : Am) : x.mul ⟨1, 0, 0, 0⟩ = x := by
  apply Am.ext' <;> simp [Am.mul]
theorem SB.mk {n m : Nat} {f : Nat → Am} (h : ∀ a, (f a).B n) : SB n ((List.range m).map f) := fun y hy => by
  obtain ⟨a, _, rfl⟩ := List.mem_map.mp hy
  exact h a
theorem SB.exch {n : Nat} {xs : Spr} (h : SB n xs) (p : Nat) : SB n (exchL xs p) := SB.mk fun a => h.at _
theorem SB.tie {n : Nat} {xs : Spr} (h : SB n xs) (p q : Nat) : SB n (tieL xs p q) := SB.mk fun a => by
  split
  · exact (h.at _).neg
  · exact h.at _
theorem bothL_len (xs : Spr) : ∀ ys : Spr, (bothL xs ys).length = xs.length * ys.length
  | [] => rfl
  | y :: ys => by
    have := bothL_len xs ys
    unfold bothL at this ⊢
    rw [List.flatMap_cons, List.length_append, this, List.length_map, List.length_cons, Nat.mul_succ, Nat.add_comm]
theorem bothL_sT (xs ys : Spr) : (sT ys).flatMap (fun y => (sT xs).map fun x => (match x, y with | x, y => D.non)) = (sT ys).flatMap (fun y => (sT xs).map fun x => D.non) := rfl
def ofT : D → Am
  | .tup [.int a, .int b, .int c, .int d] => ⟨a, b, c, d⟩
  | _ => Am.O
theorem ofT_t (x : Am) : ofT x.t = x := (rfl)
theorem both_map (xs : Spr) : ∀ ys : Spr, (sT ys).flatMap (fun y => (sT xs).map fun x => ((ofT x).mul (ofT y)).t) = sT (bothL xs ys)
  | [] => rfl
  | y :: ys => by
    have := both_map xs ys
    show ((y.t :: sT ys).flatMap _) = sT ((y :: ys).flatMap _)
    rw [List.flatMap_cons, List.flatMap_cons, this]
    unfold sT
    rw [List.map_append, List.map_map, List.map_map]
    rfl
/-! ### lots, orders, bits -/
theorem bit_is (a p : Nat) : Builtin.bitAnd ((a : Int) / 2 ^ p) 1 = ((a / 2 ^ p % 2 : Nat) : Int) := by
  have e : (a : Int) / 2 ^ p = ((a / 2 ^ p : Nat) : Int) := by rw [← p2, Int.natCast_ediv]
  rw [e]
  have := band_low (a / 2 ^ p) 1
  simpa using this
theorem ite_i {c : Prop} [Decidable c] {A B : Prop} (h1 : c → A) (h2 : ¬ c → B) : if c then A else B := by
  by_cases h : c
  · rw [if_pos h]; exact h1 h
  · rw [if_neg h]; exact h2 h
theorem lstAt_app2 {cs : Sto} {a : List D} {b : CO} : lstAt (cs ++ [.lst a] ++ [b]) cs.length = some a := by
  rw [lstAt_old (by simp), lstAt_app]
theorem lstAt_app3 {cs : Sto} {a : List D} {b c : CO} : lstAt (cs ++ [.lst a] ++ [b] ++ [c]) cs.length = some a := by
  rw [lstAt_old (by simp), lstAt_app2]
theorem set_app2 {cs : Sto} {a b c : CO} : (cs ++ [a] ++ [b]).set cs.length c = cs ++ [c] ++ [b] := by
  rw [set_old (by simp), set_app]
theorem set_app3 {cs : Sto} {a b c e : CO} : (cs ++ [a] ++ [b] ++ [c]).set cs.length e = cs ++ [e] ++ [b] ++ [c] := by
  rw [set_old (by simp), set_app2]
def nT (ns : List Nat) : List D := ns.map fun n : Nat => D.int n
theorem nT_ints (ns : List Nat) : nT ns = (ns.map fun n : Nat => (n : Int)).map D.int := by simp [nT]
def layIx (os : List Nat) (a : Nat) : Nat := ((os.zipIdx.filter fun p => bt p.2 a).map fun p => 2 ^ p.1).sum
def layL (xs : Spr) (os : List Nat) : Spr := (List.range xs.length).map fun a => atS xs (layIx os a)
def mixL (xs : Spr) (p : Nat) : Spr := (List.range xs.length).map fun a => if bt p a = true then (atS xs (fl p a)).add (atS xs a).neg else (atS xs a).add (atS xs (fl p a))
def bitsL (n h : Nat) : Spr := (List.range n).map fun a => if a = h then ⟨1, 0, 0, 0⟩ else ⟨0, 0, 0, 0⟩
theorem layL_len (xs : Spr) (os : List Nat) : (layL xs os).length = xs.length := by simp [layL]
theorem mixL_len (xs : Spr) (p : Nat) : (mixL xs p).length = xs.length := by simp [mixL]
theorem bitsL_len (n h : Nat) : (bitsL n h).length = n := by simp [bitsL]
/-- sums of unlike powers stay below -/
theorem sum_pow_lt : ∀ (n : Nat) (l : List Nat), l.Nodup → (∀ o ∈ l, o < n) → (l.map fun o => 2 ^ o).sum < 2 ^ n
  | 0, l, _, h => by
    cases l with
    | nil => simp
    | cons o l => exact absurd (h o List.mem_cons_self) (Nat.not_lt_zero o)
  | n + 1, l, hn, h => by
    by_cases hm : n ∈ l
    · have hp := List.perm_cons_erase hm
      have h1 : (l.map fun o => 2 ^ o).sum = 2 ^ n + ((l.erase n).map fun o => 2 ^ o).sum := by
        rw [(hp.map fun o => 2 ^ o).sum_nat]
        simp
      have h2 := sum_pow_lt n (l.erase n) (hn.erase n) fun o ho => by
        have h3 := h o (List.mem_of_mem_erase ho)
        have h4 : o ≠ n := fun e => by
          subst e
          exact (List.Nodup.not_mem_erase hn) ho
        omega
      rw [h1, Nat.pow_succ]
      omega
    · have h2 := sum_pow_lt n l hn fun o ho => by
        have h3 := h o ho
        have h4 : o ≠ n := fun e => hm (by rw [← e]; exact ho)
        omega
      rw [Nat.pow_succ]
      omega
theorem layIx_lt {os : List Nat} {n a : Nat} (hn : os.Nodup) (h : ∀ o ∈ os, o < n) : layIx os a < 2 ^ n := by
  unfold layIx
  have e : ((os.zipIdx.filter fun p => bt p.2 a).map fun p => 2 ^ p.1) = ((os.zipIdx.filter fun p => bt p.2 a).map Prod.fst).map fun o => 2 ^ o := by
    rw [List.map_map]
    rfl
  rw [e]
  have hs : ((os.zipIdx.filter fun p => bt p.2 a).map Prod.fst).Sublist os := by
    have h1 := (List.filter_sublist (p := fun p : Nat × Nat => bt p.2 a) (l := os.zipIdx)).map Prod.fst
    rwa [List.zipIdx_map_fst] at h1
  exact sum_pow_lt n _ (hn.sublist hs) fun o ho => h o (hs.subset ho)
def bitsN (bs : List Nat) : Nat := (bs.zipIdx.map fun p => p.1 * 2 ^ p.2).sum
theorem nat_sum : ∀ l : List Nat, (l.map fun m : Nat => (m : Int)).sum = ((l.sum : Nat) : Int)
  | [] => rfl
  | x :: l => by rw [List.map_cons, List.sum_cons, List.sum_cons, nat_sum l]; omega
theorem zip_snoc {l : List Nat} {i o : Nat} (h : l[i]? = some o) (f : Nat × Nat → Nat) : ((l.take (i + 1)).zipIdx.map f) = ((l.take i).zipIdx.map f) ++ [f (o, i)] := by
  have hil : i < l.length := (List.getElem?_eq_some_iff.mp h).1
  have e1 : (l.take i).length = i := by rw [List.length_take]; omega
  rw [take_succ' h, List.zipIdx_append, List.map_append, e1, Nat.zero_add]
  rfl
theorem nD_ints (l : List Nat) : l.map (fun m : Nat => D.int m) = (l.map fun m : Nat => (m : Int)).map D.int := by rw [List.map_map]; rfl
theorem notf {b : Bool} (h : (!b) = false) : b = true := by simpa using h
theorem nott {b : Bool} (h : (!b) = true) : b = false := by simpa using h
/-! ### plain laws of looks -/
theorem Am.tn_mul (x y : Am) : ∀ k, (Am.tn k x).mul y = Am.tn k (x.mul y)
  | 0 => rfl
  | k + 1 => by
    show ((Am.tn k x).tn1).mul y = (Am.tn k (x.mul y)).tn1
    rw [← Am.tn_mul x y k]
    apply Am.ext' <;> simp only [Am.mul, Am.tn1] <;> grind
theorem Am.add_mul (x y z : Am) : (x.add y).mul z = (x.mul z).add (y.mul z) := by
  apply Am.ext' <;> simp only [Am.mul, Am.add] <;> grind
theorem Am.tn_add (x y : Am) : ∀ k, Am.tn k (x.add y) = (Am.tn k x).add (Am.tn k y)
  | 0 => rfl
  | k + 1 => by
    show (Am.tn k (x.add y)).tn1 = (Am.tn k x).tn1.add (Am.tn k y).tn1
    rw [Am.tn_add x y k]
    apply Am.ext' <;> simp only [Am.add, Am.tn1] <;> omega
def mulL (xs : Spr) (b : Am) : Spr := xs.map fun x => x.mul b
theorem O_mul (b : Am) : Am.O.mul b = Am.O := by
  apply Am.ext' <;> simp [Am.mul, Am.O]
theorem atS_mul (xs : Spr) (b : Am) (i : Nat) : atS (mulL xs b) i = (atS xs i).mul b := by
  unfold atS mulL
  rw [List.getD_eq_getElem?_getD, List.getD_eq_getElem?_getD, List.getElem?_map]
  cases xs[i]? with
  | none => exact (O_mul b).symm
  | some x => rfl
theorem look_mul (xs : Spr) (b : Am) (p k : Nat) : lookL (mulL xs b) p k = mulL (lookL xs p k) b := by
  have hl : (mulL xs b).length = xs.length := by simp [mulL]
  unfold lookL
  rw [hl]
  simp only [atS_mul]
  unfold mulL
  rw [List.map_map]
  apply List.map_congr_left
  intro a _
  simp only [Function.comp_apply, Am.add_mul, Am.tn_mul]
theorem Am.mul_nz {x b : Am} (hb : b ≠ ⟨0, 0, 0, 0⟩) : (x.mul b).nz = x.nz := by
  rw [Bool.eq_iff_iff, Am.nz_iff, Am.nz_iff]
  constructor
  · intro h e
    subst e
    exact h (O_mul b)
  · intro h e
    apply h
    have h1 : (x.mul b).mul b.oth = ⟨0, 0, 0, 0⟩ := by rw [e]; exact O_mul _
    rw [Am.mul_assoc, Am.mul_oth] at h1
    have hN := Am.N_pos hb
    have h2 : x.mul ⟨b.N, 0, 0, 0⟩ = ⟨x.a * b.N, x.b * b.N, x.c * b.N, x.d * b.N⟩ := by
      apply Am.ext' <;> simp [Am.mul]
    rw [h2] at h1
    have z : ∀ y : Int, y * b.N = 0 → y = 0 := fun y h => (Int.mul_eq_zero.mp h).resolve_right (by omega)
    injection h1 with e1 e2 e3 e4
    exact Am.ext' (z _ e1) (z _ e2) (z _ e3) (z _ e4)
theorem filter_mul {b : Am} (hb : b ≠ ⟨0, 0, 0, 0⟩) (xs : Spr) : (mulL xs b).filter Am.nz = mulL (xs.filter Am.nz) b := by
  unfold mulL
  rw [List.filter_map]
  congr 1
  apply List.filter_congr
  intro x _
  exact Am.mul_nz hb
theorem oth_mul (x y : Am) : (x.mul y).oth = x.oth.mul y.oth := by
  have g1 : ∀ x y : Am, (x.mul y).mir = x.mir.mul y.mir := fun x y => by
    apply Am.ext' <;> simp only [Am.mul, Am.mir] <;> grind
  have g2 : ∀ x y : Am, (⟨(x.mul y).a, (x.mul y).d, -(x.mul y).c, (x.mul y).b⟩ : Am) = Am.mul ⟨x.a, x.d, -x.c, x.b⟩ ⟨y.a, y.d, -y.c, y.b⟩ := fun x y => by
    apply Am.ext' <;> simp only [Am.mul] <;> grind
  have g3 : ∀ x y : Am, (⟨(x.mul y).a, -(x.mul y).b, (x.mul y).c, -(x.mul y).d⟩ : Am) = Am.mul ⟨x.a, -x.b, x.c, -x.d⟩ ⟨y.a, -y.b, y.c, -y.d⟩ := fun x y => by
    apply Am.ext' <;> simp only [Am.mul] <;> grind
  have sw : ∀ a b c d : Am, (a.mul b).mul (c.mul d) = (a.mul c).mul (b.mul d) := fun a b c d => by
    rw [Am.mul_assoc, ← Am.mul_assoc b c d, Am.mul_comm c b, Am.mul_assoc c b d, ← Am.mul_assoc]
  unfold Am.oth
  rw [g1, g2, g3, sw ⟨x.a, x.d, -x.c, x.b⟩, sw]
def scL (N : Int) (xs : Spr) : Spr := xs.map fun x => ⟨N * x.a, N * x.b, N * x.c, N * x.d⟩
theorem by_mul {b : Am} (hb : b ≠ ⟨0, 0, 0, 0⟩) {xs : Spr} (h : (xs.map Am.nz).any id = true) : byL (mulL xs b) = scL b.N (byL xs) := by
  have hf : fzL (mulL xs b) = (fzL xs).mul b := by
    have h3 := (fz_mem h).2.2
    unfold fzL
    rw [filter_mul hb]
    unfold fzL at h3
    cases hc : xs.filter Am.nz with
    | nil => rw [hc] at h3; cases h3
    | cons y ys => rfl
  unfold byL scL
  rw [hf, oth_mul]
  show List.map _ (List.map _ _) = _
  rw [List.map_map, List.map_map]
  apply List.map_congr_left
  intro x _
  simp only [Function.comp_apply]
  have e : (x.mul b).mul ((fzL xs).oth.mul b.oth) = (x.mul (fzL xs).oth).mul (b.mul b.oth) := by
    rw [Am.mul_assoc, ← Am.mul_assoc b, Am.mul_comm (fzL xs).oth b, Am.mul_assoc (fzL xs).oth, ← Am.mul_assoc]
  rw [e, Am.mul_oth]
  apply Am.ext' <;> simp [Am.mul] <;> grind
theorem gL_sc (N : Nat) : ∀ (ns : List Int) (g : Nat), gL (N * g) (ns.map fun n => (N : Int) * n) = N * gL g ns
  | [], g => rfl
  | n :: ns, g => by
    show gL (Nat.gcd (N * g) ((N : Int) * n).natAbs) _ = N * gL (Nat.gcd g n.natAbs) ns
    rw [Int.natAbs_mul, Int.natAbs_natCast, Nat.gcd_mul_left]
    exact gL_sc N ns _
theorem gS_sc (N : Nat) : ∀ (xs : Spr) (g : Nat), gS (N * g) (scL N xs) = N * gS g xs
  | [], g => rfl
  | x :: xs, g => by
    show gS (gL (N * g) [(N : Int) * x.a, (N : Int) * x.b, (N : Int) * x.c, (N : Int) * x.d]) (scL N xs) = N * gS (gL g [x.a, x.b, x.c, x.d]) xs
    rw [← gS_sc N xs, ← gL_sc N]
    rfl
theorem plain_mul {b : Am} (hb : b ≠ ⟨0, 0, 0, 0⟩) {xs : Spr} (h : (xs.map Am.nz).any id = true) : plainL (mulL xs b) = plainL xs := by
  have hN := Am.N_pos hb
  obtain ⟨N, hN2⟩ := Int.eq_ofNat_of_zero_le (Int.le_of_lt hN)
  unfold plainL
  rw [by_mul hb h, hN2]
  have hg := gS_sc N (byL xs) 0
  rw [Nat.mul_zero] at hg
  rw [hg]
  unfold scL
  rw [List.map_map]
  apply List.map_congr_left
  intro x _
  have hp : (0 : Int) < (N : Int) := by omega
  simp only [Function.comp_apply, Am.dv, Int.natCast_mul, Int.mul_ediv_mul_of_pos _ _ hp]
/-! ### both falls: lengths add up to twice -/
def sumR (f : Nat → Int) (n : Nat) : Int := ((List.range n).map f).sum
theorem sumR_z (f : Nat → Int) : sumR f 0 = 0 := rfl
theorem sumR_s (f : Nat → Int) (n : Nat) : sumR f (n + 1) = sumR f n + f n := by
  simp [sumR, List.range_succ]
theorem sumR_add (f : Nat → Int) (m : Nat) : ∀ n, sumR f (m + n) = sumR f m + sumR (fun i => f (m + i)) n
  | 0 => by rw [Nat.add_zero, sumR_z, Int.add_zero]
  | n + 1 => by rw [← Nat.add_assoc, sumR_s, sumR_add f m n, sumR_s, Int.add_assoc]
theorem sumR_congr {f g : Nat → Int} : ∀ {n : Nat}, (∀ i < n, f i = g i) → sumR f n = sumR g n
  | 0, _ => rfl
  | n + 1, h => by rw [sumR_s, sumR_s, sumR_congr fun i hi => h i (Nat.lt_succ_of_lt hi), h n (Nat.lt_succ_self n)]
theorem sumR_plus (f g : Nat → Int) : ∀ n, sumR (fun i => f i + g i) n = sumR f n + sumR g n
  | 0 => rfl
  | n + 1 => by rw [sumR_s, sumR_s, sumR_s, sumR_plus f g n]; omega
/-- row by row -/
theorem sumR_rows (f : Nat → Int) (B : Nat) : ∀ A, sumR f (A * B) = sumR (fun h => sumR (fun l => f (h * B + l)) B) A
  | 0 => by rw [Nat.zero_mul]; rfl
  | A + 1 => by rw [Nat.succ_mul, sumR_add, sumR_s, sumR_rows f B A]
theorem sum_pairs (f : Nat → Int) {n p : Nat} (hp : p < n) : sumR (fun a => f (ixL p a) + f (ixL p a + 2 ^ p)) (2 ^ n / 2) = sumR f (2 ^ n) := by
  obtain ⟨m, rfl⟩ : ∃ m, n = p + 1 + m := ⟨n - p - 1, by omega⟩
  have e1 : 2 ^ (p + 1 + m) / 2 = 2 ^ m * 2 ^ p := by
    have : 2 ^ (p + 1 + m) = 2 * (2 ^ m * 2 ^ p) := by rw [Nat.pow_add, Nat.pow_succ]; grind
    omega
  have e2 : 2 ^ (p + 1 + m) = 2 ^ m * (2 ^ p + 2 ^ p) := by rw [Nat.pow_add, Nat.pow_succ]; grind
  rw [e1, e2, sumR_rows, sumR_rows]
  apply sumR_congr
  intro h _
  rw [sumR_add, ← sumR_plus]
  apply sumR_congr
  intro l hl
  have e3 : ixL p (h * 2 ^ p + l) = h * (2 ^ p + 2 ^ p) + l := by
    have h1 : (h * 2 ^ p + l) % 2 ^ p = l := by rw [Nat.mul_comm, Nat.mul_add_mod, Nat.mod_eq_of_lt hl]
    unfold ixL
    rw [h1, Nat.add_sub_cancel, Nat.mul_add]
    omega
  rw [e3]
  congr 2
  omega
theorem sum_map (F : Am → Int) (xs : Spr) : (xs.map F).sum = sumR (fun i => F (atS xs i)) xs.length := by
  unfold sumR
  congr 1
  apply List.ext_getElem
  · simp
  · intro i h1 h2
    have hi : i < xs.length := by simpa using h1
    simp only [List.getElem_map, List.getElem_range]
    rw [atS_some (List.getElem?_eq_getElem hi)]
theorem look_sum (F : Am → Int) (xs : Spr) (p k : Nat) : ((lookL xs p k).map F).sum = sumR (fun a => F ((atS xs (ixL p a)).add (Am.tn k (atS xs (ixL p a + 2 ^ p))))) (xs.length / 2) := by
  unfold lookL sumR
  rw [List.map_map]
  rfl
theorem tn4 (x : Am) (k : Nat) : Am.tn (k + 4) x = ⟨-(Am.tn k x).a, -(Am.tn k x).b, -(Am.tn k x).c, -(Am.tn k x).d⟩ := by
  show (((Am.tn k x).tn1.tn1).tn1).tn1 = _
  apply Am.ext' <;> simp only [Am.tn1] <;> omega
theorem par1 (x y : Am) (k : Nat) : (x.add (Am.tn k y)).l1 + (x.add (Am.tn (k + 4) y)).l1 = 2 * x.l1 + 2 * y.l1 := by
  rw [tn4, ← Am.l1_tn y k]
  simp only [Am.add, Am.l1]
  grind
theorem par2 (x y : Am) (k : Nat) : (x.add (Am.tn k y)).l2 + (x.add (Am.tn (k + 4) y)).l2 = 2 * x.l2 + 2 * y.l2 := by
  rw [tn4, ← Am.l2_tn y k]
  simp only [Am.add, Am.l2]
  grind
theorem both1 {xs : Spr} {n p : Nat} (w : xs.length = 2 ^ n) (hp : p < n) (k : Nat) : s1 (lookL xs p k) + s1 (lookL xs p (k + 4)) = 2 * s1 xs := by
  unfold s1
  rw [look_sum, look_sum, ← sumR_plus, sum_map Am.l1, w, ← sum_pairs _ hp]
  have e : ∀ (g : Nat → Int) m, 2 * sumR g m = sumR (fun i => 2 * g i) m := fun g m => by
    induction m with
    | zero => rfl
    | succ m ih => rw [sumR_s, sumR_s, ← ih]; omega
  rw [e]
  apply sumR_congr
  intro a _
  rw [par1]
  omega
theorem both2 {xs : Spr} {n p : Nat} (w : xs.length = 2 ^ n) (hp : p < n) (k : Nat) : s2 (lookL xs p k) + s2 (lookL xs p (k + 4)) = 2 * s2 xs := by
  unfold s2
  rw [look_sum, look_sum, ← sumR_plus, sum_map Am.l2, w, ← sum_pairs _ hp]
  have e : ∀ (g : Nat → Int) m, 2 * sumR g m = sumR (fun i => 2 * g i) m := fun g m => by
    induction m with
    | zero => rfl
    | succ m ih => rw [sumR_s, sumR_s, ← ih]; omega
  rw [e]
  apply sumR_congr
  intro a _
  rw [par2]
  omega
/-! ### a turn, then a look; two looks -/
theorem ixL_of {p h l : Nat} (hl : l < 2 ^ p) : ixL p (h * 2 ^ p + l) = 2 * (h * 2 ^ p) + l := by
  have h1 : (h * 2 ^ p + l) % 2 ^ p = l := by rw [Nat.mul_comm, Nat.mul_add_mod, Nat.mod_eq_of_lt hl]
  unfold ixL
  rw [h1, Nat.add_sub_cancel]
  omega
theorem atS_look {xs : Spr} {p k a : Nat} (h : a < xs.length / 2) : atS (lookL xs p k) a = (atS xs (ixL p a)).add (Am.tn k (atS xs (ixL p a + 2 ^ p))) := atS_some (lookL_get h)
theorem atS_turn {xs : Spr} {p k a : Nat} (h : a < xs.length) : atS (turnL xs p k) a = if a / 2 ^ p % 2 = 1 then Am.tn k (atS xs a) else atS xs a := atS_some (turnL_get h)
theorem ixL_bit (p a : Nat) : ixL p a / 2 ^ p % 2 = 0 ∧ (ixL p a + 2 ^ p) / 2 ^ p % 2 = 1 := by
  have h1 := Nat.mod_lt a (Nat.two_pow_pos p)
  have e : ixL p a = 2 ^ p * (2 * (a / 2 ^ p)) + a % 2 ^ p := by rw [ixL_eq, Nat.pow_succ, Nat.mul_assoc]
  have e2 : ixL p a / 2 ^ p = 2 * (a / 2 ^ p) := by
    rw [e, Nat.mul_add_div (Nat.two_pow_pos p), Nat.div_eq_of_lt h1, Nat.add_zero]
  have e3 : (ixL p a + 2 ^ p) / 2 ^ p = 2 * (a / 2 ^ p) + 1 := by
    rw [Nat.add_div_right _ (Nat.two_pow_pos p), e2]
  rw [e2, e3]
  omega
theorem look_turn {xs : Spr} {n p : Nat} (w : xs.length = 2 ^ n) (hp : p < n) (k m : Nat) : lookL (turnL xs p k) p m = lookL xs p (k + m) := by
  unfold lookL
  rw [turnL_len]
  apply List.map_congr_left
  intro a ha
  have ha' : a < 2 ^ n / 2 := by rw [← w]; exact List.mem_range.mp ha
  have hx := ixL_lt hp ha'
  rw [← w] at hx
  have hx2 : ixL p a < xs.length := Nat.lt_of_le_of_lt (Nat.le_add_right _ _) hx
  obtain ⟨b0, b1⟩ := ixL_bit p a
  rw [atS_turn hx2, atS_turn hx, if_neg (by omega), if_pos b1, Am.tn_tn]
theorem ix_two {p q a : Nat} (h : p < q) : ixL p (ixL (q - 1) a) = ixL q (ixL p a) ∧ ixL p (ixL (q - 1) a + 2 ^ (q - 1)) = ixL q (ixL p a) + 2 ^ q ∧ ixL q (ixL p a + 2 ^ p) = ixL q (ixL p a) + 2 ^ p := by
  obtain ⟨r, rfl⟩ : ∃ r, q = p + r + 1 := ⟨q - 1 - p, by omega⟩
  show ixL p (ixL (p + r) a) = _ ∧ ixL p (ixL (p + r) a + 2 ^ (p + r)) = _ ∧ _
  generalize hH : a / 2 ^ (p + r) = H
  generalize hM : a % 2 ^ (p + r) / 2 ^ p = M
  generalize hl : a % 2 ^ (p + r) % 2 ^ p = l
  have e1 : 2 ^ (p + r) = 2 ^ r * 2 ^ p := by rw [Nat.pow_add, Nat.mul_comm]
  have hl2 : l < 2 ^ p := by rw [← hl]; exact Nat.mod_lt _ (Nat.two_pow_pos p)
  have h1 : a % 2 ^ (p + r) = M * 2 ^ p + l := by
    rw [← hM, ← hl, Nat.mul_comm]
    exact (Nat.div_add_mod _ _).symm
  have hMl : M * 2 ^ p + l < 2 ^ (p + r) := by rw [← h1]; exact Nat.mod_lt _ (Nat.two_pow_pos _)
  have hM2 : M < 2 ^ r := by
    rw [← hM, Nat.div_lt_iff_lt_mul (Nat.two_pow_pos p), ← e1]
    exact Nat.mod_lt _ (Nat.two_pow_pos _)
  have ea : a = H * 2 ^ (p + r) + (M * 2 ^ p + l) := by
    rw [← h1, ← hH, Nat.mul_comm]
    exact (Nat.div_add_mod _ _).symm
  have e2 : 2 ^ (p + r + 1) = 2 * 2 ^ (p + r) := by rw [Nat.pow_succ, Nat.mul_comm]
  have t1 : ixL (p + r) a = (2 * H * 2 ^ r + M) * 2 ^ p + l := by
    rw [ea, ixL_of hMl, e1]
    grind
  have t2 : ixL p a = H * 2 ^ (p + r + 1) + (2 * M * 2 ^ p + l) := by
    have : a = (H * 2 ^ r + M) * 2 ^ p + l := by rw [ea, e1]; grind
    rw [this, ixL_of hl2, e2, e1]
    grind
  have hs : 2 * M * 2 ^ p + 2 ^ p + 2 ^ p ≤ 2 ^ (p + r + 1) := by
    rw [e2, e1]
    have : (M + 1) * 2 ^ p ≤ 2 ^ r * 2 ^ p := Nat.mul_le_mul_right _ hM2
    grind
  have t3 : ixL (p + r + 1) (ixL p a) = 2 * (H * 2 ^ (p + r + 1)) + (2 * M * 2 ^ p + l) := by rw [t2, ixL_of (by omega)]
  refine ⟨?_, ?_, ?_⟩
  · rw [t3, t1, ixL_of hl2, e2, e1]
    grind
  · have : ixL (p + r) a + 2 ^ (p + r) = (2 * H * 2 ^ r + M + 2 ^ r) * 2 ^ p + l := by rw [t1, e1]; grind
    rw [t3, this, ixL_of hl2, e2, e1]
    grind
  · have : ixL p a + 2 ^ p = H * 2 ^ (p + r + 1) + (2 * M * 2 ^ p + l + 2 ^ p) := by rw [t2]; omega
    rw [t3, this, ixL_of (by omega)]
    omega
theorem look_two {xs : Spr} {n p q : Nat} (w : xs.length = 2 ^ n) (h : p < q) (hq : q < n) (k l : Nat) : lookL (lookL xs p k) (q - 1) l = lookL (lookL xs q l) p k := by
  have e0 : ∀ u v, (lookL (lookL xs u v) (q - 1) l).length = (lookL (lookL xs q l) p k).length := fun u v => by simp [lookL_len]
  apply List.ext_getElem?
  intro a
  by_cases ha : a < xs.length / 2 / 2
  · rw [lookL_get (by rw [lookL_len]; exact ha), lookL_get (by rw [lookL_len]; exact ha)]
    have hn : 2 ^ n / 2 = 2 ^ (n - 1) := by
      obtain ⟨m, rfl⟩ : ∃ m, n = m + 1 := ⟨n - 1, by omega⟩
      rw [Nat.pow_succ]
      simp
    have ha2 : a < 2 ^ (n - 1) / 2 := by rw [← hn, ← w]; exact ha
    have b1 := ixL_lt (n := n - 1) (p := q - 1) (by omega) ha2
    have b2 := ixL_lt (n := n - 1) (p := p) (by omega) ha2
    rw [← hn, ← w] at b1 b2
    have b3 : ixL (q - 1) a < xs.length / 2 := Nat.lt_of_le_of_lt (Nat.le_add_right _ _) b1
    have b4 : ixL p a < xs.length / 2 := Nat.lt_of_le_of_lt (Nat.le_add_right _ _) b2
    obtain ⟨i1, i2, i3⟩ := ix_two (a := a) h
    rw [atS_look b1, atS_look b3, atS_look b2, atS_look b4, i1, i2, i3]
    congr 1
    simp only [Am.tn_add, Am.tn_tn]
    have e5 : ixL q (ixL p a) + 2 ^ q + 2 ^ p = ixL q (ixL p a) + 2 ^ p + 2 ^ q := by omega
    rw [e5, Nat.add_comm l k]
    apply Am.ext' <;> simp only [Am.add] <;> omega
  · rw [List.getElem?_eq_none (by rw [lookL_len, lookL_len]; omega), List.getElem?_eq_none (by rw [lookL_len, lookL_len]; omega)]
/-! ### comparisons of spreads -/
theorem toPyL_sT : ∀ xs : Spr, toPyL (sT xs) = some (xs.map Am.py)
  | [] => rfl
  | x :: xs => by
    show toPyL (x.t :: sT xs) = _
    simp only [toPyL, toPyL_sT xs]
    rfl
theorem lay_sT : ∀ xs : Spr, PyData.canLayAll0 (xs.map Am.py) = true
  | [] => rfl
  | x :: xs => by
    simp only [List.map_cons, PyData.canLayAll0, lay_sT xs, Am.py, PyData.canLay0, Bool.and_self]
theorem dep_sT : ∀ xs : Spr, PyData.depthAll (xs.map Am.py) ≤ 1
  | [] => by simp [PyData.depthAll]
  | x :: xs => by
    have := dep_sT xs
    simp only [List.map_cons, PyData.depthAll, Am.py, PyData.depth]
    omega
theorem shaped_sT (xs : Spr) : SeqAt.shaped (.list (xs.map Am.py)) = true ∧ SeqAt.shaped (.tuple (xs.map Am.py)) = true := by
  have := dep_sT xs
  have h : decide (PyData.depthAll (xs.map Am.py) + 1 ≤ 64) = true := decide_eq_true (by omega)
  constructor
  · show (PyData.canLayAll0 (xs.map Am.py) && decide (PyData.depth (.list (xs.map Am.py)) ≤ 64)) = true
    rw [lay_sT, PyData.depth, h]
    rfl
  · show (PyData.canLayAll0 (xs.map Am.py) && decide (PyData.depth (.tuple (xs.map Am.py)) ≤ 64)) = true
    rw [lay_sT, PyData.depth, h]
    rfl
theorem eqvA (x y : Am) : PyData.eqv x.py y.py = decide (x = y) := by
  have h := eqv_ints [x.a, x.b, x.c, x.d] [y.a, y.b, y.c, y.d]
  show PyData.eqvAll _ _ = _
  rw [show ([.int x.a, .int x.b, .int x.c, .int x.d] : List PyData) = [x.a, x.b, x.c, x.d].map PyData.int from rfl, show ([.int y.a, .int y.b, .int y.c, .int y.d] : List PyData) = [y.a, y.b, y.c, y.d].map PyData.int from rfl, h]
  rw [Bool.eq_iff_iff, decide_eq_true_iff, decide_eq_true_iff]
  exact ⟨fun h => by simp only [List.cons.injEq, and_true] at h; exact Am.ext' h.1 h.2.1 h.2.2.1 h.2.2.2, fun h => by subst h; rfl⟩
theorem eqv_sT : ∀ xs ys : Spr, PyData.eqvAll (xs.map Am.py) (ys.map Am.py) = decide (xs = ys)
  | [], [] => rfl
  | [], y :: ys => by simp [PyData.eqvAll]
  | x :: xs, [] => by simp [PyData.eqvAll]
  | x :: xs, y :: ys => by
    simp only [List.map_cons, PyData.eqvAll, eqv_sT xs ys, eqvA]
    rw [Bool.eq_iff_iff]
    simp
theorem eqD_sTl (cs : Sto) (neg : Bool) (xs ys : Spr) : eqD cs neg (.lst (sT xs)) (.lst (sT ys)) = some (True, .bl (if neg = true then !decide (xs = ys) else decide (xs = ys))) := by
  simp only [eqD, pyOf, toPy, toPyL_sT, (shaped_sT _).1, and_self, PyData.eqv, eqv_sT]
theorem eqD_sTt (cs : Sto) (neg : Bool) (xs ys : Spr) : eqD cs neg (.tup (sT xs)) (.tup (sT ys)) = some (True, .bl (if neg = true then !decide (xs = ys) else decide (xs = ys))) := by
  simp only [eqD, pyOf, toPy, toPyL_sT, (shaped_sT _).2, and_self, PyData.eqv, eqv_sT]
theorem eqD_nil (cs : Sto) (neg : Bool) (xs : Spr) : eqD cs neg (.lst (xs.map Am.t)) (.lst []) = some (True, .bl (if neg = true then !decide (xs = []) else decide (xs = []))) := eqD_sTl cs neg xs []
theorem filter_nil (xs : Spr) : decide (xs.filter Am.nz = []) = !(xs.map Am.nz).any id := by
  rw [Bool.eq_iff_iff]
  simp [List.filter_eq_nil_iff]
/-! ### reprs of spreads -/
theorem dwts_sT : ∀ xs : Spr, dwts (sT xs) = 5 * xs.length
  | [] => rfl
  | x :: xs => by
    show dwts (x.t :: sT xs) = _
    simp only [dwts, dwts_sT xs, List.length_cons]
    have : dwt x.t = 4 := by simp [Am.t, Am.ds, dwt, dwts]
    omega
theorem DBL_sT {n : Nat} : ∀ {xs : Spr}, SB n xs → DBL n 1 (sT xs)
  | [], _ => by simp [sT, DBL]
  | x :: xs, h => by
    have hx := h x List.mem_cons_self
    show DBL n 1 (x.t :: sT xs)
    simp only [DBL, Am.t, Am.ds, DB, and_true]
    exact ⟨⟨hx.a, hx.b, hx.c, hx.d⟩, DBL_sT fun y hy => h y (List.mem_cons_of_mem _ hy)⟩
theorem DB_opt {n : Nat} {xs : Spr} (h : SB n xs) : DB n 2 (optT xs) := by
  unfold optT
  split
  · simp only [DB]
    exact DBL_sT h
  · simp only [DB]
theorem dwt_opt {xs : Spr} (h : xs.length ≤ 1600) : dwt (optT xs) ≤ 8000 := by
  unfold optT
  split
  · simp only [dwt, dwts_sT]
    omega
  · simp only [dwt]
    omega
theorem repr_opt {n : Nat} {xs : Spr} (h : SB n xs) (l : xs.length ≤ 1600) (hn : n ≤ 1920 := by decide) (cs : Sto) : reprD cs (optT xs) = some (True, shD (optT xs)) := reprD_ok (DB_opt h) hn (by decide) (dwt_opt l)
theorem eq_opt {n : Nat} {xs : Spr} (h : SB n xs) (hn : n ≤ 1920 := by decide) (neg : Bool) (cs : Sto) : eqD cs neg (optT xs) (optT xs) = some (True, .bl (!neg)) := eqD_self (DB_opt h) hn (by decide)
theorem opt_i {A : Spr} {Q : PD} {env : En} {cs : Sto} {i : Nat} {z : Lz (PProd.mk (wC .non env cs Q) (wVar i env cs Q))} (h : envAt env i = some (.tup (sT A))) (q : Q (optT A) cs) : cond2 (!(A.map Am.nz).any id) (wC .non env cs Q) (wVar i env cs Q) z := by
  unfold optT at q
  cases hz : (A.map Am.nz).any id with
  | true =>
    rw [hz, if_pos rfl] at q
    show wVar i env cs Q
    rw [wVar_eq, h]
    exact q
  | false =>
    rw [hz, if_neg (by decide)] at q
    exact q
theorem sum_bd {F : Am → Int} {b : Nat} : ∀ {xs : Spr}, (∀ x ∈ xs, Bd b (F x)) → ((xs.map F).sum).natAbs ≤ xs.length * 2 ^ b
  | [], _ => by simp
  | x :: xs, h => by
    have h1 := h x List.mem_cons_self
    have h2 := sum_bd (xs := xs) fun y hy => h y (List.mem_cons_of_mem _ hy)
    rw [List.map_cons, List.sum_cons, List.length_cons, Nat.succ_mul]
    unfold Bd at h1
    omega
theorem s_bd {n : Nat} {xs : Spr} (h : SB n xs) (l : xs.length ≤ 63) : Bd (n + n + 3 + 6) (s1 xs) ∧ Bd (n + n + 3 + 6) (s2 xs) := by
  have e : ∀ k : Nat, k ≤ xs.length * 2 ^ (n + n + 3) → k < 2 ^ (n + n + 3 + 6) := fun k hk => by
    rw [Nat.pow_add _ (n + n + 3) 6]
    have h1 : xs.length * 2 ^ (n + n + 3) ≤ 63 * 2 ^ (n + n + 3) := Nat.mul_le_mul_right _ l
    have h2 := Nat.two_pow_pos (n + n + 3)
    omega
  exact ⟨e _ (sum_bd fun x hx => (h x hx).l1), e _ (sum_bd fun x hx => (h x hx).l2)⟩
theorem DB_22 {n : Nat} {a b c d : Int} (h1 : Bd n a) (h2 : Bd n b) (h3 : Bd n c) (h4 : Bd n d) : DB n 2 (.tup [.tup [.int a, .int b], .tup [.int c, .int d]]) := by
  simp only [DB, DBL, and_true]
  exact ⟨⟨h1, h2⟩, h3, h4⟩
theorem repr_22 {n : Nat} {a b c d : Int} (h1 : Bd n a) (h2 : Bd n b) (h3 : Bd n c) (h4 : Bd n d) (l : n ≤ 1920 := by decide) (cs : Sto) : reprD cs (.tup [.tup [.int a, .int b], .tup [.int c, .int d]]) = some (True, shD (.tup [.tup [.int a, .int b], .tup [.int c, .int d]])) := reprD_ok (DB_22 h1 h2 h3 h4) l (by decide) (by simp [dwt, dwts])
theorem eq_22 {n : Nat} {a b c d : Int} (h1 : Bd n a) (h2 : Bd n b) (h3 : Bd n c) (h4 : Bd n d) (l : n ≤ 1920 := by decide) (neg : Bool) (cs : Sto) : eqD cs neg (.tup [.tup [.int a, .int b], .tup [.int c, .int d]]) (.tup [.tup [.int a, .int b], .tup [.int c, .int d]]) = some (True, .bl (!neg)) := eqD_self (DB_22 h1 h2 h3 h4) l (by decide)
/-! ### spreads that stay spreads -/
theorem Am.tn_nz (x : Am) (k : Nat) : (Am.tn k x).nz = x.nz := by
  rw [Bool.eq_iff_iff, Am.nz_iff, Am.nz_iff, ne_eq, ne_eq, ← Am.zero, ← Am.zero, Am.l1_tn, Am.l2_tn]
theorem any_nz {xs : Spr} : (xs.map Am.nz).any id = true ↔ ∃ i, i < xs.length ∧ (atS xs i).nz = true := by
  rw [List.any_eq_true]
  constructor
  · rintro ⟨b, hb, e⟩
    obtain ⟨x, hx, rfl⟩ := List.mem_map.mp hb
    obtain ⟨i, hi, e2⟩ := List.getElem_of_mem hx
    exact ⟨i, hi, by rw [atS_some (List.getElem?_eq_getElem hi), e2]; exact e⟩
  · rintro ⟨i, hi, e⟩
    refine ⟨true, List.mem_map.mpr ⟨atS xs i, ?_, e⟩, rfl⟩
    rw [atS_some (List.getElem?_eq_getElem hi)]
    exact List.getElem_mem hi
theorem Spr.W.turn {n : Nat} {xs : Spr} (w : xs.W n) (p k : Nat) : (turnL xs p k).W n := by
  refine ⟨by rw [turnL_len]; exact w.len, w.few, any_nz.mpr ?_⟩
  obtain ⟨i, hi, e⟩ := any_nz.mp w.nz
  refine ⟨i, by rw [turnL_len]; exact hi, ?_⟩
  rw [atS_turn hi]
  split
  · rw [Am.tn_nz]; exact e
  · exact e
theorem mulL_len (xs : Spr) (b : Am) : (mulL xs b).length = xs.length := by simp [mulL]
theorem mulL_nz {b : Am} (hb : b ≠ ⟨0, 0, 0, 0⟩) (xs : Spr) : ((mulL xs b).map Am.nz).any id = (xs.map Am.nz).any id := by
  unfold mulL
  rw [List.map_map]
  congr 1
  apply List.map_congr_left
  intro x _
  exact Am.mul_nz hb
theorem Spr.W.mul {n : Nat} {xs : Spr} {b : Am} (w : xs.W n) (hb : b ≠ ⟨0, 0, 0, 0⟩) : (mulL xs b).W n := ⟨by rw [mulL_len]; exact w.len, w.few, by rw [mulL_nz hb]; exact w.nz⟩
theorem SB.mul {n m : Nat} {xs : Spr} {b : Am} (h : SB n xs) (k : b.B m) : SB (n + m + 3) (mulL xs b) := fun y hy => by
  obtain ⟨x, hx, rfl⟩ := List.mem_map.mp hy
  exact (h x hx).mul k
theorem SB.turn {n : Nat} {xs : Spr} (h : SB n xs) (p k : Nat) : SB n (turnL xs p k) := fun y hy => by
  obtain ⟨a, _, rfl⟩ := List.mem_map.mp hy
  split
  · exact (h.at _).tn _
  · exact h.at _
theorem optT_nz {xs : Spr} (h : (xs.map Am.nz).any id = true) : optT xs = .tup (sT xs) := by
  unfold optT
  rw [if_pos h]
theorem optT_z {xs : Spr} (h : (xs.map Am.nz).any id = false) : optT xs = .non := by
  unfold optT
  rw [if_neg (by rw [h]; decide)]
theorem Spr.W.look {n : Nat} {xs : Spr} (w : xs.W (n + 1)) {p k : Nat} (h : ((lookL xs p k).map Am.nz).any id = true) : (lookL xs p k).W n := by
  refine ⟨?_, by have := w.few; omega, h⟩
  rw [lookL_len, w.len, Nat.pow_succ]
  simp
/-! ties to an even place -/
def ng (b : Bool) (x : Am) : Am := if b = true then x.neg else x
theorem ng_ng (b c : Bool) (x : Am) : ng b (ng c x) = ng (b ^^ c) x := by
  cases b <;> cases c <;> simp [ng, Am.neg_neg]
def par (ps : List Nat) (a : Nat) : Bool := ps.foldr (fun p b => bt p a ^^ b) false
def tieAll (n : Nat) : List Nat → Spr → Spr
  | [], Y => Y
  | p :: ps, Y => tieAll n ps (tieL Y p n)
def sgnAll : List Nat → Spr → Spr
  | [], Y => Y
  | p :: ps, Y => sgnAll ps (turnL Y p 4)
theorem tieAll_len (n : Nat) : ∀ (ps : List Nat) (Y : Spr), (tieAll n ps Y).length = Y.length
  | [], Y => rfl
  | p :: ps, Y => (tieAll_len n ps _).trans (tieL_len _ _ _)
theorem sgnAll_len : ∀ (ps : List Nat) (Y : Spr), (sgnAll ps Y).length = Y.length
  | [], Y => rfl
  | p :: ps, Y => (sgnAll_len ps _).trans (turnL_len _ _ _)
theorem tieAll_at (n : Nat) : ∀ (ps : List Nat) (Y : Spr) {a : Nat}, a < Y.length → atS (tieAll n ps Y) a = ng (bt n a && par ps a) (atS Y a)
  | [], Y, a, h => by simp [tieAll, par, ng]
  | p :: ps, Y, a, h => by
    have e := tieAll_at n ps (tieL Y p n) (a := a) (by rw [tieL_len]; exact h)
    show atS (tieAll n ps (tieL Y p n)) a = _
    rw [e, tie_at h]
    show ng _ (ng _ _) = _
    rw [ng_ng]
    congr 1
    show (_ ^^ _) = (bt n a && (bt p a ^^ par ps a))
    cases bt n a <;> cases bt p a <;> cases par ps a <;> rfl
theorem sgnAll_at : ∀ (ps : List Nat) (Y : Spr) {a : Nat}, a < Y.length → atS (sgnAll ps Y) a = ng (par ps a) (atS Y a)
  | [], Y, a, h => by simp [sgnAll, par, ng]
  | p :: ps, Y, a, h => by
    have e := sgnAll_at ps (turnL Y p 4) (a := a) (by rw [turnL_len]; exact h)
    show atS (sgnAll ps (turnL Y p 4)) a = _
    rw [e, atS_turn h, Am.tn_four]
    have e2 : (if a / 2 ^ p % 2 = 1 then (atS Y a).neg else atS Y a) = ng (bt p a) (atS Y a) := by
      unfold ng bt
      by_cases hb : a / 2 ^ p % 2 = 1 <;> simp [hb]
    rw [e2, ng_ng, Bool.xor_comm]
    rfl
theorem bt_fl {p n a : Nat} (h : p < n) : bt p (fl n a) = bt p a := by
  obtain ⟨m, rfl⟩ : ∃ m, n = p + 1 + m := ⟨n - p - 1, by omega⟩
  have hp := Nat.two_pow_pos p
  have e : 2 ^ (p + 1 + m) = 2 ^ p * (2 * 2 ^ m) := by rw [Nat.pow_add, Nat.pow_succ]; grind
  unfold bt fl
  split
  · rename_i hb
    have h2 : (a - 2 ^ (p + 1 + m)) / 2 ^ p = a / 2 ^ p - 2 * 2 ^ m := by rw [e, Nat.sub_mul_div]
    have h3 : 2 ^ (p + 1 + m) ≤ a := by
      have h3 : 1 ≤ a / 2 ^ (p + 1 + m) := by
        generalize a / 2 ^ (p + 1 + m) = z at hb
        omega
      have h4 : 2 ^ (p + 1 + m) * 1 ≤ 2 ^ (p + 1 + m) * (a / 2 ^ (p + 1 + m)) := Nat.mul_le_mul_left _ h3
      have h5 := Nat.mul_div_le a (2 ^ (p + 1 + m))
      omega
    have h4 : 2 * 2 ^ m ≤ a / 2 ^ p := by
      rw [Nat.le_div_iff_mul_le hp, Nat.mul_comm, ← e]
      exact h3
    rw [h2]
    congr 1
    generalize a / 2 ^ p = z at *
    rw [eq_iff_iff]
    omega
  · have h2 : (a + 2 ^ (p + 1 + m)) / 2 ^ p = a / 2 ^ p + 2 * 2 ^ m := by rw [e, Nat.add_mul_div_left _ _ hp]
    rw [h2]
    congr 1
    generalize a / 2 ^ p = z at *
    rw [eq_iff_iff]
    omega
theorem par_fl {n a : Nat} : ∀ {ps : List Nat}, (∀ p ∈ ps, p < n) → par ps (fl n a) = par ps a
  | [], _ => rfl
  | p :: ps, h => by
    show (bt p (fl n a) ^^ par ps (fl n a)) = (bt p a ^^ par ps a)
    rw [bt_fl (h p List.mem_cons_self), par_fl fun q hq => h q (List.mem_cons_of_mem _ hq)]
theorem bt_self (n a : Nat) : bt n (fl n a) = !bt n a := by
  unfold bt
  rw [fl_bit]
  have := Nat.mod_lt (a / 2 ^ n) (by decide : 0 < 2)
  generalize a / 2 ^ n % 2 = z at *
  have : z = 0 ∨ z = 1 := by omega
  rcases this with rfl | rfl <;> rfl
theorem dbl_at {xs : Spr} {n a : Nat} (w : xs.length = 2 ^ n) : atS (xs ++ xs) a = if a < 2 ^ n then atS xs a else atS xs (a - 2 ^ n) := by
  unfold atS
  rw [List.getD_eq_getElem?_getD, List.getD_eq_getElem?_getD, List.getD_eq_getElem?_getD]
  split
  · rw [List.getElem?_append_left (by omega)]
  · rw [List.getElem?_append_right (by omega), w]
theorem dbl_fl {xs : Spr} {n a : Nat} (w : xs.length = 2 ^ n) (ha : a < 2 ^ (n + 1)) : atS (xs ++ xs) (fl n a) = atS (xs ++ xs) a := by
  have hp := Nat.two_pow_pos n
  rw [Nat.pow_succ] at ha
  rw [dbl_at w, dbl_at w]
  unfold fl
  by_cases h : a < 2 ^ n
  · rw [Nat.div_eq_of_lt h, if_neg (show ¬ 0 % 2 = 1 by decide), if_neg (show ¬ a + 2 ^ n < 2 ^ n by omega), if_pos h, Nat.add_sub_cancel]
  · have e : a / 2 ^ n = 1 := by
      rw [Nat.div_eq_iff hp]
      omega
    rw [e, if_pos (show 1 % 2 = 1 by decide), if_pos (show a - 2 ^ n < 2 ^ n by omega), if_neg h]
theorem signs_exch {xs : Spr} {n : Nat} {ps : List Nat} (w : xs.length = 2 ^ n) (h : ∀ p ∈ ps, p < n) : sgnAll ps (tieAll n ps (xs ++ xs)) = exchL (tieAll n ps (xs ++ xs)) n := by
  have hl : (xs ++ xs).length = 2 ^ (n + 1) := by rw [List.length_append, w, Nat.pow_succ]; omega
  apply spr_ext
  · rw [sgnAll_len, exchL_len]
  · intro a ha
    rw [sgnAll_len, tieAll_len] at ha
    have ha2 : fl n a < (xs ++ xs).length := by rw [hl]; exact fl_lt (Nat.lt_succ_self n) (by rw [← hl]; exact ha)
    rw [sgnAll_at _ _ (by rw [tieAll_len]; exact ha), exch_at (by rw [tieAll_len]; exact ha), tieAll_at _ _ _ ha, tieAll_at _ _ _ ha2, ng_ng, bt_self, par_fl h, dbl_fl w (by rw [← hl]; exact ha)]
    congr 1
    cases bt n a <;> cases par ps a <;> rfl
theorem s_congr {xs ys : Spr} (hl : xs.length = ys.length) (h : ∀ a, a < xs.length → (atS xs a).l1 = (atS ys a).l1 ∧ (atS xs a).l2 = (atS ys a).l2) : s1 xs = s1 ys ∧ s2 xs = s2 ys := by
  unfold s1 s2
  rw [sum_map Am.l1, sum_map Am.l1, sum_map Am.l2, sum_map Am.l2, ← hl]
  exact ⟨sumR_congr fun i hi => (h i hi).1, sumR_congr fun i hi => (h i hi).2⟩
theorem ng_l (b : Bool) (x : Am) : (ng b x).l1 = x.l1 ∧ (ng b x).l2 = x.l2 := by
  cases b
  · exact ⟨rfl, rfl⟩
  · simp only [ng, if_true, Am.neg, Am.l1, Am.l2]
    grind
theorem ng_nz (b : Bool) (x : Am) : (ng b x).nz = x.nz := by
  cases b
  · rfl
  · exact Am.neg_nz x
theorem W_of {xs ys : Spr} {n : Nat} (w : xs.W n) (hl : ys.length = xs.length) (h : ∀ a, a < xs.length → (atS ys a).nz = (atS xs a).nz) : ys.W n := by
  refine ⟨hl.trans w.len, w.few, any_nz.mpr ?_⟩
  obtain ⟨i, hi, e⟩ := any_nz.mp w.nz
  exact ⟨i, by omega, by rw [h i hi]; exact e⟩
theorem dbl_W {xs : Spr} {n : Nat} (w : xs.W n) (l : n < 12) : Spr.W (n + 1) (xs ++ xs) := by
  refine ⟨by rw [List.length_append, w.len, Nat.pow_succ]; omega, by omega, ?_⟩
  rw [List.map_append, List.any_append, w.nz]
  rfl
theorem tieAll_W {xs : Spr} {n : Nat} {ps : List Nat} (w : xs.W n) (l : n < 12) : (tieAll n ps (xs ++ xs)).W (n + 1) :=
  W_of (dbl_W w l) (tieAll_len _ _ _) fun a ha => by rw [tieAll_at _ _ _ ha, ng_nz]
theorem sgnAll_W {Y : Spr} {n : Nat} (w : Y.W n) (ps : List Nat) : (sgnAll ps Y).W n :=
  W_of w (sgnAll_len _ _) fun a ha => by rw [sgnAll_at _ _ ha, ng_nz]
theorem SB.tieAll {n m : Nat} : ∀ {ps : List Nat} {Y : Spr}, SB m Y → SB m (Law.tieAll n ps Y)
  | [], _, h => h
  | p :: ps, Y, h => SB.tieAll (ps := ps) (h.tie p n)
theorem SB.sgnAll {m : Nat} : ∀ {ps : List Nat} {Y : Spr}, SB m Y → SB m (Law.sgnAll ps Y)
  | [], _, h => h
  | p :: ps, Y, h => SB.sgnAll (ps := ps) (h.turn p 4)
theorem SB.dbl {m : Nat} {xs : Spr} (h : SB m xs) : SB m (xs ++ xs) := fun x hx => by
  rcases List.mem_append.mp hx with hx | hx <;> exact h x hx
theorem sgn_s (ps : List Nat) (Y : Spr) : s1 (sgnAll ps Y) = s1 Y ∧ s2 (sgnAll ps Y) = s2 Y :=
  s_congr (sgnAll_len _ _) fun a ha => by
    rw [sgnAll_at _ _ (by rw [sgnAll_len] at ha; exact ha)]
    exact ng_l _ _
theorem tie_s (n : Nat) (ps : List Nat) (Y : Spr) : s1 (tieAll n ps Y) = s1 Y ∧ s2 (tieAll n ps Y) = s2 Y :=
  s_congr (tieAll_len _ _ _) fun a ha => by
    rw [tieAll_at _ _ _ (by rw [tieAll_len] at ha; exact ha)]
    exact ng_l _ _
theorem s_app (xs ys : Spr) : s1 (xs ++ ys) = s1 xs + s1 ys ∧ s2 (xs ++ ys) = s2 xs + s2 ys := by
  simp [s1, s2]
theorem tieAll_snoc (n : Nat) (p : Nat) : ∀ (ps : List Nat) (Y : Spr), tieAll n (ps ++ [p]) Y = tieL (tieAll n ps Y) p n
  | [], Y => rfl
  | q :: ps, Y => tieAll_snoc n p ps _
theorem sgnAll_snoc (p : Nat) : ∀ (ps : List Nat) (Y : Spr), sgnAll (ps ++ [p]) Y = turnL (sgnAll ps Y) p 4
  | [], Y => rfl
  | q :: ps, Y => sgnAll_snoc p ps _
theorem tieL_comm (Y : Spr) (p q : Nat) : tieL Y p q = tieL Y q p := by
  unfold tieL
  apply List.map_congr_left
  intro a _
  rw [Bool.and_comm]
/-- an even place tied to p: looks at p are even -/
theorem look_tied {xs : Spr} {n p : Nat} (w : xs.length = 2 ^ n) (hp : p < n) (k : Nat) : lookL (tieL (xs ++ xs) p n) p k = lookL xs p k ++ lookL xs p (k + 4) := by
  have hl : (xs ++ xs).length = 2 ^ (n + 1) := by rw [List.length_append, w, Nat.pow_succ]; omega
  have hlt : (tieL (xs ++ xs) p n).length = 2 ^ (n + 1) := by rw [tieL_len, hl]
  have hp2 := Nat.two_pow_pos p
  obtain ⟨m, rfl⟩ : ∃ m, n = m + 1 := ⟨n - 1, by omega⟩
  have h2 : 2 ^ (m + 1) / 2 = 2 ^ m := by rw [Nat.pow_succ, Nat.mul_div_cancel _ (by decide)]
  have h3 : 2 ^ (m + 1 + 1) / 2 = 2 ^ (m + 1) := by rw [Nat.pow_succ, Nat.mul_div_cancel _ (by decide)]
  apply spr_ext
  · rw [List.length_append, lookL_len, lookL_len, lookL_len, hlt, w, h2, h3, Nat.pow_succ]
    omega
  · intro a ha
    rw [lookL_len, hlt, h3] at ha
    have ix : ∀ a, ixL p a / 2 ^ p % 2 = 0 ∧ (ixL p a + 2 ^ p) / 2 ^ p % 2 = 1 := ixL_bit p
    have e1 : atS (lookL (tieL (xs ++ xs) p (m + 1)) p k) a = (atS (tieL (xs ++ xs) p (m + 1)) (ixL p a)).add (Am.tn k (atS (tieL (xs ++ xs) p (m + 1)) (ixL p a + 2 ^ p))) := atS_look (by rw [hlt, h3]; exact ha)
    have b1 := ixL_lt (n := m + 1 + 1) (p := p) (a := a) (by omega) (by rw [h3]; exact ha)
    have b0 : ixL p a < 2 ^ (m + 1 + 1) := Nat.lt_of_le_of_lt (Nat.le_add_right _ _) b1
    rw [e1, tie_at (by rw [hl]; exact b0), tie_at (by rw [hl]; exact b1)]
    have c0 : bt p (ixL p a) = false := by unfold bt; rw [(ix a).1]; rfl
    have c1 : bt p (ixL p a + 2 ^ p) = true := by unfold bt; rw [(ix a).2]; rfl
    rw [c0, c1, Bool.false_and, Bool.true_and, if_neg (by decide)]
    by_cases h : a < 2 ^ m
    · -- the first half
      have d1 := ixL_lt (n := m + 1) (p := p) (a := a) hp (by rw [h2]; exact h)
      have d0 : ixL p a < 2 ^ (m + 1) := Nat.lt_of_le_of_lt (Nat.le_add_right _ _) d1
      have c2 : bt (m + 1) (ixL p a + 2 ^ p) = false := by unfold bt; rw [Nat.div_eq_of_lt d1]; rfl
      rw [c2, if_neg (by decide), dbl_at w, if_pos d0, dbl_at w, if_pos d1]
      have : atS (lookL xs p k ++ lookL xs p (k + 4)) a = atS (lookL xs p k) a := by
        unfold atS
        rw [List.getD_eq_getElem?_getD, List.getD_eq_getElem?_getD, List.getElem?_append_left (by rw [lookL_len, w, h2]; exact h)]
      rw [this, atS_look (by rw [w, h2]; exact h)]
    · -- the second
      obtain ⟨b, rfl⟩ : ∃ b, a = 2 ^ m + b := ⟨a - 2 ^ m, by omega⟩
      rw [Nat.pow_succ] at ha
      have hb : b < 2 ^ m := by omega
      have d1 := ixL_lt (n := m + 1) (p := p) (a := b) hp (by rw [h2]; exact hb)
      have d0 : ixL p b < 2 ^ (m + 1) := Nat.lt_of_le_of_lt (Nat.le_add_right _ _) d1
      have ei : ixL p (2 ^ m + b) = 2 ^ (m + 1) + ixL p b := by
        obtain ⟨r, rfl⟩ : ∃ r, m = p + r := ⟨m - p, by omega⟩
        have e5 : 2 ^ (p + r) + b = 2 ^ p * 2 ^ r + b := by rw [Nat.pow_add]
        unfold ixL
        rw [e5, Nat.mul_add_mod, ← e5, Nat.pow_succ]
        have := Nat.mod_le b (2 ^ p)
        omega
      have c2 : bt (m + 1) (ixL p (2 ^ m + b) + 2 ^ p) = true := by
        unfold bt
        rw [ei, Nat.add_assoc, Nat.add_div_left _ (Nat.two_pow_pos _), Nat.div_eq_of_lt d1]
        rfl
      rw [c2, if_pos rfl, ei, dbl_at w, if_neg (by omega), dbl_at w, if_neg (by omega), Nat.add_sub_cancel_left, show 2 ^ (m + 1) + ixL p b + 2 ^ p - 2 ^ (m + 1) = ixL p b + 2 ^ p by omega]
      have : atS (lookL xs p k ++ lookL xs p (k + 4)) (2 ^ m + b) = atS (lookL xs p (k + 4)) b := by
        unfold atS
        rw [List.getD_eq_getElem?_getD, List.getD_eq_getElem?_getD, List.getElem?_append_right (by rw [lookL_len, w, h2]; omega), lookL_len, w, h2, Nat.add_sub_cancel_left]
      rw [this, atS_look (by rw [w, h2]; exact hb)]
      congr 1
      rw [← Am.tn_four, Am.tn_tn, ← Am.tn_tn _ k 4, Am.tn_tn, Nat.add_comm 4 k]
/-! ### done twice -/
theorem mapIdx_sT (xs : Spr) (F : Nat → Am → Am) : (xs.mapIdx fun k x => (F k x).t) = sT ((List.range xs.length).map fun k => F k (atS xs k)) := by
  apply List.ext_getElem
  · simp [sT]
  · intro a h1 h2
    have ha : a < xs.length := by simpa using h1
    simp only [List.getElem_mapIdx, sT, List.getElem_map, List.getElem_range]
    rw [atS_some (List.getElem?_eq_getElem ha)]
theorem turn4 (xs : Spr) (p : Nat) : turnL xs p 4 = (List.range xs.length).map fun a => ng (bt p a) (atS xs a) := by
  unfold turnL
  apply List.map_congr_left
  intro a _
  unfold ng bt
  rw [Am.tn_four]
  by_cases h : a / 2 ^ p % 2 = 1 <;> simp [h]
theorem sign_sign (xs : Spr) (p : Nat) : turnL (turnL xs p 4) p 4 = xs := by
  apply spr_ext
  · rw [turnL_len, turnL_len]
  · intro a ha
    rw [turnL_len, turnL_len] at ha
    rw [turn4, mk_at (xs := xs) (by rw [turnL_len]; exact ha), turn4, mk_at (xs := xs) ha, ng_ng, Bool.xor_self]
    rfl
theorem fl_fl (p a : Nat) : fl p (fl p a) = a := by
  have h := fl_bit p a
  have hm := Nat.mod_lt (a / 2 ^ p) (by decide : 0 < 2)
  have hp := Nat.two_pow_pos p
  by_cases hb : a / 2 ^ p % 2 = 1
  · have e : fl p a = a - 2 ^ p := by unfold fl; rw [if_pos hb]
    have h2 : 2 ^ p ≤ a := by
      have h3 : 1 ≤ a / 2 ^ p := by
        generalize a / 2 ^ p = z at hb
        omega
      have h4 : 2 ^ p * 1 ≤ 2 ^ p * (a / 2 ^ p) := Nat.mul_le_mul_left _ h3
      have h5 := Nat.mul_div_le a (2 ^ p)
      omega
    rw [hb] at h
    have e2 : fl p (fl p a) = fl p a + 2 ^ p := by
      generalize fl p a = y at *
      unfold fl
      rw [if_neg (by rw [h]; decide)]
    rw [e2, e]
    omega
  · have hb0 : a / 2 ^ p % 2 = 0 := by omega
    have e : fl p a = a + 2 ^ p := by unfold fl; rw [if_neg hb]
    rw [hb0] at h
    have e2 : fl p (fl p a) = fl p a - 2 ^ p := by
      generalize fl p a = y at *
      unfold fl
      rw [if_pos h]
    rw [e2, e]
    omega
theorem exch_exch {xs : Spr} {n p : Nat} (w : xs.length = 2 ^ n) (hp : p < n) : exchL (exchL xs p) p = xs := by
  apply spr_ext
  · rw [exchL_len, exchL_len]
  · intro a ha
    rw [exchL_len, exchL_len] at ha
    have h2 : fl p a < xs.length := by rw [w]; exact fl_lt hp (by rw [← w]; exact ha)
    rw [exch_at (by rw [exchL_len]; exact ha), exch_at h2, fl_fl]
theorem tie_at' {xs : Spr} {p q a : Nat} (h : a < xs.length) : atS (tieL xs p q) a = ng (bt p a && bt q a) (atS xs a) := tie_at h
theorem tie_tie (xs : Spr) (p q : Nat) : tieL (tieL xs p q) q p = xs := by
  apply spr_ext
  · rw [tieL_len, tieL_len]
  · intro a ha
    rw [tieL_len, tieL_len] at ha
    rw [tie_at' (by rw [tieL_len]; exact ha), tie_at' ha, ng_ng, Bool.and_comm, Bool.xor_self]
    rfl
theorem tie_s' (xs : Spr) (p q : Nat) : s1 (tieL xs p q) = s1 xs ∧ s2 (tieL xs p q) = s2 xs :=
  s_congr (tieL_len _ _ _) fun a ha => by
    rw [tie_at' (by rw [tieL_len] at ha; exact ha)]
    exact ng_l _ _
theorem Spr.W.tie {n : Nat} {xs : Spr} (w : xs.W n) (p q : Nat) : (tieL xs p q).W n :=
  W_of w (tieL_len _ _ _) fun a ha => by rw [tie_at' ha, ng_nz]
theorem Spr.W.exch {n p : Nat} {xs : Spr} (w : xs.W n) (hp : p < n) : (exchL xs p).W n := by
  refine ⟨by rw [exchL_len]; exact w.len, w.few, any_nz.mpr ?_⟩
  obtain ⟨i, hi, e⟩ := any_nz.mp w.nz
  have h2 : fl p i < xs.length := by rw [w.len]; exact fl_lt hp (by rw [← w.len]; exact hi)
  refine ⟨fl p i, by rw [exchL_len]; exact h2, ?_⟩
  rw [exch_at h2, fl_fl]
  exact e
def Am.dbl (x : Am) : Am := x.add x
theorem mix_at {xs : Spr} {p a : Nat} (h : a < xs.length) : atS (mixL xs p) a = if bt p a = true then (atS xs (fl p a)).add (atS xs a).neg else (atS xs a).add (atS xs (fl p a)) := mk_at (xs := xs) h
theorem mix_mix {xs : Spr} {n p : Nat} (w : xs.length = 2 ^ n) (hp : p < n) : mixL (mixL xs p) p = xs.map Am.dbl := by
  apply spr_ext
  · rw [mixL_len, mixL_len, List.length_map]
  · intro a ha
    rw [mixL_len, mixL_len] at ha
    have h2 : fl p a < xs.length := by rw [w]; exact fl_lt hp (by rw [← w]; exact ha)
    have em : atS (xs.map Am.dbl) a = (atS xs a).dbl := by
      apply atS_some
      rw [List.getElem?_map, List.getElem?_eq_getElem ha, atS_some (List.getElem?_eq_getElem ha)]
      rfl
    rw [mix_at (by rw [mixL_len]; exact ha), mix_at ha, mix_at h2, fl_fl, em, bt_self]
    cases bt p a
    · simp only [Bool.not_false, if_true, Bool.false_eq_true, if_false]
      apply Am.ext' <;> simp only [Am.add, Am.neg, Am.dbl] <;> omega
    · simp only [Bool.not_true, Bool.false_eq_true, if_false, if_true]
      apply Am.ext' <;> simp only [Am.add, Am.neg, Am.dbl] <;> omega
theorem Spr.W.mix {n p : Nat} {xs : Spr} (w : xs.W n) (hp : p < n) : (mixL xs p).W n := by
  refine ⟨by rw [mixL_len]; exact w.len, w.few, ?_⟩
  cases h : ((mixL xs p).map Am.nz).any id with
  | true => rfl
  | false =>
    exfalso
    have hz : ∀ a, a < xs.length → atS (mixL xs p) a = ⟨0, 0, 0, 0⟩ := fun a ha => by
      have h1 : ¬ (atS (mixL xs p) a).nz = true := fun e => by
        have := any_nz.mpr ⟨a, by rw [mixL_len]; exact ha, e⟩
        rw [h] at this
        cases this
      rw [Am.nz_iff] at h1
      exact Classical.not_not.mp h1
    obtain ⟨i, hi, e⟩ := any_nz.mp w.nz
    rw [Am.nz_iff] at e
    apply e
    have h2 : fl p i < xs.length := by rw [w.len]; exact fl_lt hp (by rw [← w.len]; exact hi)
    have em : atS (xs.map Am.dbl) i = (atS xs i).dbl := by
      apply atS_some
      rw [List.getElem?_map, List.getElem?_eq_getElem hi, atS_some (List.getElem?_eq_getElem hi)]
      rfl
    rw [← mix_mix w.len hp, mix_at (by rw [mixL_len]; exact hi), hz i hi, hz _ h2] at em
    have e0 : (atS xs i).dbl = ⟨0, 0, 0, 0⟩ := by
      rw [← em]
      split <;> rfl
    unfold Am.dbl Am.add at e0
    injection e0 with x1 x2 x3 x4
    exact Am.ext' (by simp only; omega) (by simp only; omega) (by simp only; omega) (by simp only; omega)
theorem mix_s {xs : Spr} {n p : Nat} (w : xs.length = 2 ^ n) (hp : p < n) : s1 (mixL xs p) = 2 * s1 xs ∧ s2 (mixL xs p) = 2 * s2 xs := by
  have e : ∀ (g : Nat → Int) m, 2 * sumR g m = sumR (fun i => 2 * g i) m := fun g m => by
    induction m with
    | zero => rfl
    | succ m ih => rw [sumR_s, sumR_s, ← ih]; omega
  have val : ∀ a, a < 2 ^ n / 2 → atS (mixL xs p) (ixL p a) = (atS xs (ixL p a)).add (Am.tn 0 (atS xs (ixL p a + 2 ^ p))) ∧ atS (mixL xs p) (ixL p a + 2 ^ p) = (atS xs (ixL p a)).add (Am.tn (0 + 4) (atS xs (ixL p a + 2 ^ p))) := fun a ha => by
    have hx := ixL_lt hp ha
    rw [← w] at hx
    have hx2 : ixL p a < xs.length := Nat.lt_of_le_of_lt (Nat.le_add_right _ _) hx
    obtain ⟨b0, b1⟩ := ixL_bit p a
    have f0 : fl p (ixL p a) = ixL p a + 2 ^ p := by unfold fl; rw [if_neg (by rw [b0]; decide)]
    have f1 : fl p (ixL p a + 2 ^ p) = ixL p a := by rw [← f0, fl_fl]
    have c0 : bt p (ixL p a) = false := by unfold bt; rw [b0]; rfl
    have c1 : bt p (ixL p a + 2 ^ p) = true := by unfold bt; rw [b1]; rfl
    refine ⟨?_, ?_⟩
    · rw [mix_at hx2, c0, f0]
      rfl
    · rw [mix_at hx, c1, f1, if_pos rfl, Nat.zero_add, Am.tn_four]
  unfold s1 s2
  rw [sum_map Am.l1, sum_map Am.l1, sum_map Am.l2, sum_map Am.l2, mixL_len, w, ← sum_pairs _ hp, ← sum_pairs (fun i => (atS xs i).l1) hp, ← sum_pairs (fun i => (atS (mixL xs p) i).l2) hp, ← sum_pairs (fun i => (atS xs i).l2) hp, e, e]
  constructor
  · apply sumR_congr
    intro a ha
    rw [(val a ha).1, (val a ha).2, par1]
    omega
  · apply sumR_congr
    intro a ha
    rw [(val a ha).1, (val a ha).2, par2]
    omega
theorem SB.mix {n : Nat} {xs : Spr} (h : SB n xs) (p : Nat) : SB (n + 1) (mixL xs p) := SB.mk fun a => by
  split
  · exact (h.at _).add (h.at _).neg
  · exact (h.at _).add (h.at _)
theorem SpD.cell {cs : Sto} {n : Nat} {xs : Spr} (h : lstAt cs n = some (sT xs)) : SpD cs (.cell n) xs := ⟨sT xs, by rw [seqOf_cell]; exact h, Alls.t xs⟩
theorem repr_t {n : Nat} {xs : Spr} (h : SB n xs) (l : xs.length ≤ 1600) (hn : n ≤ 1920 := by decide) (cs : Sto) : reprD cs (.tup (sT xs)) = some (True, shD (.tup (sT xs))) := reprD_ok (k := 2) (by simp only [DB]; exact DBL_sT h) hn (by decide) (by simp only [dwt, dwts_sT]; omega)
theorem repr_l {n : Nat} {xs : Spr} (h : SB n xs) (l : xs.length ≤ 1600) (hn : n ≤ 1920 := by decide) (cs : Sto) : reprD cs (.lst (sT xs)) = some (True, shD (.lst (sT xs))) := reprD_ok (k := 2) (by simp only [DB]; exact DBL_sT h) hn (by decide) (by simp only [dwt, dwts_sT]; omega)
/-- sums by bits, the two ways -/
theorem lay_sum (a : Nat) : ∀ (l : List (Nat × Nat)), ((l.map fun p => a / 2 ^ p.2 % 2 * 2 ^ p.1).sum) = ((l.filter fun p => bt p.2 a).map fun p => 2 ^ p.1).sum
  | [] => rfl
  | p :: l => by
    rw [List.map_cons, List.sum_cons, lay_sum a l, List.filter_cons]
    unfold bt
    have hm := Nat.mod_lt (a / 2 ^ p.2) (by decide : 0 < 2)
    by_cases h : a / 2 ^ p.2 % 2 = 1
    · simp [h]
    · have h0 : a / 2 ^ p.2 % 2 = 0 := by omega
      simp [h0]
theorem sT_app (xs ys : Spr) : sT xs ++ sT ys = sT (xs ++ ys) := by simp [sT]
/-- the rest of the order, drawn one by one -/
theorem perm_pop {ls os : List Nat} {m r : Nat} (h : (os ++ ls).Perm (List.range m)) (hr : r < ls.length) : ((os ++ [ls[r]]) ++ ls.eraseIdx r).Perm (List.range m) := by
  refine List.Perm.trans ?_ h
  rw [List.append_assoc]
  refine List.Perm.append_left os ?_
  show (ls[r] :: ls.eraseIdx r).Perm ls
  have go : ∀ (l : List Nat) (r : Nat) (h : r < l.length), (l[r] :: l.eraseIdx r).Perm l := by
    intro l
    induction l with
    | nil => intro r h; simp at h
    | cons x l ih =>
      intro r h
      cases r with
      | zero => exact List.Perm.refl _
      | succ r =>
        have h' : r < l.length := by simpa using h
        exact (List.Perm.swap x l[r] (l.eraseIdx r)).trans (List.Perm.cons x (ih r h'))
  exact go ls r hr
theorem nT_app (a b : List Nat) : nT a ++ nT b = nT (a ++ b) := by simp [nT]
theorem nT_erase : ∀ (ls : List Nat) (r : Nat), (nT ls).eraseIdx r = nT (ls.eraseIdx r)
  | [], r => rfl
  | x :: ls, 0 => rfl
  | x :: ls, r + 1 => by
    show D.int x :: (nT ls).eraseIdx r = D.int x :: nT (ls.eraseIdx r)
    rw [nT_erase ls r]
theorem svn_app2 {i n : Nat} {cs : Sto} {c e : CO} (h : SvN i n cs) : SvN i n (cs ++ [c] ++ [e]) := svn_app (svn_app h)
theorem lstAt_app1s {cs : Sto} {a : CO} {b : List D} : lstAt (cs ++ [a] ++ [.lst b]) (cs.length + 1) = some b := by
  have := lstAt_app (cs := cs ++ [a]) b
  rwa [app_len] at this
theorem set_app1s {cs : Sto} {a b e : CO} : (cs ++ [a] ++ [b]).set (cs.length + 1) e = cs ++ [a] ++ [e] := by
  have := set_app (cs := cs ++ [a]) (c := b) (c' := e)
  rwa [app_len] at this
theorem mv_apps {i n : Nat} : ∀ {tail cs S : Sto}, i < cs.length → Mv i n (cs ++ tail) S → ∃ cs2, S = cs2 ++ tail ∧ Mv i n cs cs2
  | [], cs, S, hi, h => ⟨S, by simp, by simpa using h⟩
  | c :: tl, cs, S, hi, h => by
    obtain ⟨S1, e1, m1⟩ := mv_apps (i := i) (tail := tl) (cs := cs ++ [c]) (S := S) (by rw [app_len]; omega) (by simpa using h)
    obtain ⟨S2, e2, m2⟩ := mv_app hi m1
    exact ⟨S2, by rw [e1, e2]; simp, m2⟩
theorem mv_app2 {i n : Nat} {cs S : Sto} {c e : CO} (hi : i < cs.length) (h : Mv i n (cs ++ [c] ++ [e]) S) : ∃ cs2, S = cs2 ++ [c] ++ [e] ∧ Mv i n cs cs2 := by
  have h' : Mv i n (cs ++ [c, e]) S := by simpa using h
  obtain ⟨S2, e1, m⟩ := mv_apps hi h'
  exact ⟨S2, by rw [e1]; simp, m⟩
theorem svn_apps {i n : Nat} {cs tail : Sto} (h : SvN i n cs) : SvN i n (cs ++ tail) := by
  have hl := svn_lt h
  obtain ⟨ns, k, r, e, h⟩ := h
  exact ⟨ns, k, r, by rw [List.getElem?_append_left hl]; exact e, h⟩
/-! ### deeds -/
inductive Wd where
  | turn | mix | no | sign | under | swap | both
  deriving DecidableEq
def Wd.s : Wd → Str
  | .turn => "turn"
  | .mix => "mix"
  | .no => "not"
  | .sign => "sign"
  | .under => "under"
  | .swap => "swap"
  | .both => "both"
/-- how many wires -/
def Wd.n : Wd → Nat
  | .turn => 1
  | .mix => 1
  | .no => 1
  | .sign => 2
  | .under => 2
  | .swap => 2
  | .both => 3
structure Deed where
  w : Wd
  ws : List Nat
  t : Nat
def Deed.tl (x : Deed) : List D := if x.w = .turn then [.int x.t] else []
def Deed.ds (x : Deed) : List D := .str x.w.s :: (nT x.ws ++ x.tl)
def Deed.d (x : Deed) : D := .tup x.ds
structure Deed.ok (x : Deed) (n : Nat) : Prop where
  len : x.ws.length = x.w.n
  nd : x.ws.Nodup
  lt : ∀ a ∈ x.ws, a < n
  t : if x.w = .turn then 1 ≤ x.t ∧ x.t ≤ 7 else x.t = 0
def dL (xs : List Deed) : List D := xs.map Deed.d
def dsD (ds : List Deed) : Bool → D
  | true => .tup (dL ds)
  | false => .lst (dL ds)
theorem wd_turn (w : Wd) : decide (w.s = "turn") = decide (w = .turn) := by cases w <;> decide
theorem wd_mix (w : Wd) : decide (w.s = "mix") = decide (w = .mix) := by cases w <;> decide
theorem wd_sign (w : Wd) : decide (w.s = "sign") = decide (w = .sign) := by cases w <;> decide
theorem wd_not (w : Wd) : decide (w.s = "not") = decide (w = .no) := by cases w <;> decide
theorem wd_swap (w : Wd) : decide (w.s = "swap") = decide (w = .swap) := by cases w <;> decide
theorem wd_under (w : Wd) : decide (w.s = "under") = decide (w = .under) := by cases w <;> decide
theorem wd_both (w : Wd) : decide (w.s = "both") = decide (w = .both) := by cases w <;> decide
theorem wd_none (w : Wd) : (w.n = 0) = False := eq_false (by cases w <;> decide)
theorem Wd.n_le (w : Wd) : 1 ≤ w.n ∧ w.n ≤ 3 := by cases w <;> decide
theorem word_get (w : Wd) : ([("turn", 1), ("mix", 1), ("sign", 2), ("not", 1), ("under", 2), ("swap", 2), ("both", 3)] : List (Str × Int)).lookup w.s = some (w.n : Int) := by cases w <;> decide
theorem word_getD (w : Wd) : (getD [(.inr "sign", D.int 2), (.inr "under", .int 2), (.inr "swap", .int 2), (.inr "both", .int 3)] (.inr w.s)).getD (.int 1) = .int (w.n : Int) := by cases w <;> rfl
theorem kB_str_str : kitB "str" "str" = some true := by decide +kernel
theorem isi_str1 (x : Str) (cs : Sto) : isiD cs [.str x, .ty "str"] = some true := kB_str_str
theorem stayNT (ns : List Nat) : stay (.lst (nT ns)) = some (nT ns) := (rfl)
theorem nT_len (ns : List Nat) : (nT ns).length = ns.length := by simp [nT]
theorem Deed.ds_len {x : Deed} {n : Nat} (h : x.ok n) : x.ds.length = 1 + x.w.n + (if x.w = .turn then 1 else 0) := by
  unfold Deed.ds Deed.tl
  rw [List.length_cons, List.length_append, nT_len, h.len]
  split <;> simp <;> omega
theorem Deed.its {x : Deed} {n : Nat} (h : x.ok n) : cutD x.ds (some 1) (some (1 + (x.w.n : Int))) = nT x.ws := by
  rw [cutD_mid _ (by decide) (by omega), show (1 : Int).toNat = 1 from rfl, show ((1 : Int) + x.w.n).toNat = 1 + x.w.n by omega]
  unfold Deed.ds
  rw [List.drop_succ_cons, List.drop_zero, show 1 + x.w.n - 1 = x.w.n by omega, ← h.len, ← nT_len, List.take_left']
  rfl
theorem nums_nT (ns : List Nat) : nums (nT ns) = some (ns.map fun n : Nat => (n : Int)) := by rw [nT_ints, nums_map]
theorem nodup_cast {ns : List Nat} (h : ns.Nodup) : (ns.map fun n : Nat => (n : Int)).Nodup := by
  refine List.Pairwise.map _ (fun a b hab e => hab ?_) h
  omega
/-- a program -/
def progD (C : Addr) (n : Nat) (xs : List Deed) : D := .obj C [("wires", .int n), ("deeds", .tup (dL xs))]
theorem lk_wires (x y : D) : List.lookup ("wires" : Str) ([("wires", x), ("deeds", y)] : List (Str × D)) = some x := rfl
theorem lk_deeds (x y : D) : List.lookup ("deeds" : Str) ([("wires", x), ("deeds", y)] : List (Str × D)) = some y := rfl
theorem bt_int (a p : Nat) : decide ((a : Int) / 2 ^ p % 2 = 1) = bt p a := by
  unfold bt
  rw [← p2, ← Int.natCast_ediv]
  by_cases h : a / 2 ^ p % 2 = 1
  · rw [decide_eq_true h, decide_eq_true (by omega)]
  · rw [decide_eq_false h, decide_eq_false (by omega)]
theorem okT_nT {m : Nat} : ∀ ns : List Nat, okDs m (nT ns)
  | [] => trivial
  | n :: ns => ⟨trivial, okT_nT ns⟩
theorem okD_deed (m : Nat) (x : Deed) : okD m x.d := by
  unfold Deed.d Deed.ds Deed.tl
  simp only [okD, okDs, true_and]
  have app : ∀ {a b : List D}, okDs m a → okDs m b → okDs m (a ++ b) := by
    intro a
    induction a with
    | nil => intro b _ hb; exact hb
    | cons d a ih => intro b ha hb; exact ⟨ha.1, ih ha.2 hb⟩
  refine app (okT_nT x.ws) ?_
  split
  · exact ⟨trivial, trivial⟩
  · trivial
theorem okDs_deeds (m : Nat) : ∀ xs : List Deed, okDs m (dL xs)
  | [] => trivial
  | x :: xs => ⟨okD_deed m x, okDs_deeds m xs⟩
theorem bls_tr {α : Type} : ∀ xs : List α, bls (xs.map fun _ => D.bl true) = some (xs.map fun _ => true)
  | [] => rfl
  | x :: xs => by rw [List.map_cons, List.map_cons]; simp only [bls, bls_tr xs]
theorem all_tr {α : Type} : ∀ xs : List α, ((xs.map fun _ => true).all id) = true
  | [] => rfl
  | x :: xs => by rw [List.map_cons, List.all_cons, all_tr xs]; rfl
theorem anyI_nT (cs : Sto) (ns : List Nat) : anyI cs (.tup (nT ns)) = some (ns.map fun n : Nat => (n : Int)) := nums_nT ns
/-! ### what deeds do -/
theorem fl_xor : ∀ (p a : Nat), fl p a = a ^^^ 2 ^ p
  | 0, a => by
    have h1 : ((a ^^^ 1) % 2 = 1) ↔ ¬ ((a % 2 = 1) ↔ (1 % 2 = 1)) := Nat.xor_mod_two_eq_one
    have h2 : (a ^^^ 1) / 2 = a / 2 := by rw [Nat.xor_div_two]; simp
    unfold fl
    rw [Nat.pow_zero, Nat.div_one]
    split <;> omega
  | p + 1, a => by
    have ih := fl_xor p (a / 2)
    have e0 : 2 ^ (p + 1) = 2 * 2 ^ p := by rw [Nat.pow_succ, Nat.mul_comm]
    have h1 : ((a ^^^ 2 ^ (p + 1)) % 2 = 1) ↔ ¬ ((a % 2 = 1) ↔ (2 ^ (p + 1) % 2 = 1)) := Nat.xor_mod_two_eq_one
    have h2 : (a ^^^ 2 ^ (p + 1)) / 2 = fl p (a / 2) := by
      rw [Nat.xor_div_two, ih, e0, Nat.mul_div_cancel_left _ (by decide)]
    have e1 : a / 2 ^ (p + 1) = a / 2 / 2 ^ p := by rw [Nat.div_div_eq_div_mul, e0]
    have hp := Nat.two_pow_pos p
    unfold fl at h2 ⊢
    rw [e1]
    split
    · rename_i hb
      rw [if_pos hb] at h2
      have : 2 ^ p ≤ a / 2 := by
        have hne : 1 ≤ a / 2 / 2 ^ p := Nat.pos_of_ne_zero fun z => by
          rw [z] at hb
          exact absurd hb (by decide)
        have := (Nat.le_div_iff_mul_le hp).mp hne
        omega
      omega
    · rename_i hb
      rw [if_neg hb] at h2
      omega
theorem sum_bit : ∀ (l : List Nat) (k : Nat), l.Nodup → (l.map fun o => 2 ^ o).sum.testBit k = decide (k ∈ l)
  | [], k, _ => by simp
  | o :: l, k, h => by
    obtain ⟨h1, h2⟩ := List.nodup_cons.mp h
    have e : (l.map fun o => 2 ^ o).sum.testBit o = false := by
      rw [sum_bit l o h2]
      exact decide_eq_false h1
    rw [List.map_cons, List.sum_cons, Nat.add_comm]
    have eo : (l.map fun o => 2 ^ o).sum + 2 ^ o = fl o (l.map fun o => 2 ^ o).sum := by
      unfold fl
      have hb : ¬ ((l.map fun o => 2 ^ o).sum / 2 ^ o % 2 = 1) := by
        intro hb
        have : bt o (l.map fun o => 2 ^ o).sum = true := decide_eq_true hb
        rw [bt_test, e] at this
        cases this
      rw [if_neg hb]
    have ex : fl o (l.map fun o => 2 ^ o).sum = (l.map fun o => 2 ^ o).sum ^^^ 2 ^ o := fl_xor _ _
    rw [eo, ex, Nat.testBit_xor, sum_bit l k h2, Nat.testBit_two_pow]
    by_cases hk : k = o
    · subst hk
      simp [h1]
    · have : ¬ o = k := fun z => hk z.symm
      simp [hk, this]
theorem mask_all {ws : List Nat} (h : ws.Nodup) (a : Nat) : (a &&& (ws.map fun o => 2 ^ o).sum = (ws.map fun o => 2 ^ o).sum) ↔ (ws.all fun w => bt w a) = true := by
  rw [List.all_eq_true]
  constructor
  · intro e w hw
    have q : (a &&& (ws.map fun o => 2 ^ o).sum).testBit w = (ws.map fun o => 2 ^ o).sum.testBit w := by rw [e]
    rw [Nat.testBit_and, sum_bit ws w h, decide_eq_true hw, Bool.and_true] at q
    rw [bt_test]
    exact q
  · intro q
    apply Nat.eq_of_testBit_eq
    intro k
    rw [Nat.testBit_and, sum_bit ws k h]
    by_cases hk : k ∈ ws
    · have := q k hk
      rw [bt_test] at this
      simp [hk, this]
    · simp [hk]
theorem nodup_len_le : ∀ {n : Nat} {l : List Nat}, l.Nodup → (∀ x ∈ l, x < n) → l.length ≤ n
  | 0, l, _, h => by
    cases l with
    | nil => exact Nat.le_refl _
    | cons a l => exact absurd (h a List.mem_cons_self) (Nat.not_lt_zero _)
  | n + 1, l, hn, h => by
    have q := nodup_len_le (n := n) (l := l.erase n) (hn.erase n) fun x hx => by
      have := (List.Nodup.mem_erase_iff hn).mp hx
      have := h x this.2
      omega
    by_cases hm : n ∈ l
    · rw [List.length_erase_of_mem hm] at q
      omega
    · rw [List.erase_of_not_mem hm] at q
      omega
theorem nums_pow (ws : List Nat) : nums (ws.map fun a : Nat => D.int ((2 ^ a : Nat) : Int)) = some (ws.map fun a : Nat => ((2 ^ a : Nat) : Int)) := by
  have : (ws.map fun a : Nat => D.int ((2 ^ a : Nat) : Int)) = (ws.map fun a : Nat => ((2 ^ a : Nat) : Int)).map D.int := by rw [List.map_map]; rfl
  rw [this, nums_map]
theorem sum_pow (ws : List Nat) : (ws.map fun a : Nat => ((2 ^ a : Nat) : Int)).sum = (((ws.map fun o => 2 ^ o).sum : Nat) : Int) := by
  rw [← nat_sum, List.map_map]
  rfl
def exwL (xs : Spr) (ws : List Nat) (p : Nat) : Spr := (List.range xs.length).map fun a => if (ws.all fun w => bt w a) = true then atS xs (fl p a) else atS xs a
theorem exwL_len (xs : Spr) (ws : List Nat) (p : Nat) : (exwL xs ws p).length = xs.length := by simp [exwL]
theorem mapIdx_T {xs : Spr} {F : Nat → Am → D} {G : Nat → Am} (h : ∀ k x, xs[k]? = some x → F k x = (G k).t) : xs.mapIdx F = sT ((List.range xs.length).map G) := by
  apply List.ext_getElem?
  intro k
  rw [List.getElem?_mapIdx, sT, List.getElem?_map, List.getElem?_map]
  by_cases hk : k < xs.length
  · rw [List.getElem?_range hk, List.getElem?_eq_getElem hk]
    simp only [Option.map_some]
    rw [h k _ (List.getElem?_eq_getElem hk)]
  · rw [List.getElem?_eq_none (by omega), List.getElem?_eq_none (by simp; omega)]
    rfl
/-- the order with a and b exchanged -/
def swO (n a b : Nat) : List Nat := ((List.range n).set a b).set b a
def Deed.i (x : Deed) (k : Nat) : Nat := x.ws.getD k 0
/-- what a deed leaves of a spread of n places -/
def Deed.run (n : Nat) (x : Deed) (xs : Spr) : Spr := match x.w with
  | .turn => turnL xs (x.i 0) x.t
  | .mix => mixL xs (x.i 0)
  | .sign => tieL xs (x.i 0) (x.i 1)
  | .no => exchL xs (x.i 0)
  | .swap => layL xs (swO n (x.i 0) (x.i 1))
  | .under => exwL xs [x.i 0] (x.i 1)
  | .both => exwL xs [x.i 0, x.i 1] (x.i 2)
/-- one behind another -/
def runL (n : Nat) (ds : List Deed) (xs : Spr) : Spr := ds.foldl (fun s x => x.run n s) xs
theorem cut1 (d : D) (ds : List D) : cutD (d :: ds) (some 1) none = ds := by rw [cutD_from _ (by decide)]; rfl
theorem bft : (false == true) = false := rfl
theorem btf : (true == false) = false := rfl
theorem cutL1 (a : D) : cutD [a] none (some (-1)) = [] := rfl
theorem atL1 (a : D) : atI [a] (-1) = some a := rfl
theorem cutL2 (a b : D) : cutD [a, b] none (some (-1)) = [a] := rfl
theorem cutL3 (a b c : D) : cutD [a, b, c] none (some (-1)) = [a, b] := rfl
theorem atL2 (a b : D) : atI [a, b] (-1) = some b := rfl
theorem atL3 (a b c : D) : atI [a, b, c] (-1) = some c := rfl
theorem len1 {ws : List Nat} (h : ws.length = 1) : ∃ a, ws = [a] := List.length_eq_one_iff.mp h
theorem len2 {ws : List Nat} (h : ws.length = 2) : ∃ a b, ws = [a, b] := by
  match ws, h with
  | [a, b], _ => exact ⟨a, b, rfl⟩
theorem len3 {ws : List Nat} (h : ws.length = 3) : ∃ a b c, ws = [a, b, c] := by
  match ws, h with
  | [a, b, c], _ => exact ⟨a, b, c, rfl⟩
/-- the seven kinds -/
theorem Deed.cases {n : Nat} {P : Deed → Prop} (x : Deed) (h : x.ok n) (h1 : ∀ a t, a < n → 1 ≤ t → t ≤ 7 → P ⟨.turn, [a], t⟩) (h2 : ∀ a, a < n → P ⟨.mix, [a], 0⟩) (h3 : ∀ a, a < n → P ⟨.no, [a], 0⟩)
    (h4 : ∀ a b, a < n → b < n → a ≠ b → P ⟨.sign, [a, b], 0⟩) (h5 : ∀ a b, a < n → b < n → a ≠ b → P ⟨.under, [a, b], 0⟩) (h6 : ∀ a b, a < n → b < n → a ≠ b → P ⟨.swap, [a, b], 0⟩)
    (h7 : ∀ a b c, a < n → b < n → c < n → a ≠ b → a ≠ c → b ≠ c → P ⟨.both, [a, b, c], 0⟩) : P x := by
  obtain ⟨w, ws, t⟩ := x
  obtain ⟨hl, hn, hw, ht⟩ := h
  cases w with
  | turn =>
    obtain ⟨a, rfl⟩ := len1 hl
    rw [if_pos rfl] at ht
    exact h1 a t (hw a (by simp)) ht.1 ht.2
  | mix =>
    obtain ⟨a, rfl⟩ := len1 hl
    have ht' : t = 0 := ht
    subst ht'
    exact h2 a (hw a (by simp))
  | no =>
    obtain ⟨a, rfl⟩ := len1 hl
    have ht' : t = 0 := ht
    subst ht'
    exact h3 a (hw a (by simp))
  | sign =>
    obtain ⟨a, b, rfl⟩ := len2 hl
    have ht' : t = 0 := ht
    subst ht'
    exact h4 a b (hw a (by simp)) (hw b (by simp)) (by intro e; subst e; simp at hn)
  | under =>
    obtain ⟨a, b, rfl⟩ := len2 hl
    have ht' : t = 0 := ht
    subst ht'
    exact h5 a b (hw a (by simp)) (hw b (by simp)) (by intro e; subst e; simp at hn)
  | swap =>
    obtain ⟨a, b, rfl⟩ := len2 hl
    have ht' : t = 0 := ht
    subst ht'
    exact h6 a b (hw a (by simp)) (hw b (by simp)) (by intro e; subst e; simp at hn)
  | both =>
    obtain ⟨a, b, c, rfl⟩ := len3 hl
    have ht' : t = 0 := ht
    subst ht'
    exact h7 a b c (hw a (by simp)) (hw b (by simp)) (hw c (by simp)) (by intro e; subst e; simp at hn) (by intro e; subst e; simp at hn) (by intro e; subst e; simp at hn)
theorem Deed.alts {n : Nat} {x : Deed} (h : x.ok n) : (∃ a t, x = ⟨.turn, [a], t⟩ ∧ a < n ∧ 1 ≤ t ∧ t ≤ 7) ∨ (∃ a, x = ⟨.mix, [a], 0⟩ ∧ a < n) ∨ (∃ a, x = ⟨.no, [a], 0⟩ ∧ a < n) ∨ (∃ a b, x = ⟨.sign, [a, b], 0⟩ ∧ a < n ∧ b < n ∧ a ≠ b) ∨
    (∃ a b, x = ⟨.under, [a, b], 0⟩ ∧ a < n ∧ b < n ∧ a ≠ b) ∨ (∃ a b, x = ⟨.swap, [a, b], 0⟩ ∧ a < n ∧ b < n ∧ a ≠ b) ∨ (∃ a b c, x = ⟨.both, [a, b, c], 0⟩ ∧ a < n ∧ b < n ∧ c < n ∧ a ≠ b ∧ a ≠ c ∧ b ≠ c) :=
  Deed.cases (P := fun x => (∃ a t, x = ⟨.turn, [a], t⟩ ∧ a < n ∧ 1 ≤ t ∧ t ≤ 7) ∨ (∃ a, x = ⟨.mix, [a], 0⟩ ∧ a < n) ∨ (∃ a, x = ⟨.no, [a], 0⟩ ∧ a < n) ∨ (∃ a b, x = ⟨.sign, [a, b], 0⟩ ∧ a < n ∧ b < n ∧ a ≠ b) ∨
    (∃ a b, x = ⟨.under, [a, b], 0⟩ ∧ a < n ∧ b < n ∧ a ≠ b) ∨ (∃ a b, x = ⟨.swap, [a, b], 0⟩ ∧ a < n ∧ b < n ∧ a ≠ b) ∨ (∃ a b c, x = ⟨.both, [a, b, c], 0⟩ ∧ a < n ∧ b < n ∧ c < n ∧ a ≠ b ∧ a ≠ c ∧ b ≠ c)) x h
    (fun a t h1 h2 h3 => .inl ⟨a, t, rfl, h1, h2, h3⟩) (fun a h1 => .inr (.inl ⟨a, rfl, h1⟩)) (fun a h1 => .inr (.inr (.inl ⟨a, rfl, h1⟩))) (fun a b h1 h2 h3 => .inr (.inr (.inr (.inl ⟨a, b, rfl, h1, h2, h3⟩))))
    (fun a b h1 h2 h3 => .inr (.inr (.inr (.inr (.inl ⟨a, b, rfl, h1, h2, h3⟩))))) (fun a b h1 h2 h3 => .inr (.inr (.inr (.inr (.inr (.inl ⟨a, b, rfl, h1, h2, h3⟩)))))) (fun a b c h1 h2 h3 h4 h5 h6 => .inr (.inr (.inr (.inr (.inr (.inr ⟨a, b, c, rfl, h1, h2, h3, h4, h5, h6⟩))))))
/-! ### deeds leave something; deeds of multiples -/
theorem nz_map {xs : Spr} {f : Nat → Am} (h : (xs.map Am.nz).any id = true) (hf : ∀ a, a < xs.length → (atS xs a).nz = true → ∃ b, b < xs.length ∧ (f b).nz = true) : (((List.range xs.length).map f).map Am.nz).any id = true := by
  obtain ⟨a, ha, e⟩ := any_nz.mp h
  obtain ⟨b, hb, e2⟩ := hf a ha e
  refine any_nz.mpr ⟨b, by simpa using hb, ?_⟩
  rw [mk_at (xs := xs) hb]
  exact e2
theorem bt_flne {p k : Nat} (h : k ≠ p) (a : Nat) : bt k (fl p a) = bt k a := by
  rw [bt_test, bt_test, fl_xor, Nat.testBit_xor, Nat.testBit_two_pow]
  have : decide (p = k) = false := decide_eq_false (Ne.symm h)
  rw [this, Bool.xor_false]
def swp (a b k : Nat) : Nat := if k = a then b else if k = b then a else k
theorem swp_swp (a b k : Nat) : swp a b (swp a b k) = k := by
  unfold swp
  repeat' split
  all_goals omega
theorem swO_get {n a b i : Nat} (ha : a < n) (hb : b < n) (hi : i < n) : (swO n a b)[i]? = some (swp a b i) := by
  unfold swO swp
  rw [List.getElem?_set, List.getElem?_set, List.length_set, List.length_range, List.getElem?_range hi]
  by_cases h1 : b = i
  · rw [if_pos h1, if_pos hb]
    by_cases h2 : i = a
    · rw [if_pos h2]; congr 1; omega
    · rw [if_neg h2, if_pos h1.symm]
  · rw [if_neg h1]
    by_cases h2 : a = i
    · rw [if_pos h2, if_pos ha, if_pos h2.symm]
    · rw [if_neg h2, if_neg (fun e => h2 e.symm), if_neg (fun e => h1 e.symm)]
theorem swO_len (n a b : Nat) : (swO n a b).length = n := by simp [swO]
theorem swO_nd (n a b : Nat) (ha : a < n) (hb : b < n) : (swO n a b).Nodup := by
  unfold swO
  refine List.pairwise_iff_getElem.mpr fun i j hi hj hij => ?_
  rw [List.length_set, List.length_set, List.length_range] at hi hj
  simp only [List.getElem_set, List.getElem_range]
  repeat' split
  all_goals omega
theorem swO_lt {n a b : Nat} (ha : a < n) (hb : b < n) : ∀ o ∈ swO n a b, o < n := by
  intro o ho
  unfold swO at ho
  rcases List.mem_or_eq_of_mem_set ho with h | h
  · rcases List.mem_or_eq_of_mem_set h with h | h
    · exact List.mem_range.mp h
    · omega
  · omega
/-- which bits a laid number has -/
theorem layIx_bit {os : List Nat} (h : os.Nodup) (a k : Nat) : ((layIx os a).testBit k = true) ↔ (∃ i : Nat, os[i]? = some k ∧ bt i a = true) := by
  unfold layIx
  have e : ((os.zipIdx.filter fun p => bt p.2 a).map fun p => 2 ^ p.1) = ((os.zipIdx.filter fun p => bt p.2 a).map fun p => p.1).map fun o => 2 ^ o := by rw [List.map_map]; rfl
  have hz : (os.zipIdx.map fun p => p.1) = os := by
    have := List.zipIdx_map_fst 0 os
    exact this
  have nd : ((os.zipIdx.filter fun p => bt p.2 a).map fun p => p.1).Nodup := by
    have s : ((os.zipIdx.filter fun p => bt p.2 a).map fun p => p.1).Sublist (os.zipIdx.map fun p => p.1) := List.Sublist.map _ List.filter_sublist
    rw [hz] at s
    exact h.sublist s
  rw [e, sum_bit _ k nd, decide_eq_true_eq, List.mem_map]
  constructor
  · rintro ⟨⟨o, i⟩, hm, rfl⟩
    rw [List.mem_filter, List.mem_zipIdx_iff_getElem?] at hm
    exact ⟨i, hm.1, hm.2⟩
  · rintro ⟨i, hi, hb⟩
    exact ⟨(k, i), by rw [List.mem_filter, List.mem_zipIdx_iff_getElem?]; exact ⟨hi, hb⟩, rfl⟩
theorem sw_bit {n a b k : Nat} (ha : a < n) (hb : b < n) (hk : k < n) (i : Nat) : bt k (layIx (swO n a b) i) = bt (swp a b k) i := by
  have hL := layIx_bit (swO_nd n a b ha hb) i k
  rw [bt_test k]
  have hs : swp a b k < n := by unfold swp; split <;> (try split) <;> omega
  by_cases hbit : bt (swp a b k) i = true
  · rw [hbit]
    exact hL.mpr ⟨swp a b k, by rw [swO_get ha hb hs, swp_swp], hbit⟩
  · have : bt (swp a b k) i = false := by simpa using hbit
    rw [this]
    cases ht : (layIx (swO n a b) i).testBit k with
    | false => rfl
    | true =>
    exfalso
    obtain ⟨j, hj, hb2⟩ := hL.mp ht
    have hjn : j < n := by
      have := (List.getElem?_eq_some_iff.mp hj).1
      rwa [swO_len] at this
    rw [swO_get ha hb hjn] at hj
    have : swp a b j = k := Option.some.inj hj
    rw [← this, swp_swp] at hbit
    exact hbit hb2
theorem lt_bits {n x y : Nat} (hx : x < 2 ^ n) (hy : y < 2 ^ n) (h : ∀ k, k < n → bt k x = bt k y) : x = y := by
  apply Nat.eq_of_testBit_eq
  intro k
  by_cases hk : k < n
  · have := h k hk
    rwa [bt_test, bt_test] at this
  · rw [Nat.testBit_lt_two_pow (Nat.lt_of_lt_of_le hx (Nat.pow_le_pow_right (by decide) (by omega))), Nat.testBit_lt_two_pow (Nat.lt_of_lt_of_le hy (Nat.pow_le_pow_right (by decide) (by omega)))]
theorem sw_sw {n a b x : Nat} (ha : a < n) (hb : b < n) (hx : x < 2 ^ n) : layIx (swO n a b) (layIx (swO n a b) x) = x := by
  have l : ∀ y, layIx (swO n a b) y < 2 ^ n := fun y => layIx_lt (swO_nd n a b ha hb) (swO_lt ha hb)
  refine lt_bits (l _) hx fun k hk => ?_
  have hs : swp a b k < n := by unfold swp; split <;> (try split) <;> omega
  rw [sw_bit ha hb hk, sw_bit ha hb hs, swp_swp]
theorem exw_nz {xs : Spr} {n p : Nat} {ws : List Nat} (w : xs.W n) (hp : p < n) (hw : ∀ a ∈ ws, a ≠ p) : ((exwL xs ws p).map Am.nz).any id = true := by
  refine nz_map w.nz fun a ha e => ?_
  have hc : ∀ x, (ws.all fun w => bt w (fl p x)) = (ws.all fun w => bt w x) := fun x => by
    have : ∀ l : List Nat, (∀ a ∈ l, a ≠ p) → (l.all fun w => bt w (fl p x)) = (l.all fun w => bt w x) := by
      intro l
      induction l with
      | nil => intro _; rfl
      | cons y l ih =>
        intro h
        rw [List.all_cons, List.all_cons, bt_flne (h y List.mem_cons_self), ih fun a ha => h a (List.mem_cons_of_mem _ ha)]
    exact this ws hw
  have hf : fl p a < xs.length := by rw [w.len] at ha ⊢; exact fl_lt hp ha
  by_cases h : (ws.all fun w => bt w a) = true
  · exact ⟨fl p a, hf, by rw [hc, if_pos h, fl_fl]; exact e⟩
  · exact ⟨a, ha, by rw [if_neg h]; exact e⟩
theorem Deed.run_W {n : Nat} {x : Deed} {xs : Spr} (hx : x.ok n) (w : xs.W n) : (x.run n xs).W n := by
  rcases Deed.alts hx with ⟨a, t, rfl, h1, h2, h3⟩ | ⟨a, rfl, h1⟩ | ⟨a, rfl, h1⟩ | ⟨a, b, rfl, h1, h2, h3⟩ | ⟨a, b, rfl, h1, h2, h3⟩ | ⟨a, b, rfl, h1, h2, h3⟩ | ⟨a, b, c, rfl, h1, h2, h3, h4, h5, h6⟩
  all_goals simp only [Deed.run, Deed.i, List.getD_cons_zero, List.getD_cons_succ]
  · exact w.turn _ _
  · exact w.mix h1
  · exact w.exch h1
  · exact w.tie _ _
  · exact ⟨by rw [exwL_len, w.len], w.few, exw_nz w h2 (by intro z hz; rw [List.mem_singleton.mp hz]; exact h3)⟩
  · refine ⟨by rw [layL_len, w.len], w.few, nz_map w.nz fun i hi e => ⟨layIx (swO n a b) i, by rw [w.len]; exact layIx_lt (swO_nd n a b h1 h2) (swO_lt h1 h2), by rw [sw_sw h1 h2 (by rw [← w.len]; exact hi)]; exact e⟩⟩
  · refine ⟨by rw [exwL_len, w.len], w.few, exw_nz w h3 (by
      intro z hz
      simp only [List.mem_cons, List.not_mem_nil, or_false] at hz
      rcases hz with rfl | rfl
      · exact h5
      · exact h6)⟩
theorem SB.run {n m : Nat} {x : Deed} {xs : Spr} (b : SB m xs) : SB (m + 1) (x.run n xs) := by
  have b1 : SB (m + 1) xs := fun y hy => (b y hy).mono (by omega)
  unfold Deed.run
  cases x.w with
  | turn =>
    exact SB.mk fun i => by
      split
      · exact (b1.at i).tn _
      · exact b1.at i
  | mix =>
    exact SB.mk fun i => by
      split
      · exact (b.at _).add (b.at _).neg
      · exact (b.at _).add (b.at _)
  | sign => exact b1.tie _ _
  | no => exact b1.exch _
  | under =>
    exact SB.mk fun i => by
      split <;> exact b1.at _
  | swap => exact SB.mk fun i => b1.at _
  | both =>
    exact SB.mk fun i => by
      split <;> exact b1.at _
theorem runL_ok {n : Nat} : ∀ {ds : List Deed} {xs : Spr} {m : Nat}, (∀ x ∈ ds, x.ok n) → xs.W n → SB m xs → (runL n ds xs).W n ∧ SB (m + ds.length) (runL n ds xs)
  | [], xs, m, _, w, b => ⟨w, b⟩
  | x :: ds, xs, m, h, w, b => by
    have q := runL_ok (ds := ds) (xs := x.run n xs) (m := m + 1) (fun y hy => h y (List.mem_cons_of_mem _ hy)) (Deed.run_W (h x List.mem_cons_self) w) b.run
    refine ⟨q.1, ?_⟩
    rw [List.length_cons, show m + (ds.length + 1) = m + 1 + ds.length by omega]
    exact q.2
theorem map_mul {n : Nat} {f g : Nat → Am} {b : Am} (h : ∀ a, f a = (g a).mul b) : (List.range n).map f = mulL ((List.range n).map g) b := by
  unfold mulL
  rw [List.map_map]
  exact List.map_congr_left fun a _ => h a
theorem Am.neg_mul (x y : Am) : x.neg.mul y = (x.mul y).neg := by
  apply Am.ext' <;> simp only [Am.mul, Am.neg] <;> grind
theorem run_mul (n : Nat) (x : Deed) (xs : Spr) (b : Am) : x.run n (mulL xs b) = mulL (x.run n xs) b := by
  unfold Deed.run
  cases x.w with
  | turn =>
    unfold turnL
    rw [mulL_len]
    refine map_mul fun a => ?_
    rw [atS_mul]
    split
    · rw [Am.tn_mul]
    · rfl
  | mix =>
    unfold mixL
    rw [mulL_len]
    refine map_mul fun a => ?_
    rw [atS_mul, atS_mul]
    split
    · rw [Am.add_mul, Am.neg_mul]
    · rw [Am.add_mul]
  | sign =>
    unfold tieL
    rw [mulL_len]
    refine map_mul fun a => ?_
    rw [atS_mul]
    split
    · rw [Am.neg_mul]
    · rfl
  | no =>
    unfold exchL
    rw [mulL_len]
    refine map_mul fun a => ?_
    rw [atS_mul]
  | swap =>
    unfold layL
    rw [mulL_len]
    refine map_mul fun a => ?_
    rw [atS_mul]
  | under =>
    unfold exwL
    rw [mulL_len]
    refine map_mul fun a => ?_
    rw [atS_mul, atS_mul]
    split <;> rfl
  | both =>
    unfold exwL
    rw [mulL_len]
    refine map_mul fun a => ?_
    rw [atS_mul, atS_mul]
    split <;> rfl
theorem runL_mul (n : Nat) (b : Am) : ∀ (ds : List Deed) (xs : Spr), runL n ds (mulL xs b) = mulL (runL n ds xs) b
  | [], _ => rfl
  | x :: ds, xs => by
    show runL n ds (x.run n (mulL xs b)) = mulL (runL n ds (x.run n xs)) b
    rw [run_mul]
    exact runL_mul n b ds _
theorem run_len (n : Nat) (x : Deed) (xs : Spr) : (x.run n xs).length = xs.length := by
  unfold Deed.run
  cases x.w <;> first | exact turnL_len _ _ _ | exact mixL_len _ _ | exact tieL_len _ _ _ | exact exchL_len _ _ | exact layL_len _ _ | exact exwL_len _ _ _
/-- from where an amount comes -/
def Deed.fr (x : Deed) (k : Nat) : Nat := match x.w with
  | .swap => if bt (x.i 0) k = bt (x.i 1) k then k else fl (x.i 1) (fl (x.i 0) k)
  | .no => fl (x.i 0) k
  | .under => if bt (x.i 0) k = true then fl (x.i 1) k else k
  | .both => if (bt (x.i 0) k && bt (x.i 1) k) = true then fl (x.i 2) k else k
  | _ => k
theorem sw_fr {n a b k : Nat} (ha : a < n) (hb : b < n) (hab : a ≠ b) (hk : k < 2 ^ n) : layIx (swO n a b) k = if bt a k = bt b k then k else fl b (fl a k) := by
  have hr : (if bt a k = bt b k then k else fl b (fl a k)) < 2 ^ n := by
    split
    · exact hk
    · exact fl_lt hb (fl_lt ha hk)
  refine lt_bits (layIx_lt (swO_nd n a b ha hb) (swO_lt ha hb)) hr fun j hj => ?_
  rw [sw_bit ha hb hj]
  unfold swp
  by_cases e : bt a k = bt b k
  · rw [if_pos e]
    split
    · rename_i h; subst h; exact e.symm
    · split
      · rename_i h; subst h; exact e
      · rfl
  · rw [if_neg e]
    by_cases h1 : j = a
    · subst h1
      rw [if_pos rfl, bt_flne hab, bt_self]
      cases h2 : bt j k <;> cases h3 : bt b k <;> simp_all
    · rw [if_neg h1]
      by_cases h2 : j = b
      · subst h2
        rw [if_pos rfl, bt_self, bt_flne h1]
        cases h2 : bt a k <;> cases h3 : bt j k <;> simp_all
      · rw [if_neg h2, bt_flne h2, bt_flne h1]
/-- the amount at a place behind a deed -/
def Deed.at (x : Deed) (xs : Spr) (k : Nat) : Am := match x.w with
  | .turn => if bt (x.i 0) k = true then Am.tn x.t (atS xs k) else atS xs k
  | .sign => if (bt (x.i 0) k && bt (x.i 1) k) = true then (atS xs k).neg else atS xs k
  | .mix => if bt (x.i 0) k = true then (atS xs (fl (x.i 0) k)).add (atS xs k).neg else (atS xs k).add (atS xs (fl (x.i 0) k))
  | _ => atS xs (x.fr k)
theorem Deed.run_get {n k : Nat} {x : Deed} {xs : Spr} (hx : x.ok n) (w : xs.length = 2 ^ n) (hk : k < xs.length) : (x.run n xs)[k]? = some (x.at xs k) := by
  have g : ∀ f : Nat → Am, ((List.range xs.length).map f)[k]? = some (f k) := fun f => by rw [List.getElem?_map, List.getElem?_range hk]; rfl
  rcases Deed.alts hx with ⟨a, t, rfl, h1, h2, h3⟩ | ⟨a, rfl, h1⟩ | ⟨a, rfl, h1⟩ | ⟨a, b, rfl, h1, h2, h3⟩ | ⟨a, b, rfl, h1, h2, h3⟩ | ⟨a, b, rfl, h1, h2, h3⟩ | ⟨a, b, c, rfl, h1, h2, h3, h4, h5, h6⟩
  all_goals simp only [Deed.run, Deed.at, Deed.fr, Deed.i, List.getD_cons_zero, List.getD_cons_succ]
  · rw [turnL, g]
    by_cases hb : k / 2 ^ a % 2 = 1
    · have : bt a k = true := decide_eq_true hb
      rw [if_pos hb, if_pos this]
    · have : ¬ bt a k = true := fun z => hb (of_decide_eq_true z)
      rw [if_neg hb, if_neg this]
  · rw [mixL, g]
  · rw [exchL, g]
  · rw [tieL, g]
  · rw [exwL, g]
    simp only [List.all_cons, List.all_nil, Bool.and_true]
    split <;> rfl
  · rw [layL, g, sw_fr h1 h2 h3 (by rw [← w]; exact hk)]
  · rw [exwL, g]
    simp only [List.all_cons, List.all_nil, Bool.and_true]
    split <;> rfl
theorem Deed.fr_lt {n k : Nat} {x : Deed} (hx : x.ok n) (hk : k < 2 ^ n) : x.fr k < 2 ^ n := by
  rcases Deed.alts hx with ⟨a, t, rfl, h1, h2, h3⟩ | ⟨a, rfl, h1⟩ | ⟨a, rfl, h1⟩ | ⟨a, b, rfl, h1, h2, h3⟩ | ⟨a, b, rfl, h1, h2, h3⟩ | ⟨a, b, rfl, h1, h2, h3⟩ | ⟨a, b, c, rfl, h1, h2, h3, h4, h5, h6⟩
  all_goals simp only [Deed.fr, Deed.i, List.getD_cons_zero, List.getD_cons_succ]
  · exact hk
  · exact hk
  · exact fl_lt h1 hk
  · exact hk
  · split
    · exact fl_lt h2 hk
    · exact hk
  · split
    · exact hk
    · exact fl_lt h2 (fl_lt h1 hk)
  · split
    · exact fl_lt h3 hk
    · exact hk
structure DdI where
  xs : Spr
  n : Nat
  x : Deed
theorem Am.B.dv {n : Nat} {x : Am} (h : x.B n) (g : Int) : (x.dv g).B n := by
  have q : ∀ u : Int, Bd n u → Bd n (u / g) := fun u hu => Nat.lt_of_le_of_lt (Int.natAbs_ediv_le_natAbs u g) hu
  exact ⟨q _ h.a, q _ h.b, q _ h.c, q _ h.d⟩
theorem fzL_B {n : Nat} {xs : Spr} (h : SB n xs) (h2 : (xs.map Am.nz).any id = true) : (fzL xs).B n := by
  obtain ⟨f1, _, _⟩ := fz_mem h2
  exact h _ f1
theorem SB.plain {n : Nat} {xs : Spr} (h : SB n xs) (h2 : (xs.map Am.nz).any id = true) : SB (4 * n + 9) (plainL xs) := fun y hy => by
  unfold plainL byL at hy
  obtain ⟨z, hz, rfl⟩ := List.mem_map.mp hy
  obtain ⟨x, hx, rfl⟩ := List.mem_map.mp hz
  exact ((((h x hx).mul (fzL_B h h2).oth)).mono (by omega)).dv _
theorem RX.ints {n : Nat} {ns : List Int} (h : ∀ i ∈ ns, Bd n i) (hn : n ≤ 1920) (h0 : 1 ≤ n) : RXL (n + 1) ((n + 1) * ns.length) 0 (ns.map .int) := by
  have := RXL.all (m := n + 1) (w := n) (k := 0) (ds := ns.map .int) fun d hd => by
    obtain ⟨i, hi, rfl⟩ := List.mem_map.mp hd
    exact RX.int (h i hi) (Nat.le_refl _) (Nat.le_refl _) hn h0
  rwa [List.length_map] at this
theorem RX.ads {n : Nat} {x : Am} (h : x.B n) (hn : n ≤ 1920) (h0 : 1 ≤ n) : RXL (n + 1) ((n + 1) * 4) 0 x.ds := RX.ints (ns := [x.a, x.b, x.c, x.d]) (by
  intro i hi
  simp only [List.mem_cons, List.not_mem_nil, or_false] at hi
  rcases hi with rfl | rfl | rfl | rfl
  · exact h.a
  · exact h.b
  · exact h.c
  · exact h.d) hn h0
theorem RX.spr {n : Nat} {xs : Spr} (h : SB n xs) (hn : n ≤ 1920) (h0 : 1 ≤ n) : RXL (n + 1) (((n + 1) * 4 + 1) * xs.length) 1 (sT xs) := by
  have := RXL.all (m := n + 1) (w := (n + 1) * 4) (k := 1) (ds := sT xs) fun d hd => by
    obtain ⟨x, hx, rfl⟩ := List.mem_map.mp hd
    exact RX.tup (RX.ads (h x hx) hn h0)
  rwa [sT, List.length_map] at this
/-- a spread as lists -/
def sL (xs : Spr) : List D := xs.map fun x => .lst x.ds
theorem RX.sprL {n : Nat} {xs : Spr} (h : SB n xs) (hn : n ≤ 1920) (h0 : 1 ≤ n) : RXL (n + 1) (((n + 1) * 4 + 1) * xs.length) 1 (sL xs) := by
  have := RXL.all (m := n + 1) (w := (n + 1) * 4) (k := 1) (ds := sL xs) fun d hd => by
    obtain ⟨x, hx, rfl⟩ := List.mem_map.mp hd
    exact RX.lst (RX.ads (h x hx) hn h0)
  rwa [sL, List.length_map] at this
theorem rx_t {n l : Nat} {xs : Spr} (h : SB n xs) (hl : xs.length ≤ l) (h7 : 7 ≤ n) (hn : n ≤ 1920) (hw : (n + 1 + 2) * (((n + 1) * 4 + 1) * l) + (n + 1) ≤ 16000000) (cs : Sto) : reprX cs (.tup (sT xs)) = some (True, shX (.tup (sT xs))) :=
  reprX_ok (RX.tup ((RX.spr h hn (by omega)).mono (Nat.mul_le_mul_left _ hl) (Nat.le_refl _))) (by omega) hw (by decide)
theorem rx_l {n l : Nat} {xs : Spr} (h : SB n xs) (hl : xs.length ≤ l) (h7 : 7 ≤ n) (hn : n ≤ 1920) (hw : (n + 1 + 2) * (((n + 1) * 4 + 1) * l) + (n + 1) ≤ 16000000) (cs : Sto) : reprX cs (.lst (sL xs)) = some (True, shX (.lst (sL xs))) :=
  reprX_ok (RX.lst ((RX.sprL h hn (by omega)).mono (Nat.mul_le_mul_left _ hl) (Nat.le_refl _))) (by omega) hw (by decide)
theorem alls_L {cs : Sto} : ∀ xs : Spr, Alls cs (sL xs) xs
  | [] => trivial
  | x :: xs => ⟨rfl, alls_L xs⟩
theorem RX.wd (v : Wd) : RX 8 5 0 (.str v.s) := by
  cases v
  · exact RX.str (chars_small "turn") (by decide)
  · exact RX.str (chars_small "mix") (by decide)
  · exact RX.str (chars_small "not") (by decide)
  · exact RX.str (chars_small "sign") (by decide)
  · exact RX.str (chars_small "under") (by decide)
  · exact RX.str (chars_small "swap") (by decide)
  · exact RX.str (chars_small "both") (by decide)
theorem Deed.rx {x : Deed} {n : Nat} (h : x.ok n) (hn : n ≤ 100) : RX 8 35 1 x.d := by
  have b7 : ∀ a : Nat, a < 128 → RX 8 7 0 (.int a) := fun a ha => RX.int (n := 7) (by unfold Bd; rw [Int.natAbs_natCast]; exact ha) (by decide) (by decide) (by decide) (by decide)
  have hl := Deed.ds_len h
  have hw := x.w.n_le
  have ht := h.t
  have hl2 : x.ds.length ≤ 4 := by
    rw [hl]
    by_cases hb : x.w = .turn
    · rw [if_pos hb, hb]
      decide
    · rw [if_neg hb]
      omega
  have := RXL.all (m := 8) (w := 7) (k := 0) (ds := x.ds) fun d hd => by
    unfold Deed.ds Deed.tl at hd
    rcases List.mem_cons.mp hd with rfl | hd
    · exact (RX.wd x.w).mono (by decide) (Nat.le_refl _)
    · rcases List.mem_append.mp hd with hd | hd
      · obtain ⟨a, ha, rfl⟩ := List.mem_map.mp hd
        have := h.lt a ha
        exact b7 a (by omega)
      · by_cases hb : x.w = .turn
        · rw [if_pos hb] at hd ht
          rw [List.mem_singleton.mp hd]
          exact b7 x.t (by omega)
        · rw [if_neg hb] at hd
          cases hd
  exact (RX.tup this).mono (by omega) (Nat.le_refl _)
theorem rx_deeds {n : Nat} {xs : List Deed} (h : ∀ x ∈ xs, x.ok n) (hn : n ≤ 100) (hl : xs.length ≤ 200) (cs : Sto) : reprX cs (.tup (dL xs)) = some (True, shX (.tup (dL xs))) := by
  have := RXL.all (m := 8) (w := 35) (k := 1) (ds := dL xs) fun d hd => by
    obtain ⟨x, hx, rfl⟩ := List.mem_map.mp hd
    exact Deed.rx (h x hx) hn
  rw [dL, List.length_map] at this
  exact reprX_ok (RX.tup (this.mono (w' := 36 * 200) (by omega) (Nat.le_refl _))) (by decide) (by decide) (by decide)
/-! ### values of all kinds -/
def kd : D → Bool
  | .non | .bl _ | .int _ | .str _ | .tup _ | .lst _ | .dic _ => true
  | _ => false
def isIntD : D → Bool
  | .int _ => true
  | _ => false
def geO (v : Int) : Option Int → Bool
  | none => true
  | some a => decide (a ≤ v)
def leO (v : Int) : Option Int → Bool
  | none => true
  | some b => decide (v ≤ b)
def withinD (d : D) (lo hi : Option Int) : Bool := match d with
  | .int v => geO v lo && leO v hi
  | _ => false
def isSeqD : D → Bool
  | .tup _ | .lst _ => true
  | _ => false
def itemsD : D → List D
  | .tup ds => ds
  | .lst ds => ds
  | _ => []
theorem seq_items {d : D} (cs : Sto) (h : isSeqD d = true) : seqOf cs d = some (itemsD d) := by
  cases d <;> first | rfl | cases h
theorem isi_noseq {d : D} {cs : Sto} (k : kd d = true) (h : isSeqD d = false) : isiD cs [d, .tup [.ty "list", .ty "tuple"]] = some false := by
  cases d with
  | tup ds => cases h
  | lst ds => cases h
  | ty n => cases k
  | ref a => cases k
  | obj C fs => cases k
  | cell j => cases k
  | scr ns => cases k
  | err C fs => cases k
  | non => exact kB_non_lt
  | bl b => exact kB_bool_lt
  | int i => exact kB_int_lt
  | str x => exact kB_str_lt
  | dic ks => exact kB_dic_lt
def amountD (d : D) : Bool := isSeqD d && (decide ((itemsD d).length = 4) && (itemsD d).all isIntD)
def kd1 (d : D) : Prop := kd d = true ∧ ∀ e ∈ itemsD d, kd e = true
theorem all_map {α : Type} (f : α → Bool) (xs : List α) : (xs.map f).all id = xs.all f := by
  rw [List.all_map]
  rfl
theorem any_map {α : Type} (f : α → Bool) (xs : List α) : (xs.map f).any id = xs.any f := by
  rw [List.any_map]
  rfl
theorem map_bl {α : Type} (f : α → Bool) (xs : List α) : xs.map (fun e => D.bl (f e)) = (xs.map f).map D.bl := by
  rw [List.map_map]
  rfl
theorem filter_em {α : Type} (f : α → Bool) : ∀ xs : List α, (xs.filter fun e => !f e).isEmpty = xs.all f
  | [] => rfl
  | x :: xs => by
    rw [List.filter_cons, List.all_cons]
    cases h : f x with
    | true => simpa using filter_em f xs
    | false => simp
def pows : List Int := [1, 2, 4, 8, 16, 32, 64, 128, 256, 512, 1024, 2048, 4096]
def kd2 (d : D) : Prop := kd1 d ∧ (∀ e ∈ itemsD d, kd1 e) 
def nzD (d : D) : Bool := (itemsD d).any fun e => match e with
  | .int n => n != 0
  | _ => false
def spreadD (d : D) : Bool := isSeqD d && (decide (((itemsD d).length : Int) ∈ pows) && ((itemsD d).all amountD && (itemsD d).any nzD))
theorem ints_of : ∀ ds : List D, ds.all isIntD = true → ∃ ns : List Int, ds = ns.map D.int
  | [], _ => ⟨[], rfl⟩
  | d :: ds, h => by
    rw [List.all_cons, Bool.and_eq_true] at h
    obtain ⟨ns, e⟩ := ints_of ds h.2
    cases d with
    | int i => exact ⟨i :: ns, by rw [e]; rfl⟩
    | _ => cases h.1
theorem amount_ints {e : D} (cs : Sto) (h : amountD e = true) : ∃ ns : List Int, seqOf cs e = some (ns.map D.int) ∧ nzD e = ns.any (fun x => x != 0) ∧ ns.length = 4 := by
  unfold amountD at h
  rw [Bool.and_eq_true, Bool.and_eq_true] at h
  obtain ⟨ns, q⟩ := ints_of _ h.2.2
  have h4 := of_decide_eq_true h.2.1
  rw [q, List.length_map] at h4
  refine ⟨ns, by rw [seq_items cs h.1, q], ?_, h4⟩
  unfold nzD
  rw [q, List.any_map]
  rfl
theorem pm_filter {α : Type} (f : α → Bool) (xs : List α) : (!(xs.filter f).isEmpty) = xs.any f := by
  induction xs with
  | nil => rfl
  | cons x xs ih =>
    rw [List.filter_cons, List.any_cons]
    cases h : f x with
    | true => simp
    | false => simpa using ih
theorem nz4 (a b c f : Int) : [a, b, c, f].any (fun x => x != 0) = !decide ([a, b, c, f] = [0, 0, 0, 0]) := by
  rw [Bool.eq_iff_iff]
  simp only [List.any_cons, List.any_nil, Bool.or_false, Bool.or_eq_true, bne_iff_ne, Bool.not_eq_true', decide_eq_false_iff_not, List.cons.injEq, and_true]
  omega
def nnD (e : D) : Bool := withinD e (some 0) none
def intsD (ds : List D) : List Int := ds.filterMap intD
def lotD (d : D) : Bool := isSeqD d && ((itemsD d).all nnD && decide (intsD (itemsD d)).Nodup)
theorem intsD_map : ∀ ns : List Int, intsD (ns.map D.int) = ns
  | [] => rfl
  | n :: ns => by
    have := intsD_map ns
    unfold intsD at this ⊢
    rw [List.map_cons, List.filterMap_cons]
    simp only [intD, this]
theorem nn_int {ds : List D} (h : ds.all nnD = true) : ds.all isIntD = true := by
  rw [List.all_eq_true] at h ⊢
  intro x hx
  have := h x hx
  cases x <;> first | rfl | (simp [nnD, withinD] at this)
theorem dnum_dec (ns : List Int) : decide ((dnum ns : Int) = (ns.length : Int)) = decide ns.Nodup := by
  by_cases h : ns.Nodup
  · rw [decide_eq_true h, decide_eq_true (by rw [dnum_nodup h])]
  · rw [decide_eq_false h, decide_eq_false (fun e => h (nodup_dnum (by omega)))]
theorem dup_nodup (ns : List Int) : ∀ (xs pre : List Int), pre.Nodup → ns = pre ++ xs → (enf (fun k x => decide (x ∈ ns.take k)) (fun _ x => D.int x) pre.length xs).isEmpty = decide ns.Nodup
  | [], pre, h, e => by
    rw [List.append_nil] at e
    rw [e, decide_eq_true h]
    rfl
  | x :: xs, pre, h, e => by
    have et : ns.take pre.length = pre := by rw [e, List.take_left' rfl]
    unfold enf
    simp only [et]
    by_cases hx : x ∈ pre
    · rw [decide_eq_true hx, if_pos rfl, decide_eq_false (fun hn => ?_)]
      · rfl
      · rw [e] at hn
        exact (List.nodup_append.mp hn).2.2 x hx x List.mem_cons_self rfl
    · rw [decide_eq_false hx, if_neg (by simp), List.nil_append]
      have hn : (pre ++ [x]).Nodup := by
        rw [List.nodup_append]
        refine ⟨h, by simp, fun a ha b hb => ?_⟩
        rw [List.mem_singleton.mp hb]
        exact fun e => hx (by rw [← e]; exact ha)
      have q := dup_nodup ns xs (pre ++ [x]) hn (by rw [e]; simp)
      rw [List.length_append] at q
      exact q
def three (a b c : Nat) : List Deed := [⟨.mix, [c], 0⟩, ⟨.turn, [a], 1⟩, ⟨.turn, [b], 1⟩, ⟨.turn, [c], 1⟩, ⟨.under, [a, b], 0⟩, ⟨.turn, [b], 7⟩, ⟨.under, [b, c], 0⟩, ⟨.turn, [c], 1⟩, ⟨.under, [a, c], 0⟩, ⟨.turn, [c], 7⟩, ⟨.under, [b, c], 0⟩, ⟨.turn, [c], 7⟩, ⟨.under, [a, c], 0⟩, ⟨.under, [a, b], 0⟩, ⟨.mix, [c], 0⟩]
def Deed.led (x : Deed) : List Deed := match x.w with
  | .no => [⟨.mix, [x.i 0], 0⟩, ⟨.turn, [x.i 0], 4⟩, ⟨.mix, [x.i 0], 0⟩]
  | .under => [⟨.mix, [x.i 1], 0⟩, ⟨.sign, [x.i 0, x.i 1], 0⟩, ⟨.mix, [x.i 1], 0⟩]
  | .swap => [⟨.under, [x.i 0, x.i 1], 0⟩, ⟨.under, [x.i 1, x.i 0], 0⟩, ⟨.under, [x.i 0, x.i 1], 0⟩]
  | .both => three (x.i 0) (x.i 1) (x.i 2)
  | _ => [x]
theorem led_ok {n : Nat} {x : Deed} (hx : x.ok n) : ∀ y ∈ x.led, y.ok n := by
  have o1 : ∀ (a t : Nat), a < n → 1 ≤ t → t ≤ 7 → Deed.ok ⟨.turn, [a], t⟩ n := fun a t h h1 h2 => ⟨rfl, by simp, by simpa using h, by rw [if_pos rfl]; exact ⟨h1, h2⟩⟩
  have o2 : ∀ a : Nat, a < n → Deed.ok ⟨.mix, [a], 0⟩ n := fun a h => ⟨rfl, by simp, by simpa using h, (show (0 : Nat) = 0 from rfl)⟩
  have o3 : ∀ a b : Nat, a < n → b < n → a ≠ b → Deed.ok ⟨.sign, [a, b], 0⟩ n := fun a b h1 h2 h3 => ⟨rfl, by simpa using h3, by simpa using ⟨h1, h2⟩, (show (0 : Nat) = 0 from rfl)⟩
  have o4 : ∀ a b : Nat, a < n → b < n → a ≠ b → Deed.ok ⟨.under, [a, b], 0⟩ n := fun a b h1 h2 h3 => ⟨rfl, by simpa using h3, by simpa using ⟨h1, h2⟩, (show (0 : Nat) = 0 from rfl)⟩
  rcases Deed.alts hx with ⟨a, t, rfl, h1, h2, h3⟩ | ⟨a, rfl, h1⟩ | ⟨a, rfl, h1⟩ | ⟨a, b, rfl, h1, h2, h3⟩ | ⟨a, b, rfl, h1, h2, h3⟩ | ⟨a, b, rfl, h1, h2, h3⟩ | ⟨a, b, c, rfl, h1, h2, h3, h4, h5, h6⟩
  · intro y hy; rw [List.mem_singleton.mp hy]; exact hx
  · intro y hy; rw [List.mem_singleton.mp hy]; exact hx
  · refine List.forall_mem_cons.mpr ⟨o2 a h1, List.forall_mem_cons.mpr ⟨o1 a 4 h1 (by decide) (by decide), List.forall_mem_cons.mpr ⟨o2 a h1, List.forall_mem_nil _⟩⟩⟩
  · intro y hy; rw [List.mem_singleton.mp hy]; exact hx
  · refine List.forall_mem_cons.mpr ⟨o2 b h2, List.forall_mem_cons.mpr ⟨o3 a b h1 h2 h3, List.forall_mem_cons.mpr ⟨o2 b h2, List.forall_mem_nil _⟩⟩⟩
  · refine List.forall_mem_cons.mpr ⟨o4 a b h1 h2 h3, List.forall_mem_cons.mpr ⟨o4 b a h2 h1 h3.symm, List.forall_mem_cons.mpr ⟨o4 a b h1 h2 h3, List.forall_mem_nil _⟩⟩⟩
  · show ∀ y ∈ three a b c, y.ok n
    unfold three
    repeat' first | exact List.forall_mem_nil _ | refine List.forall_mem_cons.mpr ⟨?_, ?_⟩
    all_goals first | exact o2 _ (by assumption) | exact o1 _ _ (by assumption) (by decide) (by decide) | exact o4 _ _ (by assumption) (by assumption) (by assumption)
def basicD (ds : List Deed) : List Deed := (ds.flatMap Deed.led).flatMap Deed.led
theorem leds_ok {n : Nat} {ds : List Deed} (h : ∀ x ∈ ds, x.ok n) : ∀ x ∈ ds.flatMap Deed.led, x.ok n := fun x hx => by
  obtain ⟨y, hy, hz⟩ := List.mem_flatMap.mp hx
  exact led_ok (h y hy) x hz
theorem led_len {n : Nat} {x : Deed} (hx : x.ok n) : x.led.length ≤ 15 ∧ (x.led.flatMap Deed.led).length ≤ 27 := by
  rcases Deed.alts hx with ⟨a, t, rfl, h1, h2, h3⟩ | ⟨a, rfl, h1⟩ | ⟨a, rfl, h1⟩ | ⟨a, b, rfl, h1, h2, h3⟩ | ⟨a, b, rfl, h1, h2, h3⟩ | ⟨a, b, rfl, h1, h2, h3⟩ | ⟨a, b, c, rfl, h1, h2, h3, h4, h5, h6⟩
  all_goals simp [Deed.led, three]
theorem basicD_len {n : Nat} : ∀ {ds : List Deed}, (∀ x ∈ ds, x.ok n) → (ds.flatMap Deed.led).length ≤ 15 * ds.length ∧ (basicD ds).length ≤ 27 * ds.length
  | [], _ => ⟨Nat.le_refl _, Nat.le_refl _⟩
  | x :: ds, h => by
    obtain ⟨i1, i2⟩ := basicD_len (ds := ds) fun y hy => h y (List.mem_cons_of_mem _ hy)
    obtain ⟨l1, l2⟩ := led_len (h x List.mem_cons_self)
    unfold basicD at i2 ⊢
    rw [List.flatMap_cons, List.flatMap_append, List.length_append, List.length_append, List.length_cons]
    omega
theorem lc2_mp {α : Type} {p : Pat} {wi1 : WI} {p1 : Pat} {we : WE} {vs1 : List Nat} {env : En} {W : Sto → Prop} {Q : PD} {cs : Sto} {z : Lz (p, wYes, wi1, p1, wYes, we, vs1, env, W, Q)} (g : α → D) (L : α → List D) (hW : W cs) (xs : List α)
    (hz : (xs.flatMap L).length ≤ sizeLine)
    (hs : ∀ x ∈ xs, ∃ env', patSet cs p (g x) env = some env' ∧ (∀ R : List D → (Sto → Prop) → Sto → Prop, R (L x) wAll cs → wi1 env' cs R) ∧ ∀ e ∈ L x, ∃ env2, patSet cs p1 e (wipeE env' vs1) = some env2 ∧ ∀ R : PD, R e cs → we env2 cs R)
    (hd : Q (.lst (xs.flatMap L)) cs) : lc2P p wYes wi1 p1 wYes we vs1 env W Q (xs.map g) [] cs z := by
  have key : ∀ (xs : List α) (acc : List D), acc.length + (xs.flatMap L).length ≤ sizeLine →
      (∀ x ∈ xs, ∃ env', patSet cs p (g x) env = some env' ∧ (∀ R : List D → (Sto → Prop) → Sto → Prop, R (L x) wAll cs → wi1 env' cs R) ∧ ∀ e ∈ L x, ∃ env2, patSet cs p1 e (wipeE env' vs1) = some env2 ∧ ∀ R : PD, R e cs → we env2 cs R) →
      Q (.lst (acc ++ xs.flatMap L)) cs → lc2out p wYes wi1 p1 wYes we vs1 env W Q (xs.map g) acc cs := by
    intro xs
    induction xs with
    | nil => intro acc _ _ hd; exact ⟨hW, by simpa using hd⟩
    | cons x xs ih =>
      intro acc hz hs hd
      obtain ⟨env', e1, hi, he⟩ := hs x List.mem_cons_self
      refine ⟨hW, ?_⟩
      simp only [e1]
      simp only [wYes, if_true]
      refine hi _ ?_
      have inner : ∀ (es acc' : List D) (k : List D → Sto → Prop), (∀ e ∈ es, ∃ env2, patSet cs p1 e (wipeE env' vs1) = some env2 ∧ ∀ R : PD, R e cs → we env2 cs R) → acc'.length + es.length ≤ sizeLine → k (acc' ++ es) cs → lc2in p1 wYes we (wipeE env' vs1) wAll k es acc' cs := by
        intro es
        induction es with
        | nil => intro acc' k _ _ hk; exact ⟨trivial, by simpa using hk⟩
        | cons e es ih2 =>
          intro acc' k hes hz' hk
          obtain ⟨env2, e2, q⟩ := hes e List.mem_cons_self
          refine ⟨trivial, ?_⟩
          simp only [e2]
          simp only [wYes, if_true]
          rw [List.length_cons] at hz'
          exact q _ ⟨by omega, ih2 _ _ (fun y hy => hes y (List.mem_cons_of_mem _ hy)) (by rw [List.length_append]; simp; omega) (by simpa using hk)⟩
      rw [List.flatMap_cons, List.length_append] at hz
      refine inner _ _ _ he (by omega) ?_
      refine ih _ ?_ (fun y hy => hs y (List.mem_cons_of_mem _ hy)) ?_
      · rw [List.length_append]
        omega
      · rw [List.flatMap_cons] at hd
        rw [List.append_assoc]
        exact hd
  exact lc2P_i (key xs [] (by simpa using hz) hs hd)
theorem dL_flat (ds : List Deed) : (ds.flatMap fun x => dL x.led) = dL (ds.flatMap Deed.led) := by
  unfold dL
  rw [List.map_flatMap]
theorem strOk_w (w : Wd) : PySem.PyData.strOk w.s = true := by cases w <;> decide +kernel
theorem PLs_app {k : Nat} : ∀ {a b : List D}, PLs k a → PLs k b → PLs k (a ++ b)
  | [], _, _, h => h
  | x :: a, b, h1, h2 => by
    have h' : PL k x ∧ PLs k a := by simpa [PLs] using h1
    have := PLs_app h'.2 h2
    simpa [PLs] using ⟨h'.1, this⟩
theorem PLs_nT {k : Nat} (ws : List Nat) : PLs k (nT ws) := by
  rw [nT_ints]
  exact PLs.ints _
theorem PL_deed (x : Deed) : PL 1 x.d := by
  have h1 : PLs 0 (nT x.ws) := PLs_nT _
  have h2 : PLs 0 x.tl := by
    unfold Deed.tl
    split <;> simp [PLs, PL]
  have h3 := PLs_app h1 h2
  show PLs 0 (D.str x.w.s :: (nT x.ws ++ x.tl))
  simpa [PLs, PL] using ⟨strOk_w x.w, h3⟩
theorem PL_deeds : ∀ ds : List Deed, PLs 1 (dL ds)
  | [] => by simp [dL, PLs]
  | x :: ds => by
    have := PL_deeds ds
    show PLs 1 (x.d :: dL ds)
    simpa [PLs] using ⟨PL_deed x, this⟩
theorem eqD_deeds (cs : Sto) (ds : List Deed) : eqD cs false (.tup (dL ds)) (.tup (dL ds)) = some (True, .bl (!false)) := eqD_rfl (k := 2) (PL_deeds ds)
theorem rx_pd {n : Nat} {ds : List Deed} (h : ∀ x ∈ ds, x.ok n) (hn : n ≤ 100) (hl : ds.length ≤ 200) (cs : Sto) : reprX cs (.tup [.int n, .tup (dL ds)]) = some (True, shX (.tup [.int n, .tup (dL ds)])) := by
  have r1 := RXL.all (m := 8) (w := 35) (k := 1) (ds := dL ds) fun d hd => by
    obtain ⟨x, hx, rfl⟩ := List.mem_map.mp hd
    exact Deed.rx (h x hx) hn
  rw [dL, List.length_map] at r1
  have r2 : RX 8 (36 * 200) 2 (.tup (dL ds)) := RX.tup (r1.mono (by omega) (Nat.le_refl _))
  have r3 : RX 8 7 2 (.int n) := RX.int (n := 7) (by unfold Bd; rw [Int.natAbs_natCast]; show n < 128; omega) (by decide) (by decide) (by decide) (by decide)
  exact reprX_ok (RX.tup (RXL.cons r3 (RXL.cons r2 (RXL.nil (w := 0) (k := 2))))) (by decide) (by decide) (by decide)
theorem oEqX_prog {s : FSpec} {C : Addr} {neg : Bool} {n m : Nat} {a b : List Deed} {cs : Sto} {Q : PD} : oEqX s C neg (progD C n a) (progD C m b) cs Q = eqXP s C neg [("wires", .int n), ("deeds", .tup (dL a))] [("wires", .int m), ("deeds", .tup (dL b))] cs Q := oEqX_obj _ _
theorem nab : decide (Str.ofString "a" = Str.ofString "b") = false := by decide +kernel
theorem nac : decide (Str.ofString "a" = Str.ofString "c") = false := by decide +kernel
theorem nbc : decide (Str.ofString "b" = Str.ofString "c") = false := by decide +kernel
theorem ch_of {z x : Str} {i : Int} {c : Nat} {cs : Sto} (h : atI z.cps.toList i = some c) (e : (⟨#[c]⟩ : Str) = x) (l : z.length ≤ sizeLine) : ixD cs (.str z) (.int i) = some (True, .str x) := by
  simp only [ixD, h, e, l]
theorem it_of {z : Str} {n : Int} (h : PySem.intText? z = some n) (l : z.length ≤ 640) : intT (.str z) = some (True, .int n) := by
  show (PySem.intText? z).map _ = _
  rw [h]
  simp [l]
theorem ch_0_0 (cs : Sto) : ixD cs (.str (Str.ofString "mc")) (.int 0) = some (True, .str (Str.ofString "m")) := ch_of (c := 109) (by decide +kernel) (by decide +kernel) (by decide +kernel)
theorem ch_0_1 (cs : Sto) : ixD cs (.str (Str.ofString "mc")) (.int 1) = some (True, .str (Str.ofString "c")) := ch_of (c := 99) (by decide +kernel) (by decide +kernel) (by decide +kernel)
theorem ch_1_0 (cs : Sto) : ixD cs (.str (Str.ofString "ta1")) (.int 0) = some (True, .str (Str.ofString "t")) := ch_of (c := 116) (by decide +kernel) (by decide +kernel) (by decide +kernel)
theorem ch_1_1 (cs : Sto) : ixD cs (.str (Str.ofString "ta1")) (.int 1) = some (True, .str (Str.ofString "a")) := ch_of (c := 97) (by decide +kernel) (by decide +kernel) (by decide +kernel)
theorem ch_1_2 (cs : Sto) : ixD cs (.str (Str.ofString "ta1")) (.int 2) = some (True, .str (Str.ofString "1")) := ch_of (c := 49) (by decide +kernel) (by decide +kernel) (by decide +kernel)
theorem ch_2_0 (cs : Sto) : ixD cs (.str (Str.ofString "tb1")) (.int 0) = some (True, .str (Str.ofString "t")) := ch_of (c := 116) (by decide +kernel) (by decide +kernel) (by decide +kernel)
theorem ch_2_1 (cs : Sto) : ixD cs (.str (Str.ofString "tb1")) (.int 1) = some (True, .str (Str.ofString "b")) := ch_of (c := 98) (by decide +kernel) (by decide +kernel) (by decide +kernel)
theorem ch_2_2 (cs : Sto) : ixD cs (.str (Str.ofString "tb1")) (.int 2) = some (True, .str (Str.ofString "1")) := ch_of (c := 49) (by decide +kernel) (by decide +kernel) (by decide +kernel)
theorem ch_3_0 (cs : Sto) : ixD cs (.str (Str.ofString "tb7")) (.int 0) = some (True, .str (Str.ofString "t")) := ch_of (c := 116) (by decide +kernel) (by decide +kernel) (by decide +kernel)
theorem ch_3_1 (cs : Sto) : ixD cs (.str (Str.ofString "tb7")) (.int 1) = some (True, .str (Str.ofString "b")) := ch_of (c := 98) (by decide +kernel) (by decide +kernel) (by decide +kernel)
theorem ch_3_2 (cs : Sto) : ixD cs (.str (Str.ofString "tb7")) (.int 2) = some (True, .str (Str.ofString "7")) := ch_of (c := 55) (by decide +kernel) (by decide +kernel) (by decide +kernel)
theorem ch_4_0 (cs : Sto) : ixD cs (.str (Str.ofString "tc1")) (.int 0) = some (True, .str (Str.ofString "t")) := ch_of (c := 116) (by decide +kernel) (by decide +kernel) (by decide +kernel)
theorem ch_4_1 (cs : Sto) : ixD cs (.str (Str.ofString "tc1")) (.int 1) = some (True, .str (Str.ofString "c")) := ch_of (c := 99) (by decide +kernel) (by decide +kernel) (by decide +kernel)
theorem ch_4_2 (cs : Sto) : ixD cs (.str (Str.ofString "tc1")) (.int 2) = some (True, .str (Str.ofString "1")) := ch_of (c := 49) (by decide +kernel) (by decide +kernel) (by decide +kernel)
theorem ch_5_0 (cs : Sto) : ixD cs (.str (Str.ofString "tc7")) (.int 0) = some (True, .str (Str.ofString "t")) := ch_of (c := 116) (by decide +kernel) (by decide +kernel) (by decide +kernel)
theorem ch_5_1 (cs : Sto) : ixD cs (.str (Str.ofString "tc7")) (.int 1) = some (True, .str (Str.ofString "c")) := ch_of (c := 99) (by decide +kernel) (by decide +kernel) (by decide +kernel)
theorem ch_5_2 (cs : Sto) : ixD cs (.str (Str.ofString "tc7")) (.int 2) = some (True, .str (Str.ofString "7")) := ch_of (c := 55) (by decide +kernel) (by decide +kernel) (by decide +kernel)
theorem ch_6_0 (cs : Sto) : ixD cs (.str (Str.ofString "uab")) (.int 0) = some (True, .str (Str.ofString "u")) := ch_of (c := 117) (by decide +kernel) (by decide +kernel) (by decide +kernel)
theorem ch_6_1 (cs : Sto) : ixD cs (.str (Str.ofString "uab")) (.int 1) = some (True, .str (Str.ofString "a")) := ch_of (c := 97) (by decide +kernel) (by decide +kernel) (by decide +kernel)
theorem ch_6_2 (cs : Sto) : ixD cs (.str (Str.ofString "uab")) (.int 2) = some (True, .str (Str.ofString "b")) := ch_of (c := 98) (by decide +kernel) (by decide +kernel) (by decide +kernel)
theorem ch_7_0 (cs : Sto) : ixD cs (.str (Str.ofString "uac")) (.int 0) = some (True, .str (Str.ofString "u")) := ch_of (c := 117) (by decide +kernel) (by decide +kernel) (by decide +kernel)
theorem ch_7_1 (cs : Sto) : ixD cs (.str (Str.ofString "uac")) (.int 1) = some (True, .str (Str.ofString "a")) := ch_of (c := 97) (by decide +kernel) (by decide +kernel) (by decide +kernel)
theorem ch_7_2 (cs : Sto) : ixD cs (.str (Str.ofString "uac")) (.int 2) = some (True, .str (Str.ofString "c")) := ch_of (c := 99) (by decide +kernel) (by decide +kernel) (by decide +kernel)
theorem ch_8_0 (cs : Sto) : ixD cs (.str (Str.ofString "ubc")) (.int 0) = some (True, .str (Str.ofString "u")) := ch_of (c := 117) (by decide +kernel) (by decide +kernel) (by decide +kernel)
theorem ch_8_1 (cs : Sto) : ixD cs (.str (Str.ofString "ubc")) (.int 1) = some (True, .str (Str.ofString "b")) := ch_of (c := 98) (by decide +kernel) (by decide +kernel) (by decide +kernel)
theorem ch_8_2 (cs : Sto) : ixD cs (.str (Str.ofString "ubc")) (.int 2) = some (True, .str (Str.ofString "c")) := ch_of (c := 99) (by decide +kernel) (by decide +kernel) (by decide +kernel)
theorem it_1 : intT (.str (Str.ofString "1")) = some (True, .int 1) := it_of (by decide +kernel) (by decide +kernel)
theorem it_7 : intT (.str (Str.ofString "7")) = some (True, .int 7) := it_of (by decide +kernel) (by decide +kernel)
theorem gd_a (x y z : D) : getD [(Sum.inr (Str.ofString "a"), x), (Sum.inr (Str.ofString "b"), y), (Sum.inr (Str.ofString "c"), z)] (Sum.inr (Str.ofString "a")) = some x := by simp [getD, List.find?, nab, nac, nbc]
theorem gd_b (x y z : D) : getD [(Sum.inr (Str.ofString "a"), x), (Sum.inr (Str.ofString "b"), y), (Sum.inr (Str.ofString "c"), z)] (Sum.inr (Str.ofString "b")) = some y := by simp [getD, List.find?, nab, nac, nbc]
theorem gd_c (x y z : D) : getD [(Sum.inr (Str.ofString "a"), x), (Sum.inr (Str.ofString "b"), y), (Sum.inr (Str.ofString "c"), z)] (Sum.inr (Str.ofString "c")) = some z := by simp [getD, List.find?, nab, nac, nbc]
theorem ddx_mt : decide (Str.ofString "m" = Str.ofString "t") = false := by decide +kernel
theorem ddx_mm : decide (Str.ofString "m" = Str.ofString "m") = true := by decide +kernel
theorem ddx_tt : decide (Str.ofString "t" = Str.ofString "t") = true := by decide +kernel
theorem ddx_tm : decide (Str.ofString "t" = Str.ofString "m") = false := by decide +kernel
theorem ddx_ut : decide (Str.ofString "u" = Str.ofString "t") = false := by decide +kernel
theorem ddx_um : decide (Str.ofString "u" = Str.ofString "m") = false := by decide +kernel
theorem split_mc : Txt.split (Str.ofString "mc ta1 tb1 tc1 uab tb7 ubc tc1 uac tc7 ubc tc7 uac uab mc") (Str.ofString " ") = [Str.ofString "mc", Str.ofString "ta1", Str.ofString "tb1", Str.ofString "tc1", Str.ofString "uab", Str.ofString "tb7", Str.ofString "ubc", Str.ofString "tc1", Str.ofString "uac", Str.ofString "tc7", Str.ofString "ubc", Str.ofString "tc7", Str.ofString "uac", Str.ofString "uab", Str.ofString "mc"] := by decide +kernel
theorem lc_mf {α : Type} {pt : Pat} {tt : WT} {we : WE} {env : En} {W : Sto → Prop} {Q : PD} {cs : Sto} {z : Lz (pt, tt, we, env, W, Q)} (xs : List α) (g f : α → D) (t : α → Bool) (hW : W cs)
    (hs : ∀ x ∈ xs, ∃ env', patSet cs pt (g x) env = some env' ∧ (∀ R : Bool → Sto → Prop, R (t x) cs → tt env' cs R) ∧ (t x = true → ∀ R : PD, R (f x) cs → we env' cs R)) (hd : Q (.lst ((xs.filter t).map f)) cs) : lcP pt tt we env W Q (xs.map g) [] cs z := by
  have go : ∀ (ys : List α) (acc : List D), (∀ x ∈ ys, x ∈ xs) → Q (.lst (acc ++ (ys.filter t).map f)) cs → lcloop pt tt we env W Q (ys.map g) acc cs := by
    intro ys
    induction ys with
    | nil => intro acc _ h; exact ⟨hW, by simpa using h⟩
    | cons y ys ih =>
      intro acc hm h
      obtain ⟨env', e, q1, q2⟩ := hs y (hm y List.mem_cons_self)
      refine ⟨hW, ?_⟩
      rw [e]
      refine q1 _ ?_
      cases ht : t y with
      | true =>
        rw [if_pos rfl]
        exact q2 ht _ (ih _ (fun x hx => hm x (List.mem_cons_of_mem _ hx)) (by simpa [List.filter_cons, ht] using h))
      | false =>
        rw [if_neg (by simp)]
        exact ih _ (fun x hx => hm x (List.mem_cons_of_mem _ hx)) (by simpa [List.filter_cons, ht] using h)
  exact go xs [] (fun _ h => h) (by simpa using hd)
def isOdd (x : Deed) : Bool := decide (x.w = .turn) && decide (x.t % 2 = 1)
def tabL (x : Deed) : List Deed := if x.w = .under then [x] else x.led
def stepL (y : Deed) : List Deed := if y.w = .under then y.led else [y]
def dueL (x : Deed) : List Deed := (tabL x).flatMap stepL
theorem due_led {n : Nat} {x : Deed} (hx : x.ok n) : dueL x = x.led.flatMap Deed.led := by
  rcases Deed.alts hx with ⟨a, t, rfl, h1, h2, h3⟩ | ⟨a, rfl, h1⟩ | ⟨a, rfl, h1⟩ | ⟨a, b, rfl, h1, h2, h3⟩ | ⟨a, b, rfl, h1, h2, h3⟩ | ⟨a, b, rfl, h1, h2, h3⟩ | ⟨a, b, c, rfl, h1, h2, h3, h4, h5, h6⟩ <;> rfl
theorem due_basic {n : Nat} : ∀ {ds : List Deed}, (∀ x ∈ ds, x.ok n) → ds.flatMap dueL = basicD ds
  | [], _ => rfl
  | x :: ds, h => by
    have ih := due_basic (n := n) (ds := ds) fun y hy => h y (List.mem_cons_of_mem _ hy)
    unfold basicD at ih ⊢
    rw [List.flatMap_cons, List.flatMap_cons, List.flatMap_append, ih, due_led (h x List.mem_cons_self)]
theorem dL_app (a b : List Deed) : dL a ++ dL b = dL (a ++ b) := by
  unfold dL
  rw [List.map_append]
theorem eqD_d2 (cs : Sto) (neg : Bool) : eqD cs neg (.tup [.str "deeds", .int 200]) (.tup [.str "deeds", .int 200]) = some (True, .bl (!neg)) := eqD_rfl (k := 1) ⟨(by show PySem.PyData.strOk _ = true; decide +kernel), trivial, trivial⟩
theorem take_succ2 {α : Type} {xs : List α} {k : Nat} {x : α} (h : xs[k]? = some x) : xs.take (k + 1) = xs.take k ++ [x] := by
  rw [List.take_add_one, h]
  rfl
theorem dL_at {ds : List Deed} {k : Nat} {d : D} (h : (dL ds)[k]? = some d) : ∃ x, ds[k]? = some x ∧ d = x.d := by
  unfold dL at h
  rw [List.getElem?_map] at h
  obtain ⟨x, h1, h2⟩ := Option.map_eq_some_iff.mp h
  exact ⟨x, h1, h2.symm⟩
theorem tab_ok {n : Nat} {x : Deed} (hx : x.ok n) : ∀ y ∈ tabL x, y.ok n := by
  unfold tabL
  split
  · intro y hy
    rw [List.mem_singleton.mp hy]
    exact hx
  · exact led_ok hx
theorem tab_len {n : Nat} {x : Deed} (hx : x.ok n) : (tabL x).length ≤ 15 := by
  unfold tabL
  split
  · show 1 ≤ 15; decide
  · exact (led_len hx).1
theorem steps_len {n : Nat} : ∀ {ys : List Deed}, (∀ y ∈ ys, y.ok n) → (ys.flatMap stepL).length ≤ 15 * ys.length
  | [], _ => Nat.le_refl _
  | y :: ys, h => by
    have ih := steps_len (n := n) (ys := ys) fun z hz => h z (List.mem_cons_of_mem _ hz)
    have h1 : (stepL y).length ≤ 15 := by
      unfold stepL
      split
      · exact (led_len (h y List.mem_cons_self)).1
      · show 1 ≤ 15; decide
    rw [List.flatMap_cons, List.length_append, List.length_cons]
    omega
theorem dues_len {n : Nat} {ds : List Deed} (h : ∀ x ∈ ds, x.ok n) : (ds.flatMap dueL).length ≤ 27 * ds.length := by
  rw [due_basic h]
  exact (basicD_len h).2
theorem basicD_ok {n : Nat} {ds : List Deed} (h : ∀ x ∈ ds, x.ok n) : ∀ x ∈ basicD ds, x.ok n := leds_ok (leds_ok h)
theorem odd_int (a t : Nat) : decide ((t : Int) % 2 = 1) = isOdd ⟨.turn, [a], t⟩ := by
  show _ = decide (t % 2 = 1)
  exact decide_eq_decide.mpr (by omega)
def oddN (ds : List Deed) : Nat := (ds.filter isOdd).length
theorem oddN_le (ds : List Deed) : oddN ds ≤ ds.length := List.length_filter_le _ _
theorem rx_n {n : Nat} (h : n ≤ 6000) (cs : Sto) : reprX cs (.int n) = some (True, shX (.int n)) := reprX_ok ((RX.int (n := 13) (by unfold Bd; rw [Int.natAbs_natCast]; show n < 8192; omega) (by decide) (by decide) (by decide) (by decide) : RX 14 14 2 (.int n))) (by decide) (by decide) (by decide)
inductive BaI where
  | bad (d : D)
  | ok (n : Nat) (ds : List Deed)
def BaI.args (C : Addr) : BaI → List D
  | .bad d => [d]
  | .ok n ds => [progD C n ds]
def BaI.pre : BaI → Prop
  | .bad d => kd d = true
  | .ok n ds => (∀ x ∈ ds, x.ok n) ∧ ds.length ≤ 200 ∧ 1 ≤ n ∧ n ≤ 8

local macro_rules | `(tactic| walk_at "dl") => `(tactic| simp only [↓wFld_eq, ↓wStF_eq, ↓wMkF_eq, ↓wMk_eq, ↓wMeth_eq, ↓oIsC_eq, ↓oDGet1_eq, ↓oDGet2_eq, ↓wKGet_eq, ↓wKIx_eq, ↓wSw2_eq, pairD_tup, insAt_obj, insAt_cell, isiC_obj, stF_cell, look_hit, dicAt_dic, strK_str, rcv_dic, Option.getD_some, Option.getD_none, ↓oMulC_eq, mulC_lst, ↓oSorted_eq, ↓wStar_eq, ↓wRevT_eq, revT_tup, ↓wLcC_eq, celD_lst, ↓oIns_eq, insS_cell, ↓oStr_eq, ↓oEqE_eq, emD, List.isEmpty_map, ↓oReprX_eq, ↓wPr0_eq, ↓wPr1_eq, ↓wDic_eq, ↓wDic0_eq, ↓wChain_eq, strD, keysD, keyD, kB_non_int, kB_str_int, kB_tup_int, kB_lst_int, kB_dic_int, kB_non_lt, kB_str_lt, kB_int_lt, kB_bool_lt, kB_dic_lt, ↓wLc2_eq, ↓wLenSet_eq, ↓wLRg1_eq, ↓wCRg1_eq, ↓oListC_eq, ↓oPopAt_eq, ↓oExt_eq, popAtS_cell, extS_cell, ↓wMt_eq, ↓oApp_eq, ↓oPop_eq, ↓wBits_eq, ↓oIn_eq, ↓oAnyI_eq, appS_cell, popS_cell, rcv_list, rcv_lst, Option.isSome_some, inD_ints, inD_tints, szS_lt, anyI, ↓o1_eq, ↓oAbs_eq, ↓oAdd_eq, ↓oAll_eq, ↓oAny_eq, ↓oEq_eq, ↓oI_eq, ↓oIadd_eq, ↓oInt_eq, ↓oIsN_eq, ↓oIsi_eq, ↓oIx_eq, ↓oLen_eq, ↓oList_eq, ↓oMul_eq, ↓oRepr_eq, ↓oSl_eq, ↓oSum_eq, ↓oTru_eq, ↓oTup_eq, ↓oU_eq, ↓wAndV_eq, ↓wAnd_eq, ↓wAug_eq, ↓wB_eq, ↓wBreak_eq, ↓wC_eq, ↓wCall0_eq, ↓wCallK_eq, ↓wCall_eq, ↓wCel_eq, ↓wCons_eq, ↓wCont_eq, ↓wDrop_eq, ↓wEnum_eq, ↓wFor_eq, ↓wFrz_eq, ↓wIfS_eq, ↓wIf_eq, ↓wLc_eq, ↓wLst_eq, ↓wNext_eq, ↓wNil_eq, ↓wNotD_eq, ↓wNotV_eq, ↓wOp_eq, ↓wOrV_eq, ↓wOr_eq, ↓wPar3_eq, ↓wPar_eq, ↓wPat_eq, ↓wPn_eq, ↓wPs_eq, ↓wRetN_eq, ↓wRet_eq, ↓wRng1_eq, ↓wRng2_eq, ↓wSeqI_eq, ↓wSeq_eq, ↓wSet_eq, ↓wSl_eq, ↓wStore_eq, ↓wTruD_eq, ↓wTst_eq, ↓wTup_eq, ↓wUn_eq, ↓wVar_eq, ↓wWhile_eq, ↓wZip_eq, bindP_some, bindP_none, cond2_true, cond2_false, letE_eq, envAt_zero, envAt_none, envAt_succ, blD, wYes, wNever, cT, iD, uD, addD, iaddD, mulD, eqD_int, eqD_str, eqD_bl, isND, DL.isNon, slD, intOf, absD, blsD, numsD, bls, nums, intD, rng1, rng2, en1, zip1, zipD, enD, stay, startE, patSet, patSets, wipeE, and_t, sz_le, gP, List.filterMap_cons, List.filterMap_nil,  Int.reducePow, Int.cast_ofNat_Int, cMul_l, cMul_r, CPow_lit, CDivW_lit, eqD_ints, List.length_map,  isi_non, isit_non, isi_bl, isit_bl, isi_int, isit_int, isi_str, isit_str, isi_tup, isit_tup, isi_lst, isit_lst, isi_dic, isit_dic, lstOf_lst, truD_non, truD_bl, truD_int, truD_str, truD_tup, truD_lst, truD_dic, lstOf_cell, seqOf_lst, seqOf_tup, seqOf_cell, seqI_lst, seqI_tup, seqI_cell, lenD_str, lenD_lst, lenD_tup, lenD_cell, ixD_lst, ixD_tup, ixD_cell, truD_cell, isi_cell, isit_cell, stoD_cell, frzD_eq, lstAt_app, lstAt_0, lstAt_s, set_app, List.set_set, Option.bind_some, Option.bind_none,  List.isEmpty_cons, List.isEmpty_nil, Option.map_none, and_true, atI_zero, atI_1, atI_2, atI_3, kB_int_int, kB_int_bool, kB_bool_int, kB_bool_bool, kB_list_lt, kB_tuple_lt, Option.map_some, List.map_cons, List.map_nil, List.cons_append, List.nil_append, List.append_nil, List.length_cons, List.length_nil, List.replicate, List.getElem?_cons_zero, List.getElem?_cons_succ, List.set_cons_zero, List.set_cons_succ, Nat.reduceSub, Nat.reduceAdd, Nat.sub_zero, Nat.zero_add, Bool.not_true, Bool.not_false, Bool.false_eq_true, ite_true, ite_false, reduceIte, reduceCtorEq, Nat.reduceLeDiff, eq_self, ix0, ix1, ix2, ix3, cutD_all, decide_true, decide_false, wAll, wCl, Int.reduceAdd, Int.reduceSub, Int.reduceMul, Int.reduceNeg, Int.reduceLT, Int.reduceLE, Int.reduceEq, Int.reduceMod, Int.reduceDiv, Int.reduceToNat, Int.toNat_natCast, Nat.reduceLT, Nat.reduceEqDiff, Nat.reduceMul, seqOf_t, eqA, eqA4, ixA0, ixA1, ixA2, ixA3, eqD_t2, inD_pow, ↓wSeqX_eq, ↓wIfX_eq, ↓wRaise_eq, ↓wRetX_eq, ↓wDropX_eq, ↓wSetX_eq, ↓wCallX_eq, ↓wConsX_eq, ↓wTry_eq, ↓wXf_eq, errF_err, look_hit, endsD, nameD, Option.map_some, wd_turn, wd_mix, wd_sign, wd_not, wd_swap, wd_none, word_get, word_getD, kB_str_str, stayNT, lk_wires, lk_deeds, ↓wCallN_eq, ↓wHeard_eq, ↓wCallV_eq, ↓oIsE_eq, ↓oIsTE_eq, ↓wRaise2_eq, isiP_non, oEqX_int, oEqX_str, oEqX_non, oEqX_bl, oEqX_tup, oEqX_lst, oEqX_cell, wd_under, wd_both, ↓oIntT_eq, ↓oSplit_eq, splS_str, ↓wDIx_eq, ↓oExtA_eq, extA_tup, extA_lst, extA_cel])
local macro_rules | `(tactic| walk_at "dlu") => `(tactic| simp only [↓wFld_eq, ↓wStF_eq, ↓wMkF_eq, ↓wMk_eq, ↓wMeth_eq, ↓oIsC_eq, ↓oDGet1_eq, ↓oDGet2_eq, ↓wKGet_eq, ↓wKIx_eq, ↓wSw2_eq, pairD_tup, insAt_obj, insAt_cell, isiC_obj, stF_cell, look_hit, dicAt_dic, strK_str, rcv_dic, Option.getD_some, Option.getD_none, ↓oMulC_eq, mulC_lst, ↓oSorted_eq, ↓wStar_eq, ↓wRevT_eq, revT_tup, ↓wLcC_eq, celD_lst, ↓oIns_eq, insS_cell, ↓oStr_eq, ↓oEqE_eq, emD, List.isEmpty_map, ↓oReprX_eq, ↓wPr0_eq, ↓wPr1_eq, ↓wDic_eq, ↓wDic0_eq, ↓wChain_eq, strD, keysD, keyD, kB_non_int, kB_str_int, kB_tup_int, kB_lst_int, kB_dic_int, kB_non_lt, kB_str_lt, kB_int_lt, kB_bool_lt, kB_dic_lt, ↓wLc2_eq, ↓wLenSet_eq, ↓wLRg1_eq, ↓wCRg1_eq, ↓oListC_eq, ↓oPopAt_eq, ↓oExt_eq, popAtS_cell, extS_cell, ↓wMt_eq, ↓oApp_eq, ↓oPop_eq, ↓wBits_eq, ↓oIn_eq, ↓oAnyI_eq, appS_cell, popS_cell, rcv_list, rcv_lst, Option.isSome_some, inD_ints, inD_tints, szS_lt, anyI, ↓o1_eq, ↓oAbs_eq, ↓oAdd_eq, ↓oAll_eq, ↓oAny_eq, ↓oEq_eq, ↓oI_eq, ↓oIadd_eq, ↓oInt_eq, ↓oIsN_eq, ↓oIsi_eq, ↓oIx_eq, ↓oLen_eq, ↓oList_eq, ↓oMul_eq, ↓oRepr_eq, ↓oSl_eq, ↓oSum_eq, ↓oTru_eq, ↓oTup_eq, ↓oU_eq, ↓wAndV_eq, ↓wAnd_eq, ↓wAug_eq, ↓wB_eq, ↓wBreak_eq, ↓wC_eq, ↓wCall0_eq, ↓wCallK_eq, ↓wCall_eq, ↓wCel_eq, ↓wCons_eq, ↓wCont_eq, ↓wDrop_eq, ↓wEnum_eq, ↓wFor_eq, ↓wFrz_eq, ↓wIfS_eq, ↓wIf_eq, ↓wLc_eq, ↓wLst_eq, ↓wNext_eq, ↓wNil_eq, ↓wNotD_eq, ↓wNotV_eq, ↓wOp_eq, ↓wOrV_eq, ↓wOr_eq, ↓wPar3_eq, ↓wPar_eq, ↓wPat_eq, ↓wPn_eq, ↓wPs_eq, ↓wRetN_eq, ↓wRet_eq, ↓wRng1_eq, ↓wRng2_eq, ↓wSeqI_eq, ↓wSeq_eq, ↓wSet_eq, ↓wSl_eq, ↓wStore_eq, ↓wTruD_eq, ↓wTst_eq, ↓wTup_eq, ↓wUn_eq, ↓wVar_eq, ↓wWhile_eq, ↓wZip_eq, bindP_some, bindP_none, cond2_true, cond2_false, letE_eq, envAt_zero, envAt_none, envAt_succ, blD, wYes, wNever, cT, iD, uD, addD, iaddD, mulD, eqD_int, eqD_str, eqD_bl, isND, DL.isNon, slD, intOf, absD, blsD, numsD, bls, nums, intD, rng1, rng2, en1, zip1, zipD, enD, stay, startE, patSet, patSets, wipeE, and_t, sz_le, gP, List.filterMap_cons, List.filterMap_nil,  Int.reducePow, Int.cast_ofNat_Int, cMul_l, cMul_r, CPow_lit, CDivW_lit, eqD_ints, List.length_map,  isi_non, isit_non, isi_bl, isit_bl, isi_int, isit_int, isi_str, isit_str, isi_tup, isit_tup, isi_lst, isit_lst, isi_dic, isit_dic, lstOf_lst, truD_non, truD_bl, truD_int, truD_str, truD_tup, truD_lst, truD_dic, lstOf_cell, seqOf_lst, seqOf_tup, seqOf_cell, seqI_lst, seqI_tup, seqI_cell, lenD_str, lenD_lst, lenD_tup, lenD_cell, ixD_lst, ixD_tup, ixD_cell, truD_cell, isi_cell, isit_cell, stoD_cell, frzD_eq, lstAt_app, lstAt_0, lstAt_s, set_app, List.set_set, Option.bind_some, Option.bind_none,  List.isEmpty_cons, List.isEmpty_nil, Option.map_none, and_true, atI_zero, atI_1, atI_2, atI_3, kB_int_int, kB_int_bool, kB_bool_int, kB_bool_bool, kB_list_lt, kB_tuple_lt, Option.map_some, List.map_cons, List.map_nil, List.cons_append, List.nil_append, List.append_nil, List.length_cons, List.length_nil, List.replicate, List.getElem?_cons_zero, List.getElem?_cons_succ, List.set_cons_zero, List.set_cons_succ, Nat.reduceSub, Nat.reduceAdd, Nat.sub_zero, Nat.zero_add, Bool.not_true, Bool.not_false, Bool.false_eq_true, ite_true, ite_false, reduceIte, reduceCtorEq, Nat.reduceLeDiff, eq_self, ix0, ix1, ix2, ix3, cutD_all, decide_true, decide_false, wAll, wCl, Int.reduceAdd, Int.reduceSub, Int.reduceMul, Int.reduceNeg, Int.reduceLT, Int.reduceLE, Int.reduceEq, Int.reduceMod, Int.reduceDiv, Int.reduceToNat, Int.toNat_natCast, Nat.reduceLT, Nat.reduceEqDiff, Nat.reduceMul, rngD_z, rngD_s, forP_nil, forP_cons, lcP_nil, lcP_cons, lc2P_nil, lc2P_cons, lc2Q_nil, lc2Q_cons, seqOf_t, eqA, eqA4, ixA0, ixA1, ixA2, ixA3, eqD_t2, inD_pow, ↓wSeqX_eq, ↓wIfX_eq, ↓wRaise_eq, ↓wRetX_eq, ↓wDropX_eq, ↓wSetX_eq, ↓wCallX_eq, ↓wConsX_eq, ↓wTry_eq, ↓wXf_eq, errF_err, look_hit, endsD, nameD, Option.map_some, wd_turn, wd_mix, wd_sign, wd_not, wd_swap, wd_none, word_get, word_getD, kB_str_str, stayNT, lk_wires, lk_deeds, ↓wCallN_eq, ↓wHeard_eq, ↓wCallV_eq, ↓oIsE_eq, ↓oIsTE_eq, ↓wRaise2_eq, isiP_non, oEqX_int, oEqX_str, oEqX_non, oEqX_bl, oEqX_tup, oEqX_lst, oEqX_cell, wd_under, wd_both, ↓oIntT_eq, ↓oSplit_eq, splS_str, ↓wDIx_eq, ↓oExtA_eq, extA_tup, extA_lst, extA_cel])
local macro_rules | `(tactic| walk_at "dlh") => `(tactic| simp only [↓wFld_eq, ↓wStF_eq, ↓wMkF_eq, ↓wMk_eq, ↓wMeth_eq, ↓oIsC_eq, ↓oDGet1_eq, ↓oDGet2_eq, ↓wKGet_eq, ↓wKIx_eq, ↓wSw2_eq, pairD_tup, insAt_obj, insAt_cell, isiC_obj, stF_cell, look_hit, dicAt_dic, strK_str, rcv_dic, Option.getD_some, Option.getD_none, ↓oMulC_eq, mulC_lst, ↓oSorted_eq, ↓wStar_eq, ↓wRevT_eq, revT_tup, ↓wLcC_eq, celD_lst, ↓oIns_eq, insS_cell, ↓oStr_eq, ↓oEqE_eq, emD, List.isEmpty_map, ↓oReprX_eq, ↓wPr0_eq, ↓wPr1_eq, ↓wDic_eq, ↓wDic0_eq, ↓wChain_eq, strD, keysD, keyD, kB_non_int, kB_str_int, kB_tup_int, kB_lst_int, kB_dic_int, kB_non_lt, kB_str_lt, kB_int_lt, kB_bool_lt, kB_dic_lt, ↓wLc2_eq, ↓wLenSet_eq, ↓wLRg1_eq, ↓wCRg1_eq, ↓oListC_eq, ↓oPopAt_eq, ↓oExt_eq, popAtS_cell, extS_cell, ↓wMt_eq, ↓oApp_eq, ↓oPop_eq, ↓wBits_eq, ↓oIn_eq, ↓oAnyI_eq, appS_cell, popS_cell, rcv_list, rcv_lst, Option.isSome_some, inD_ints, inD_tints, szS_lt, anyI, ↓o1_eq, ↓oAbs_eq, ↓oAdd_eq, ↓oAll_eq, ↓oAny_eq, ↓oEq_eq, ↓oI_eq, ↓oIadd_eq, ↓oInt_eq, ↓oIsN_eq, ↓oIsi_eq, ↓oIx_eq, ↓oLen_eq, ↓oList_eq, ↓oMul_eq, ↓oRepr_eq, ↓oSl_eq, ↓oSum_eq, ↓oTru_eq, ↓oTup_eq, ↓oU_eq, ↓wAndV_eq, ↓wAnd_eq, ↓wAug_eq, ↓wB_eq, ↓wBreak_eq, ↓wC_eq, ↓wCall0_eq, ↓wCallK_eq, ↓wCall_eq, ↓wCel_eq, ↓wCons_eq, ↓wCont_eq, ↓wDrop_eq, ↓wEnum_eq, ↓wFor_eq, ↓wFrz_eq, ↓wIfS_eq, ↓wIf_eq, ↓wLc_eq, ↓wLst_eq, ↓wNext_eq, ↓wNil_eq, ↓wNotD_eq, ↓wNotV_eq, ↓wOp_eq, ↓wOrV_eq, ↓wOr_eq, ↓wPar3_eq, ↓wPar_eq, ↓wPat_eq, ↓wPn_eq, ↓wPs_eq, ↓wRetN_eq, ↓wRet_eq, ↓wRng1_eq, ↓wRng2_eq, ↓wSeqI_eq, ↓wSeq_eq, ↓wSet_eq, ↓wSl_eq, ↓wStore_eq, ↓wTruD_eq, ↓wTst_eq, ↓wTup_eq, ↓wUn_eq, ↓wVar_eq, ↓wWhile_eq, ↓wZip_eq, bindP_some, bindP_none, cond2_true, cond2_false, letE_eq, envAt_zero, envAt_none, envAt_succ, blD, wYes, wNever, cT, iD, uD, addD, iaddD, mulD, eqD_int, eqD_str, eqD_bl, isND, DL.isNon, slD, intOf, absD, blsD, numsD, bls, nums, intD, rng1, rng2, en1, zip1, zipD, enD, stay, startE, patSet, patSets, wipeE, and_t, sz_le, gP, List.filterMap_cons, List.filterMap_nil,  Int.reducePow, Int.cast_ofNat_Int, cMul_l, cMul_r, CPow_lit, CDivW_lit, eqD_ints, List.length_map,  isi_non, isit_non, isi_bl, isit_bl, isi_int, isit_int, isi_str, isit_str, isi_tup, isit_tup, isi_lst, isit_lst, isi_dic, isit_dic, lstOf_lst, truD_non, truD_bl, truD_int, truD_str, truD_tup, truD_lst, truD_dic, lstOf_cell, seqOf_lst, seqOf_tup, seqOf_cell, seqI_lst, seqI_tup, seqI_cell, lenD_str, lenD_lst, lenD_tup, lenD_cell, ixD_lst, ixD_tup, ixD_cell, truD_cell, isi_cell, isit_cell, stoD_cell, frzD_eq, lstAt_app, lstAt_0, lstAt_s, set_app, List.set_set, Option.bind_some, Option.bind_none,  List.isEmpty_cons, List.isEmpty_nil, Option.map_none, and_true, atI_zero, atI_1, atI_2, atI_3, kB_int_int, kB_int_bool, kB_bool_int, kB_bool_bool, kB_list_lt, kB_tuple_lt, Option.map_some, List.map_cons, List.map_nil, List.cons_append, List.nil_append, List.append_nil, List.length_cons, List.length_nil, List.replicate, List.getElem?_cons_zero, List.getElem?_cons_succ, List.set_cons_zero, List.set_cons_succ, Nat.reduceSub, Nat.reduceAdd, Nat.sub_zero, Nat.zero_add, Bool.not_true, Bool.not_false, Bool.false_eq_true, ite_true, ite_false, reduceIte, reduceCtorEq, Nat.reduceLeDiff, eq_self, ix0, ix1, ix2, ix3, cutD_all, decide_true, decide_false, wAll, wCl, Int.reduceAdd, Int.reduceSub, Int.reduceMul, Int.reduceNeg, Int.reduceLT, Int.reduceLE, Int.reduceEq, Int.reduceMod, Int.reduceDiv, Int.reduceToNat, Int.toNat_natCast, Nat.reduceLT, Nat.reduceEqDiff, Nat.reduceMul, lstAt_set, lstAt_ne, lstAt_old, set_old, ne_eq, not_false_eq_true, *, seqOf_t, eqA, eqA4, ixA0, ixA1, ixA2, ixA3, eqD_t2, inD_pow, ↓wSeqX_eq, ↓wIfX_eq, ↓wRaise_eq, ↓wRetX_eq, ↓wDropX_eq, ↓wSetX_eq, ↓wCallX_eq, ↓wConsX_eq, ↓wTry_eq, ↓wXf_eq, errF_err, look_hit, endsD, nameD, Option.map_some, wd_turn, wd_mix, wd_sign, wd_not, wd_swap, wd_none, word_get, word_getD, kB_str_str, stayNT, lk_wires, lk_deeds, ↓wCallN_eq, ↓wHeard_eq, ↓wCallV_eq, ↓oIsE_eq, ↓oIsTE_eq, ↓wRaise2_eq, isiP_non, oEqX_int, oEqX_str, oEqX_non, oEqX_bl, oEqX_tup, oEqX_lst, oEqX_cell, wd_under, wd_both, ↓oIntT_eq, ↓oSplit_eq, splS_str, ↓wDIx_eq, ↓oExtA_eq, extA_tup, extA_lst, extA_cel])

local macro_rules | `(tactic| walk_at "dn") => `(tactic| simp only [↓wFld_eq, ↓wStF_eq, ↓wMkF_eq, ↓wMk_eq, ↓wMeth_eq, ↓oIsC_eq, ↓oDGet1_eq, ↓oDGet2_eq, ↓wKGet_eq, ↓wKIx_eq, ↓wSw2_eq, pairD_tup, insAt_obj, insAt_cell, isiC_obj, stF_cell, look_hit, dicAt_dic, strK_str, rcv_dic, Option.getD_some, Option.getD_none, ↓oMulC_eq, mulC_lst, ↓oSorted_eq, ↓wStar_eq, ↓wRevT_eq, revT_tup, ↓wLcC_eq, celD_lst, ↓oIns_eq, insS_cell, ↓oStr_eq, ↓oEqE_eq, emD, List.isEmpty_map, ↓oReprX_eq, ↓wPr0_eq, ↓wPr1_eq, ↓wDic_eq, ↓wDic0_eq, ↓wChain_eq, strD, keysD, keyD, kB_non_int, kB_str_int, kB_tup_int, kB_lst_int, kB_dic_int, kB_non_lt, kB_str_lt, kB_int_lt, kB_bool_lt, kB_dic_lt, ↓wLc2_eq, ↓wLenSet_eq, ↓wLRg1_eq, ↓wCRg1_eq, ↓oListC_eq, ↓oPopAt_eq, ↓oExt_eq, popAtS_cell, extS_cell, ↓wMt_eq, ↓oApp_eq, ↓oPop_eq, ↓wBits_eq, ↓oIn_eq, ↓oAnyI_eq, appS_cell, popS_cell, rcv_list, rcv_lst, Option.isSome_some, inD_ints, inD_tints, szS_lt, anyI, ↓o1_eq, ↓oAbs_eq, ↓oAdd_eq, ↓oAll_eq, ↓oAny_eq, ↓oEq_eq, ↓oI_eq, ↓oIadd_eq, ↓oInt_eq, ↓oIsN_eq, ↓oIsi_eq, ↓oIx_eq, ↓oLen_eq, ↓oList_eq, ↓oMul_eq, ↓oRepr_eq, ↓oSl_eq, ↓oSum_eq, ↓oTru_eq, ↓oTup_eq, ↓oU_eq, ↓wAndV_eq, ↓wAnd_eq, ↓wAug_eq, ↓wB_eq, ↓wBreak_eq, ↓wC_eq, ↓wCall0_eq, ↓wCallK_eq, ↓wCall_eq, ↓wCel_eq, ↓wCons_eq, ↓wCont_eq, ↓wDrop_eq, ↓wEnum_eq, ↓wFor_eq, ↓wFrz_eq, ↓wIfS_eq, ↓wIf_eq, ↓wLc_eq, ↓wLst_eq, ↓wNext_eq, ↓wNil_eq, ↓wNotD_eq, ↓wNotV_eq, ↓wOp_eq, ↓wOrV_eq, ↓wOr_eq, ↓wPar3_eq, ↓wPar_eq, ↓wPat_eq, ↓wPn_eq, ↓wPs_eq, ↓wRetN_eq, ↓wRet_eq, ↓wRng1_eq, ↓wRng2_eq, ↓wSeqI_eq, ↓wSeq_eq, ↓wSet_eq, ↓wSl_eq, ↓wStore_eq, ↓wTruD_eq, ↓wTst_eq, ↓wTup_eq, ↓wUn_eq, ↓wVar_eq, ↓wWhile_eq, ↓wZip_eq, bindP_some, bindP_none, cond2_true, cond2_false, letE_eq, envAt_zero, envAt_none, envAt_succ, blD, wYes, wNever, cT, iD, uD, addD, iaddD, mulD, eqD_int, eqD_str, eqD_bl, isND, DL.isNon, slD, intOf, absD, blsD, numsD, bls, nums, intD, rng1, rng2, en1, zip1, zipD, enD, stay, startE, patSet, patSets, wipeE, and_t, sz_le, gP, List.filterMap_cons, List.filterMap_nil,  Int.reducePow, Int.cast_ofNat_Int, cMul_l, cMul_r, CPow_lit, CDivW_lit, eqD_ints, List.length_map,  isi_non, isit_non, isi_bl, isit_bl, isi_int, isit_int, isi_str, isit_str, isi_tup, isit_tup, isi_lst, isit_lst, isi_dic, isit_dic, lstOf_lst, truD_non, truD_bl, truD_int, truD_str, truD_tup, truD_lst, truD_dic, lstOf_cell, seqOf_lst, seqOf_tup, seqOf_cell, seqI_lst, seqI_tup, seqI_cell, lenD_str, lenD_lst, lenD_tup, lenD_cell, ixD_lst, ixD_tup, ixD_cell, truD_cell, isi_cell, isit_cell, stoD_cell, frzD_eq, lstAt_app, lstAt_0, lstAt_s, set_app, List.set_set, Option.bind_some, Option.bind_none,  List.isEmpty_cons, List.isEmpty_nil, Option.map_none, and_true, atI_zero, atI_1, atI_2, atI_3, kB_int_int, kB_int_bool, kB_bool_int, kB_bool_bool, kB_list_lt, kB_tuple_lt, Option.map_some, List.map_cons, List.map_nil, List.cons_append, List.nil_append, List.append_nil, List.length_cons, List.length_nil, List.getElem?_cons_zero, List.getElem?_cons_succ, List.set_cons_zero, List.set_cons_succ, Nat.reduceSub, Nat.reduceAdd, Nat.sub_zero, Nat.zero_add, Bool.not_true, Bool.not_false, Bool.false_eq_true, ite_true, ite_false, reduceIte, reduceCtorEq, Nat.reduceLeDiff, eq_self, ix0, ix1, ix2, ix3, cutD_all, decide_true, decide_false, wAll, wCl, Int.reduceAdd, Int.reduceSub, Int.reduceMul, Int.reduceNeg, Int.reduceLT, Int.reduceLE, Int.reduceEq, Int.reduceMod, Int.reduceDiv, Int.reduceToNat, Int.toNat_natCast, Nat.reduceLT, Nat.reduceEqDiff, Nat.reduceMul, seqOf_t, eqA, eqA4, ixA0, ixA1, ixA2, ixA3, eqD_t2, inD_pow, ↓wSeqX_eq, ↓wIfX_eq, ↓wRaise_eq, ↓wRetX_eq, ↓wDropX_eq, ↓wSetX_eq, ↓wCallX_eq, ↓wConsX_eq, ↓wTry_eq, ↓wXf_eq, errF_err, look_hit, endsD, nameD, Option.map_some, wd_turn, wd_mix, wd_sign, wd_not, wd_swap, wd_none, word_get, word_getD, kB_str_str, stayNT, lk_wires, lk_deeds, ↓wCallN_eq, ↓wHeard_eq, ↓wCallV_eq, ↓oIsE_eq, ↓oIsTE_eq, ↓wRaise2_eq, isiP_non, oEqX_int, oEqX_str, oEqX_non, oEqX_bl, oEqX_tup, oEqX_lst, oEqX_cell, wd_under, wd_both, ↓oIntT_eq, ↓oSplit_eq, splS_str, ↓wDIx_eq, ↓oExtA_eq, extA_tup, extA_lst, extA_cel])
local macro_rules | `(tactic| walk_at "sd") => `(tactic| first | assumption | omega | rfl | decide | exact SpD.lst _ | exact SpD.tup _ | (intro _; rfl) | (rw [sizeLine_eq]; omega))
local macro_rules | `(tactic| walk_at "k") => `(tactic| refine And.intro (by walk_at "sd") ?_)
local macro_rules | `(tactic| walk_at "go") => `(tactic| (repeat (first | walk_at "dlu" | walk_at "k")))
local macro_rules | `(tactic| walk_at "gol") => `(tactic| (repeat (first | walk_at "dl" | walk_at "k")))

section
abbrev sp__law_mason : FSpec := { ι := { ns : List Int // ns.length ≤ 63 }, args := fun ns => [.scr ns.1], pre := fun _ cs => cs = [], res := fun _ _ d cs' => d = .cell 0 ∧ ∃ ns, ns.length ≤ 60 ∧ cs' = [svc ns 0 0] }
theorem calm__law_mason : Calm sp__law_mason := ⟨fun _ _ _ _ h => h⟩
set_option maxHeartbeats 4000000 in
theorem ok__law_mason (T : Txt P w K mg) : FnG P w K mg base CX0 1 T.f__law_mason T.d__law_mason ["_law_script"] (dSp K sp__law_mason) := by
  refine dfun T.F__law_mason sc__law_mason (fun i => by first | rfl | (cases i <;> rfl)) fun cdv A outer s H E hr => ⟨_, (dss_one (ds_ret (de_cel (da_cons (de_lc (own := [("_law_cell", 1)]) rfl sc__law_mason.nd (di_seq (de_slice (dv 0) dp_none (dp_some de_int))) (blkOk_by (own := [("_law_cell", 1)]) (N := N__law_mason) (sc := defScope s__law_mason) (by decide +kernel)) (fun _ _ _ _ _ => (dg_nm 1 sc__law_mason.nd)) (fun _ _ _ _ _ => dts_nil) (fun _ _ _ _ _ => (de_callT cd_int T.z_int (by decide +kernel) (da_cons (dv 1) da_nil)))) (da_cons de_int (da_cons de_int da_nil)))))), fun i cs hp => ?_⟩
  obtain ⟨ns, hn⟩ := i
  cases hp
  simp only [sp__law_mason]
  walk_at "dl"
  rw [cutD_to _ (by decide), show (60 : Int).toNat = 60 from rfl, ← List.map_take]
  refine ⟨by have := sizeLine_eq; simp; omega, ?_⟩
  refine lcP_i (lc_map (fun d => d) (hW := trivial) _ _ (fun d hd => ?_) ?_)
  · obtain ⟨n, hn, rfl⟩ := List.mem_map.mp hd
    refine ⟨_, rfl, fun R h => ?_⟩
    walk_at "dl"
    exact h
  · walk_at "dl"
    refine ⟨ns.take 60, by simp; omega, ?_⟩
    simp [svc, Function.comp_def]
end
section
abbrev sp_Program___eq__ (c : Cs) : FSpec := { ι := Nat × List Deed, args := fun i => [progD c.Program i.1 i.2, progD c.Program i.1 i.2], pre := fun _ _ => True, res := fun _ cs d cs' => d = .bl true ∧ cs' = cs }
theorem prog_eq_i {c : Cs} {n : Nat} {ds : List Deed} {neg : Bool} {cs : Sto} {Q : PD} {z : Lz (sp_Program___eq__ c, Q)} (q : Q (.bl (if neg = true then !true else true)) cs) : eqXP (sp_Program___eq__ c) c.Program neg [("wires", .int n), ("deeds", .tup (dL ds))] [("wires", .int n), ("deeds", .tup (dL ds))] cs Q z := eqXP_i (n, ds) rfl trivial fun _ _ ⟨e1, e2⟩ => ⟨true, e1, by subst e2; exact q⟩
theorem calm_Program___eq__ (c : Cs) : Calm (sp_Program___eq__ c) := ⟨fun _ _ _ _ h => h⟩
set_option maxHeartbeats 4000000 in
theorem ok_Program___eq__ (T : Txt P w K mg) : FnG P w K mg base CX0 1 T.f_Program___eq__ T.d_Program___eq__ ["self", "other"] (dSp K (sp_Program___eq__ T.cs)) := by
  refine dfun T.F_Program___eq__ sc_Program___eq__ (fun i => by first | rfl | (cases i <;> rfl)) fun cdv A outer s H E hr => ⟨_, (dss_cons (ds_if (dt_not (dt_tru (de_callB (cd_isC T.c_Program) T.z_isinstance (by decide +kernel) (da_cons (dv 1) (da_cons (de_glob (D.ref T.cs.Program) (v := .ref T.cs.Program) (by rfl) T.m_Program rfl (fun _ => rfl)) da_nil))))) (dss_one (ds_ret de_bl)) dss_nil)
      (dss_one (ds_ret (de_and (de_cmp (opd_eq hr.r.units) (de_fld T.c_Program.cl T.n_Program_wires (dv 0)) (de_fld T.c_Program.cl T.n_Program_wires (dv 1))) (de_one (de_cmp (opd_eq hr.r.units) (de_fld T.c_Program.cl T.n_Program_deeds (dv 0)) (de_fld T.c_Program.cl T.n_Program_deeds (dv 1)))))))), fun i cs hp => ?_⟩
  obtain ⟨n, ds⟩ := i
  have hI : ∀ (S : Sto) (n : Nat) (ds : List Deed), insAt S T.cs.Program (progD T.cs.Program n ds) = some ([("wires", .int n), ("deeds", .tup (dL ds))] : List (Str × D)) := fun S n ds => insAt_obj _ _
  have hC : ∀ (S : Sto) (n : Nat) (ds : List Deed), isiC T.cs.Program S (progD T.cs.Program n ds) = some true := fun S n ds => isiC_obj _ _
  repeat (first | walk_at "dl" | simp only [hI, hC, eqD_deeds])
end
section
abbrev sp__law_hew : FSpec := { ι := LI, args := fun l => [.cell l.i, .int l.many], pre := fun l cs => SvN l.i l.n cs ∧ 0 < l.many ∧ l.many < 2 ^ 64 ∧ l.n ≤ 100000, res := fun l cs d cs' => ∃ r, d = .int r ∧ 0 ≤ r ∧ r < l.many ∧ Mv l.i (l.n + 1) cs cs' }
theorem ladle_i {j n : Nat} {m : Int} {cs : Sto} {Q : PD} {z : Lz (sp__law_hew, Q)} (h1 : SvN j n cs) (h2 : 0 < m) (h3 : m < 2 ^ 64) (h4 : n ≤ 100000) (q : ∀ r cs', 0 ≤ r → r < m → Mv j (n + 1) cs cs' → Q (.int r) cs') : callP sp__law_hew [.cell j, .int m] cs Q z :=
  callP_i ⟨j, m, n⟩ rfl ⟨h1, h2, h3, h4⟩ fun d cs' ⟨r, e, a, b, mv⟩ => by subst e; exact q r cs' a b mv
theorem calm__law_hew : Calm sp__law_hew := ⟨fun _ _ _ _ h => h⟩
set_option maxHeartbeats 4000000 in
theorem ok__law_hew (T : Txt P w K mg) : FnG P w K mg base CX0 3 T.f__law_hew T.d__law_hew ["_law_mason_here", "_law_many"] (dSp K sp__law_hew) := by
  refine dfun T.F__law_hew sc__law_hew (fun i => by first | rfl | (cases i <;> rfl)) fun cdv A outer s H E hr => ⟨_, (dss_cons (ds_if (dt_cmp opd_gt (de_ix (dv 0) de_int) de_int) (dss_cons (ds_set (i := 5) sc__law_hew.nd (de_callT cd_int T.z_int (by decide +kernel) (da_cons (de_ix (dv 0) de_int) da_nil)))
      (dss_cons (ds_store (de_op opd_fdiv (dv 5) (dv 1)) (dv 0) de_int)
      (dss_one (ds_ret (de_op opd_mod (de_callT cd_int T.z_int (by decide +kernel) (da_cons (dv 5) da_nil)) (dv 1)))))) dss_nil)
      (dss_cons (ds_set (i := 2) sc__law_hew.nd (de_ix (dv 0) de_int))
      (dss_cons (ds_store (de_op opd_add (dv 2) de_int) (dv 0) de_int)
      (dss_cons (ds_set (i := 3) sc__law_hew.nd (de_op opd_add (de_op opd_mul de_int (dv 2)) de_int))
      (dss_cons (ds_if (dt_cmp (opd_neX (calm_Program___eq__ T.cs) T.q_Program (ok_Program___eq__ T) T.b_Program___eq__ (hr.mono (by decide)) hr.r.units) (de_ix (dv 0) de_int) (de_lst da_nil)) (dss_one (ds_set (i := 3) sc__law_hew.nd (de_ix (de_ix (dv 0) de_int) (de_op opd_mod (de_callT cd_int T.z_int (by decide +kernel) (da_cons (dv 2) da_nil)) (de_callB cd_len T.z_len (by decide +kernel) (da_cons (de_ix (dv 0) de_int) da_nil)))))) dss_nil)
      (dss_cons (ds_if (dt_of (dw_and (dt_cmp opd_lt (dv 2) (de_callB cd_len T.z_len (by decide +kernel) (da_cons (de_ix (dv 0) de_int) da_nil))) (dw_and1 (dt_cmp opd_ge (de_callB cd_abs T.z_abs (by decide +kernel) (da_cons (dv 3) da_nil)) (de_op opd_pow de_int de_int))))) (dss_cons (ds_set (i := 5) sc__law_hew.nd (de_op opd_add (de_op opd_mul de_int (de_op opd_sub (de_callB cd_abs T.z_abs (by decide +kernel) (da_cons (de_callT cd_int T.z_int (by decide +kernel) (da_cons (dv 3) da_nil)) da_nil)) (de_op opd_pow de_int de_int))) (de_callT cd_int T.z_int (by decide +kernel) (da_cons (de_cmp opd_lt (dv 3) de_int) da_nil))))
      (dss_cons (ds_store (de_op opd_fdiv (dv 5) (dv 1)) (dv 0) de_int)
      (dss_one (ds_ret (de_op opd_mod (de_callT cd_int T.z_int (by decide +kernel) (da_cons (dv 5) da_nil)) (dv 1)))))) dss_nil)
      (dss_cons (ds_set (i := 4) sc__law_hew.nd (de_op opd_mod (de_callT cd_int T.z_int (by decide +kernel) (da_cons (de_op opd_pow (de_op opd_add (de_op opd_add (de_op opd_mod (de_callT cd_int T.z_int (by decide +kernel) (da_cons (dv 3) da_nil)) de_int) (de_op opd_mul de_int (dv 2))) de_int) de_int) da_nil)) de_int))
      (dss_cons (ds_set (i := 4) sc__law_hew.nd (de_op opd_mod (de_callT cd_int T.z_int (by decide +kernel) (da_cons (de_op opd_pow (de_op opd_add (de_op opd_add (de_op opd_mul (dv 4) (de_op opd_add (de_op opd_mul de_int (dv 2)) de_int)) (de_op opd_mul (de_op opd_mul de_int (dv 2)) (dv 2))) de_int) de_int) da_nil)) de_int))
      (dss_one (ds_ret (de_op opd_mod (de_callT cd_int T.z_int (by decide +kernel) (da_cons (de_op opd_fdiv (dv 4) de_int) da_nil)) (dv 1)))))))))))), fun i cs hp => ?_⟩
  obtain ⟨j, many, n⟩ := i
  obtain ⟨⟨ns, k, r, hc, k0, k1, hl⟩, m0, m1, hn⟩ := hp
  have hj : j < cs.length := (List.getElem?_eq_some_iff.mp hc).1
  have hL : lstAt cs j = some [.lst (ns.map .int), .int k, .int r] := lstAt_get hc
  have m2 : many < 18446744073709551616 := by have m1' : many < 2 ^ 64 := m1; omega
  have k2 : k ≤ 100000 := by have hn' : n ≤ 100000 := hn; have k1' : k ≤ (n : Int) := k1; omega
  have k3 : -18446744073709551616 < k := by omega
  have k4 : k < 18446744073709551616 := by omega
  have k5 : k ≤ (n : Int) := k1
  have k6 : k ≤ (n : Int) + 1 := by omega
  have k7 : k + 1 ≤ (n : Int) + 1 := by omega
  have k8 : 0 ≤ k + 1 := by omega
  have m4 : 0 < many := m0
  have fin : ∀ x k' r' : Int, 0 ≤ k' → k' ≤ (n : Int) + 1 → ∃ y, D.int (x % many) = D.int y ∧ 0 ≤ y ∧ y < many ∧ Mv j (n + 1) cs (cs.set j (svc ns k' r')) := fun x k' r' h1 h2 =>
    ⟨_, rfl, Int.emod_nonneg _ (by omega), Int.emod_lt_of_pos _ m4, Mv.set hj h1 h2 hl⟩
  clear hc m1 hn k1 m0
  walk_at "dlh"
  refine cond2_d (fun h => ?_) (fun h => ?_)
  · walk_at "dlh"
    exact fin _ _ _ k0 k6
  walk_at "dlh"
  refine cond2_i (fun hb => ?_) (fun hb => ?_)
  case' refine_1 =>
    have hb' : ns.isEmpty = false := by simpa using hb
    obtain ⟨x, hx⟩ := atI_mod hb' k0
    have hp := len_pos hb'
  all_goals
    walk_at "dlh"
    refine cond2_d (fun h1 => ?_) (fun h1 => ?_)
  case' refine_1.refine_1 =>
    walk_at "dlh"
    refine cond2_d (fun h2 => ?_) (fun h2 => ?_)
  case' refine_2.refine_1 =>
    walk_at "dlh"
    refine cond2_d (fun h2 => ?_) (fun h2 => ?_)
  all_goals walk_at "dlh"
  all_goals first
    | exact fin _ _ _ k8 k7
    | exact ⟨mix1 (by decide) (by decide) k0 (Int.le_trans k2 (by decide)) (by decide) (by decide) (by decide) (by decide) (by decide) (by decide), cMul_mod (by decide) (by decide), mix3 (by decide) (by decide) k0 (Int.le_trans k2 (by decide)) (by decide) (by decide) (by decide) (by decide) (by decide) (by decide) (by decide) (by decide) (by decide) (by decide), fin _ _ _ k8 k7⟩
end
section
structure LO where
  i : Nat
  ds : List D
  n : Nat
abbrev sp__law_one : FSpec := { ι := LO, args := fun l => [.cell l.i, .lst l.ds], pre := fun l cs => SvN l.i l.n cs ∧ 0 < l.ds.length ∧ l.ds.length < 1000000 ∧ l.n ≤ 100000, res := fun l cs d cs' => d ∈ l.ds ∧ Mv l.i (l.n + 1) cs cs' }
theorem one_i {j n : Nat} {ds : List D} {cs : Sto} {Q : PD} {z : Lz (sp__law_one, Q)} (h1 : SvN j n cs) (h2 : 0 < ds.length) (h3 : ds.length < 1000000) (h4 : n ≤ 100000) (q : ∀ d cs', d ∈ ds → Mv j (n + 1) cs cs' → Q d cs') : callP sp__law_one [.cell j, .lst ds] cs Q z :=
  callP_i ⟨j, ds, n⟩ rfl ⟨h1, h2, h3, h4⟩ fun d cs' ⟨hd, mv⟩ => q d cs' hd mv
theorem calm__law_one : Calm sp__law_one := ⟨fun _ _ _ _ h => h⟩
set_option maxHeartbeats 4000000 in
theorem ok__law_one (T : Txt P w K mg) : FnG P w K mg base CX0 4 T.f__law_one T.d__law_one ["_law_mason_here", "_law_some"] (dSp K sp__law_one) := by
  refine dfun T.F__law_one sc__law_one (fun i => by first | rfl | (cases i <;> rfl)) fun cdv A outer s H E hr => ⟨_, (dss_one (ds_ret (de_ix (dv 1) (de_call calm__law_hew (ok__law_hew T) (hr.mono (by decide)) T.m__law_hew T.F__law_hew.kp T.b__law_hew (da_cons (dv 0) (da_cons (de_callB cd_len T.z_len (by decide +kernel) (da_cons (dv 1) da_nil)) da_nil)))))), fun i cs hp => ?_⟩
  obtain ⟨j, ds, n⟩ := i
  obtain ⟨h1, h2, h3, h4⟩ := hp
  have h2' : 0 < ds.length := h2
  have h3' : ds.length < 1000000 := h3
  walk_at "dl"
  refine callP_i ⟨j, ds.length, n⟩ rfl ⟨h1, by show (0 : Int) < ds.length; omega, by show (ds.length : Int) < 2 ^ 64; omega, h4⟩ ?_
  rintro _ cs' ⟨r, rfl, r0, r1, mv⟩
  obtain ⟨m, rfl⟩ := Int.eq_ofNat_of_zero_le r0
  have hm : m < ds.length := by
    have r1' : (m : Int) < ds.length := r1
    omega
  walk_at "dl"
  simp only [DL.atI_nat, List.getElem?_eq_getElem hm]
  walk_at "dl"
  exact ⟨List.getElem_mem hm, mv⟩
end
section
abbrev sp__law_deed : FSpec := { ι := (Nat × Nat) × Nat, args := fun l => [.cell l.1.1, .int l.2], pre := fun l cs => SvN l.1.1 l.1.2 cs ∧ l.1.2 ≤ 90000 ∧ 1 ≤ l.2 ∧ l.2 ≤ 8, res := fun l cs d cs' => ∃ x : Deed, d = x.d ∧ x.ok l.2 ∧ Mv l.1.1 (l.1.2 + 5) cs cs' }
theorem ldeed_i {j n w : Nat} {cs : Sto} {Q : PD} {z : Lz (sp__law_deed, Q)} (h : SvN j n cs) (h2 : n ≤ 90000) (w1 : 1 ≤ w) (w8 : w ≤ 8) (q : ∀ (x : Deed) cs', x.ok w → Mv j (n + 5) cs cs' → Q x.d cs') : callP sp__law_deed [.cell j, .int w] cs Q z := callP_i ((j, n), w) rfl ⟨h, h2, w1, w8⟩ fun d cs' ⟨x, e1, e2, e3⟩ => by subst e1; exact q x cs' e2 e3
def WdP (w : Nat) (d : D) : Prop := ∃ v : Wd, d = .str v.s ∧ v.n ≤ w
theorem wdP_of {w : Nat} {l : List D} (h : ∀ x ∈ l, WdP w x) {d : D} (hd : d ∈ l) : WdP w d := h d hd
theorem calm__law_deed : Calm sp__law_deed := ⟨fun _ _ _ _ h => h⟩
set_option maxHeartbeats 4000000 in
theorem ok__law_deed (T : Txt P w K mg) : FnG P w K mg base CX0 5 T.f__law_deed T.d__law_deed ["_law_mason_here", "_law_wires"] (dSp K sp__law_deed) := by
  refine dfunT T.F__law_deed sc__law_deed (fun i => by first | rfl | (cases i <;> rfl)) fun cdv A outer s H E hr => ⟨_, (dss_cons (ds_par (i := 6) (j := 7) rfl sc__law_deed.nd (da_cons (de_celRg1 rfl T.z_list T.z_range (dv 1)) (da_cons (de_cel da_nil) da_nil)))
      (dss_cons (ds_set (i := 2) sc__law_deed.nd (de_op opd_add (de_lst (da_cons de_str (da_cons de_str (da_cons de_str (da_cons de_str (da_cons de_str da_nil)))))) (de_op opd_mul (de_lst (da_cons de_str (da_cons de_str (da_cons de_str (da_cons de_str (da_cons de_str da_nil)))))) (de_callT cd_int T.z_int (by decide +kernel) (da_cons (de_cmp opd_gt (dv 1) de_int) da_nil)))))
      (dss_cons (ds_set (i := 3) sc__law_deed.nd (de_call calm__law_one (ok__law_one T) (hr.mono (by decide)) T.m__law_one T.F__law_one.kp T.b__law_one (da_cons (dv 0) (da_cons (de_op opd_add (dv 2) (de_op opd_mul (de_lst (da_cons de_str da_nil)) (de_callT cd_int T.z_int (by decide +kernel) (da_cons (de_cmp opd_gt (dv 1) de_int) da_nil)))) da_nil))))
      (dss_cons (ds_set (i := 4) sc__law_deed.nd (de_mt (md_dget (hu_of hr.r)) PySem.F.plainAttrs_dict PySem.F.slot_dict_get PySem.F.type_dict_get (de_dic (dpr_cons de_str de_int (dpr_cons de_str de_int (dpr_cons de_str de_int (dpr_cons de_str de_int dpr_nil))))) (da_cons (dv 3) (da_cons de_int da_nil))))
      (dss_cons (ds_for PassesOwn.never rfl (di_range1 T.z_range (da_cons (dv 4) da_nil)) (dg_nm 5 sc__law_deed.nd) (dss_one (ds_expr (de_append (dv 7) (da_cons (de_mt md_popAt PySem.F.plainAttrs_list PySem.F.slot_list_pop PySem.F.type_list_pop (dv 6) (da_cons (de_call calm__law_hew (ok__law_hew T) (hr.mono (by decide)) T.m__law_hew T.F__law_hew.kp T.b__law_hew (da_cons (dv 0) (da_cons (de_callB cd_len T.z_len (by decide +kernel) (da_cons (dv 6) da_nil)) da_nil))) da_nil)) da_nil)))))
      (dss_one (ds_ret (de_op opd_add (de_op opd_add (de_tup (da_cons (dv 3) da_nil)) (de_callT cd_tup T.z_tuple (by decide +kernel) (da_cons (dv 7) da_nil))) (de_if (dt_cmp (opd_eqX (calm_Program___eq__ T.cs) T.q_Program (ok_Program___eq__ T) T.b_Program___eq__ (hr.mono (by decide)) hr.r.units) (dv 3) de_str) (de_tup (da_cons (de_op opd_add de_int (de_call calm__law_hew (ok__law_hew T) (hr.mono (by decide)) T.m__law_hew T.F__law_hew.kp T.b__law_hew (da_cons (dv 0) (da_cons de_int da_nil)))) da_nil)) (de_tup da_nil)))))))))), fun i cs hk hp => ?_⟩
  obtain ⟨⟨j, n⟩, w⟩ := i
  obtain ⟨hs, hn, w1, w8⟩ : SvN j n cs ∧ n ≤ 90000 ∧ 1 ≤ w ∧ w ≤ 8 := hp
  have hj := svn_lt hs
  have hR : RgOk 0 (w : Int) = True := RgOk_nat (by omega)
  have e0 : rngD 0 w = nT (List.range w) := by
    unfold rngD nT
    refine List.map_congr_left fun i _ => ?_
    rw [Int.zero_add]
  have hlr : (nT (List.range w)).length ≤ sizeLine := by rw [nT_len, List.length_range, sizeLine_eq]; omega
  walk_at "dl"
  have hc : (1 < w ∧ 2 < w) ∨ (1 < w ∧ ¬ 2 < w) ∨ (¬ 1 < w ∧ ¬ 2 < w) := by omega
  have d1 : decide ((1 : Int) < (w : Int)) = decide (1 < w) := by
    by_cases h : 1 < w
    · rw [decide_eq_true h, decide_eq_true (by omega)]
    · rw [decide_eq_false h, decide_eq_false (by omega)]
  have d2 : decide ((2 : Int) < (w : Int)) = decide (2 < w) := by
    by_cases h : 2 < w
    · rw [decide_eq_true h, decide_eq_true (by omega)]
    · rw [decide_eq_false h, decide_eq_false (by omega)]
  rcases hc with ⟨h1, h2⟩ | ⟨h1, h2⟩ | ⟨h1, h2⟩
  all_goals
    repeat (first | walk_at "dl" | simp only [hR, e0, d1, d2, h1, h2, decide_true, decide_false, List.replicate_succ, List.replicate_zero, Int.toNat_one, Int.toNat_zero, List.flatten_cons, List.flatten_nil])
    refine one_i (n := n) (svn_app (svn_app hs)) (by simp) (by simp) (by omega) fun d cs1 hd mvS => ?_
    have hW : WdP w d := wdP_of (by
      repeat' first | exact List.forall_mem_nil _ | refine List.forall_mem_cons.mpr ⟨?_, ?_⟩
      all_goals first | exact ⟨.turn, rfl, by show 1 ≤ w; omega⟩ | exact ⟨.mix, rfl, by show 1 ≤ w; omega⟩ | exact ⟨.no, rfl, by show 1 ≤ w; omega⟩ | exact ⟨.sign, rfl, by show 2 ≤ w; omega⟩ | exact ⟨.under, rfl, by show 2 ≤ w; omega⟩ | exact ⟨.swap, rfl, by show 2 ≤ w; omega⟩ | exact ⟨.both, rfl, by show 3 ≤ w; omega⟩) hd
    obtain ⟨v, rfl, hv⟩ := hW
    obtain ⟨cs2, rfl, mv2⟩ := mv_app2 hj mvS
    have hl2 : cs.length = cs2.length := mv2.len.symm
    have hRv : RgOk 0 (v.n : Int) = True := RgOk_nat (by omega)
    have hv3 := v.n_le
    have hj2 := svn_lt mv2.sv
    repeat (first | walk_at "dl" | simp only [hRv])
    clear hd
    refine ⟨by decide, by omega, ?_⟩
    rw [app_len]
    generalize some (D.lst _) = o2
    refine forP_i (for_inv (fun k env S => ∃ (o5 : Option D) (lf fd : List Nat) (S1 : Sto), env = [some (.cell j), some (.int w), o2, some (.str v.s), some (.int v.n), o5, some (.cell cs.length), some (.cell (cs.length + 1))] ∧ S = S1 ++ [.lst (nT lf)] ++ [.lst (nT fd)] ∧ fd.length = k ∧ (fd ++ lf).Perm (List.range w) ∧ Mv j (n + 1 + k) cs S1) _ _ _ ⟨_, List.range w, [], cs2, rfl, rfl, rfl, by simp, mv2⟩ (fun _ _ _ _ => trivial) ?_ ?_)
    · rintro k e _ _ he ⟨o5, lf, fd, S1, rfl, rfl, hfd, hperm, mv4⟩
      have hk3 : k < v.n := by
        have := (List.getElem?_eq_some_iff.mp he).1
        rwa [rngD_len] at this
      have hlw := hperm.length_eq
      rw [List.length_append, List.length_range] at hlw
      have hlS : cs.length = S1.length := mv4.len.symm
      have hnl : (nT lf).length = lf.length := nT_len lf
      refine ⟨_, rfl, fun E' hn2 _ _ _ => ?_⟩
      rw [hlS]
      repeat (first | walk_at "dl" | simp only [lstAt_app2, lstAt_app1s, Option.isSome_some, hnl])
      refine ladle_i (n := n + 1 + k) (svn_app2 mv4.sv) (by omega) (by omega) (by omega) fun rl S2 r0 r1 mv5 => ?_
      obtain ⟨S3, rfl, mv3⟩ := mv_app2 (svn_lt mv4.sv) mv5
      obtain ⟨r, rfl⟩ := Int.eq_ofNat_of_zero_le r0
      have hrl : r < lf.length := by omega
      have hlen3 : S1.length = S3.length := mv3.len.symm
      have sx : seqIndex? (r : Int) lf.length = some r := by
        have := seqIx (i := (r : Int)) (n := lf.length) (by omega) (by omega)
        rwa [Int.toNat_natCast] at this
      have gx : (nT lf)[r]? = some (.int (lf[r] : Nat)) := by
        rw [nT, List.getElem?_map, List.getElem?_eq_getElem hrl]
        rfl
      have ex := nT_erase lf r
      have px := perm_pop hperm hrl
      have hbd : -9223372036854775808 ≤ (r : Int) ∧ (r : Int) < 9223372036854775808 := by omega
      rw [hlen3]
      have hsz : (nT fd).length < sizeLine := by
        rw [nT_len, sizeLine_eq]
        omega
      repeat (first | walk_at "dl" | simp only [lstAt_app2, lstAt_app1s, set_app2, set_app1s, hnl, sx, gx, ex, Option.isSome_some] | refine ⟨hbd, ?_⟩ | refine ⟨hsz, ?_⟩)
      rw [hlS, hlen3] at hn2
      refine hn2 _ _ ⟨_, lf.eraseIdx r, fd ++ [lf[r]], S3, rfl, ?_, by rw [List.length_append, hfd]; rfl, px, (mv4.trans mv3).mono (by omega)⟩
      rw [← nT_app]
      rfl
    · rintro _ _ ⟨o5, lf, fd, S1, rfl, rfl, hfd, hperm, mv4⟩
      rw [rngD_len] at hfd mv4
      have hlS : cs.length = S1.length := mv4.len.symm
      have hnd : fd.Nodup := ((hperm.nodup_iff.mpr List.nodup_range).sublist (List.sublist_append_left _ _))
      have hlt : ∀ a ∈ fd, a < w := fun a ha => List.mem_range.mp (hperm.mem_iff.mp (List.mem_append_left _ ha))
      rw [hlS]
      have hsf : (nT fd).length ≤ sizeLine := by rw [nT_len, sizeLine_eq]; omega
      repeat (first | walk_at "dl" | simp only [lstAt_app1s, hsf])
      have hsf2 : 1 + (nT fd).length ≤ sizeLine := by rw [nT_len, sizeLine_eq]; omega
      refine ⟨hsf2, cond2_d (fun hb => ?_) (fun hb => ?_)⟩
      · walk_at "dl"
        refine ladle_i (n := n + 1 + v.n) (svn_app2 mv4.sv) (by omega) (by omega) (by omega) fun rl S2 r0 r1 mv5 => ?_
        obtain ⟨S3, rfl, mv3⟩ := mv_app2 (svn_lt mv4.sv) mv5
        obtain ⟨r, rfl⟩ := Int.eq_ofNat_of_zero_le r0
        have hsf3 : (nT fd).length + 1 + 1 ≤ sizeLine := by rw [nT_len, sizeLine_eq]; omega
        repeat (first | walk_at "dl" | refine ⟨hsf3, ?_⟩)
        rw [← hlS, List.append_assoc]
        subst hb
        have e1 : D.tup (D.str (Wd.turn).s :: (nT fd ++ [D.int (1 + (r : Int))])) = Deed.d ⟨.turn, fd, 1 + r⟩ := by
          simp only [Deed.d, Deed.ds, Deed.tl, if_true]
          rw [Int.natCast_add]
          rfl
        rw [e1]
        refine trim_mv (mv4.trans mv3) hk (okD_deed _ _) ⟨_, rfl, ⟨hfd, hnd, hlt, ?_⟩, (mv4.trans mv3).mono (by have : (Wd.turn).n = 1 := rfl; omega)⟩
        rw [if_pos rfl]
        show 1 ≤ 1 + r ∧ 1 + r ≤ 7
        omega
      · have hsf3 : (nT fd).length + 1 ≤ sizeLine := by rw [nT_len, sizeLine_eq]; omega
        repeat (first | walk_at "dl" | refine ⟨hsf3, ?_⟩)
        rw [← hlS, List.append_assoc]
        have e1 : D.tup (D.str v.s :: nT fd) = Deed.d ⟨v, fd, 0⟩ := by
          simp only [Deed.d, Deed.ds, Deed.tl]
          rw [if_neg hb, List.append_nil]
        rw [e1]
        refine trim_mv mv4 hk (okD_deed _ _) ⟨_, rfl, ⟨hfd, hnd, hlt, ?_⟩, mv4.mono (by omega)⟩
        rw [if_neg hb]
end
section
abbrev sp_is_integer : FSpec := { ι := D, args := fun d => [d], pre := fun d _ => kd d = true, res := fun d cs r cs' => r = .bl (isIntD d) ∧ cs' = cs }
theorem is_integerD_i {d : D} {cs : Sto} {Q : PD} {z : Lz (sp_is_integer, Q)} (h : kd d = true) (q : Q (.bl (isIntD d)) cs) : callP sp_is_integer [d] cs Q z := callP_i d rfl h fun _ _ ⟨e1, e2⟩ => by subst e1; subst e2; exact q
theorem calm_is_integer : Calm sp_is_integer := ⟨fun _ _ _ _ h => h⟩
set_option maxHeartbeats 4000000 in
theorem ok_is_integer (T : Txt P w K mg) : FnG P w K mg base CX0 1 T.f_is_integer T.d_is_integer ["value"] (dSp K sp_is_integer) := by
  refine dfun T.F_is_integer sc_is_integer (fun i => by first | rfl | (cases i <;> rfl)) fun cdv A outer s H E hr => ⟨_, (dss_one (ds_ret (de_and (de_callB cd_isi T.z_isinstance (by decide +kernel) (da_cons (dv 0) (da_cons (de_bltn (D.ty "int") (v := .ty "int") (by rfl) T.z_int (by decide +kernel) rfl (fun _ => rfl)) da_nil))) (de_one (de_not (de_callB cd_isi T.z_isinstance (by decide +kernel) (da_cons (dv 0) (da_cons (de_bltn (D.ty "bool") (v := .ty "bool") (by rfl) T.z_bool (by decide +kernel) rfl (fun _ => rfl)) da_nil)))))))), fun i cs hp => ?_⟩
  have h : kd i = true := hp
  simp only [sp_is_integer]
  cases i with
  | ty n => cases h
  | ref a => cases h
  | obj C fs => cases h
  | cell j => cases h
  | scr ns => cases h
  | err C fs => cases h
  | _ =>
    walk_at "dl"
    simp only [isIntD]
end
section
abbrev sp_is_within : FSpec := { ι := D × Option Int × Option Int, args := fun i => [i.1, oD i.2.1, oD i.2.2], pre := fun i _ => kd i.1 = true, res := fun i cs d cs' => d = .bl (withinD i.1 i.2.1 i.2.2) ∧ cs' = cs }
theorem is_withinD_i {d : D} {lo hi : Option Int} {cs : Sto} {Q : PD} {z : Lz (sp_is_within, Q)} (h : kd d = true) (q : Q (.bl (withinD d lo hi)) cs) : callP sp_is_within [d, oD lo, oD hi] cs Q z := callP_i (d, lo, hi) rfl h fun _ _ ⟨e1, e2⟩ => by subst e1; subst e2; exact q
theorem is_within_i {v a b : Int} {cs : Sto} {Q : PD} {z : Lz (sp_is_within, Q)} (h1 : a ≤ v) (h2 : v ≤ b) (q : Q (.bl true) cs) : callP sp_is_within [.int v, .int a, .int b] cs Q z := is_withinD_i (d := .int v) (lo := some a) (hi := some b) rfl (by
  have : withinD (.int v) (some a) (some b) = true := by simp only [withinD, geO, leO, eq_true h1, eq_true h2, decide_true, Bool.and_self]
  rw [this]
  exact q)
theorem is_within0_i {v a : Int} {cs : Sto} {Q : PD} {z : Lz (sp_is_within, Q)} (h1 : a ≤ v) (q : Q (.bl true) cs) : callP sp_is_within [.int v, .int a, .non] cs Q z := is_withinD_i (d := .int v) (lo := some a) (hi := none) rfl (by
  have : withinD (.int v) (some a) none = true := by simp only [withinD, geO, leO, eq_true h1, decide_true, Bool.and_self]
  rw [this]
  exact q)
theorem calm_is_within : Calm sp_is_within := ⟨fun _ _ _ _ h => h⟩
set_option maxHeartbeats 4000000 in
theorem ok_is_within (T : Txt P w K mg) : FnG P w K mg base CX0 2 T.f_is_within T.d_is_within ["value", "least", "most"] (dSp K sp_is_within) := by
  refine dfun T.F_is_within sc_is_within (fun i => by first | rfl | (cases i <;> rfl)) fun cdv A outer s H E hr => ⟨_, (dss_cons (ds_if (dt_not (dt_tru (de_call calm_is_integer (ok_is_integer T) (hr.mono (by decide)) T.m_is_integer T.F_is_integer.kp T.b_is_integer (da_cons (dv 0) da_nil)))) (dss_one (ds_ret de_bl)) dss_nil)
      (dss_one (ds_ret (de_and (de_or (de_cmp opd_is (dv 1) de_non) (de_one (de_cmp opd_le (dv 1) (dv 0)))) (de_one (de_or (de_cmp opd_is (dv 2) de_non) (de_one (de_cmp opd_le (dv 0) (dv 2))))))))), fun i cs hp => ?_⟩
  obtain ⟨d, lo, hi⟩ := i
  have h : kd d = true := hp
  simp only [sp_is_within]
  walk_at "dl"
  refine is_integerD_i h ?_
  walk_at "dl"
  cases hd : isIntD d with
  | false =>
    walk_at "dl"
    cases d with
    | int v => cases hd
    | _ => rfl
  | true =>
    cases d with
    | int v =>
      walk_at "dl"
      cases lo with
      | none =>
        simp only [oD]
        walk_at "dl"
        cases hi with
        | none =>
          simp only [oD]
          walk_at "dl"
          simp only [withinD, geO, leO, Bool.and_self]
        | some b =>
          simp only [oD]
          walk_at "dl"
          simp only [withinD, geO, leO, Bool.true_and]
      | some a =>
        simp only [oD]
        walk_at "dl"
        refine cond2_d (fun q => ?_) (fun q => ?_)
        · cases hi with
          | none =>
            simp only [oD]
            walk_at "dl"
            simp only [withinD, geO, leO, decide_eq_true q, Bool.and_self]
          | some b =>
            simp only [oD]
            walk_at "dl"
            simp only [withinD, geO, leO, decide_eq_true q, Bool.true_and]
        · simp only [withinD, geO, decide_eq_false q, Bool.false_and, and_self]
    | _ => cases hd
end
section
local macro_rules | `(tactic| walk_at "k") => `(tactic| refine is_within_i (by omega) (by omega) ?_)
local macro_rules | `(tactic| walk_at "k") => `(tactic| refine is_within0_i (by omega) ?_)
abbrev sp_is_deed : FSpec := { ι := Deed × Nat, args := fun i => [i.1.d, .int i.2], pre := fun i cs => i.1.ok i.2 ∧ i.2 ≤ 8, res := fun i cs d cs' => d = .bl true ∧ cs' = cs }
theorem is_deed_i {x : Deed} {n : Nat} {cs : Sto} {Q : PD} {z : Lz (sp_is_deed, Q)} (h2 : x.ok n) (h3 : n ≤ 8) (q : Q (.bl true) cs) : callP sp_is_deed [x.d, .int n] cs Q z := callP_i (x, n) rfl ⟨h2, h3⟩ fun _ _ ⟨e1, e2⟩ => by subst e1; subst e2; exact q
theorem calm_is_deed : Calm sp_is_deed := ⟨fun _ _ _ _ h => h⟩
set_option maxHeartbeats 4000000 in
theorem ok_is_deed (T : Txt P w K mg) : FnG P w K mg base CX0 3 T.f_is_deed T.d_is_deed ["value", "wires"] (dSp K sp_is_deed) := by
  refine dfun T.F_is_deed sc_is_deed (fun i => by first | rfl | (cases i <;> rfl)) fun cdv A outer s H E hr => ⟨_, (dss_cons (ds_if (dt_of (dw_or (dt_not (dt_tru (de_callB cd_isi T.z_isinstance (by decide +kernel) (da_cons (dv 0) (da_cons (de_tup (da_cons (de_bltn (D.ty "list") (v := .ty "list") (by rfl) T.z_list (by decide +kernel) rfl (fun _ => rfl)) (da_cons (de_bltn (D.ty "tuple") (v := .ty "tuple") (by rfl) T.z_tuple (by decide +kernel) rfl (fun _ => rfl)) da_nil))) da_nil))))) (dw_or (dt_cmp (opd_eq hr.r.units) (de_callB cd_len T.z_len (by decide +kernel) (da_cons (dv 0) da_nil)) de_int) (dw_or1 (dt_not (dt_tru (de_callB cd_isi T.z_isinstance (by decide +kernel) (da_cons (de_ix (dv 0) de_int) (da_cons (de_bltn (D.ty "str") (v := .ty "str") (by rfl) T.z_str (by decide +kernel) rfl (fun _ => rfl)) da_nil))))))))) (dss_one (ds_ret de_bl)) dss_nil)
      (dss_cons (ds_par (i := 3) (j := 4) rfl sc_is_deed.nd (da_cons (de_kget T.k_WIRES_IN (de_ix (dv 0) de_int) de_int) (da_cons (de_cmp (opd_eq hr.r.units) (de_ix (dv 0) de_int) de_str) da_nil)))
      (dss_cons (ds_if (dt_of (dw_or (dt_cmp (opd_eq hr.r.units) (dv 3) de_int) (dw_or1 (dt_cmp (opd_ne hr.r.units) (de_callB cd_len T.z_len (by decide +kernel) (da_cons (dv 0) da_nil)) (de_op opd_add (de_op opd_add de_int (dv 3)) (de_callT cd_int T.z_int (by decide +kernel) (da_cons (dv 4) da_nil))))))) (dss_one (ds_ret de_bl)) dss_nil)
      (dss_cons (ds_set (i := 2) sc_is_deed.nd (de_slice (dv 0) (dp_some de_int) (dp_some (de_op opd_add de_int (dv 3)))))
      (dss_cons (ds_if (dt_of (dw_or (dt_not (dt_tru (de_callB (cd_all rfl) T.z_all (by decide +kernel) (da_cons (de_lc (own := [("wire", 5)]) rfl sc_is_deed.nd (di_seq (dv 2)) (blkOk_by (own := [("wire", 5)]) (N := N_is_deed) (sc := defScope s_is_deed) (by decide +kernel)) (fun _ _ _ _ _ => (dg_nm 5 sc_is_deed.nd)) (fun _ _ _ _ _ => dts_nil) (fun _ _ _ _ _ => (de_call calm_is_within (ok_is_within T) (hr.mono (by decide)) T.m_is_within T.F_is_within.kp T.b_is_within (da_cons (dv 5) (da_cons de_int (da_cons (de_op opd_sub (dv 1) de_int) da_nil)))))) da_nil)))) (dw_or1 (dt_cmp opd_lt (de_lenSet rfl T.z_len T.z_set (dv 2)) (dv 3))))) (dss_one (ds_ret de_bl)) dss_nil)
      (dss_one (ds_ret (de_or (de_not (dv 4)) (de_one (de_call calm_is_within (ok_is_within T) (hr.mono (by decide)) T.m_is_within T.F_is_within.kp T.b_is_within (da_cons (de_ix (dv 0) de_int) (da_cons de_int (da_cons de_int da_nil))))))))))))), fun i cs hp => ?_⟩
  obtain ⟨x, n⟩ := i
  obtain ⟨h2, h3⟩ : x.ok n ∧ n ≤ 8 := hp
  have hz := Deed.ds_len h2
  have hw := x.w.n_le
  have hl : (x.ds.length : Int) = 1 + (x.w.n : Int) + (if x.w = .turn then 1 else 0) := by
    rw [hz]
    split <;> simp
  have i0 : atI x.ds 0 = some (.str x.w.s) := atI_zero _ _
  have e1 : decide ((x.ds.length : Int) = 1 + (x.w.n : Int) + (if decide (x.w = .turn) = true then 1 else 0)) = true := by
    rw [decide_eq_true_eq, hl]
    by_cases hb : x.w = .turn <;> simp [hb]
  have hne : decide ((x.ds.length : Int) = 0) = false := decide_eq_false (by rw [hz]; omega)
  have e0 : decide ((x.w.n : Int) = 0) = false := decide_eq_false (by omega)
  have ei := Deed.its h2
  have ew : ∀ a ∈ x.ws, (0 : Int) ≤ (a : Int) ∧ (a : Int) ≤ (n : Int) - 1 := fun a ha => by
    have := h2.lt a ha
    omega
  simp only [Deed.d]
  repeat (first | walk_at "dl" | simp only [i0, hne, e0, e1, ei])
  have hz1 : (nT x.ws).length ≤ sizeLine := by rw [nT_len, h2.len, sizeLine_eq]; omega
  refine ⟨hz1, lc_mp x.ws (fun a : Nat => D.int a) (fun _ => .bl true) trivial (fun a ha => ⟨_, rfl, fun R q => ?_⟩) ?_⟩
  · walk_at "dl"
    exact is_within_i (ew a ha).1 (ew a ha).2 q
  have hd : dnum (x.ws.map fun n : Nat => (n : Int)) = x.w.n := by rw [dnum_nodup (nodup_cast h2.nd), List.length_map, h2.len]
  have hd2 : decide ((x.w.n : Int) < (x.w.n : Int)) = false := decide_eq_false (by omega)
  repeat (first | walk_at "dl" | simp only [ei, bls_tr, all_tr, nums_nT, hd, hd2] | refine And.intro (by rw [h2.len]; omega : x.ws.length < 60) ?_)
  have ht := h2.t
  by_cases hb : x.w = .turn
  · rw [if_pos hb] at ht
    have i2 : atI x.ds 2 = some (.int x.t) := by
      have h1 := h2.len
      rw [hb] at h1
      obtain ⟨a, ea⟩ : ∃ a, x.ws = [a] := List.length_eq_one_iff.mp h1
      unfold Deed.ds Deed.tl
      rw [ea, if_pos hb]
      exact atI_2 _ _ _ _
    simp only [hb, decide_true]
    repeat (first | walk_at "dl" | simp only [i2])
    exact is_within_i (by omega) (by omega) ⟨rfl, rfl⟩
  · simp only [hb, decide_false]
    walk_at "dl"
    simp only [hb, decide_false, Bool.not_false, and_self]
end
section
local macro_rules | `(tactic| walk_at "k") => `(tactic| refine is_within_i (by omega) (by omega) ?_)
local macro_rules | `(tactic| walk_at "k") => `(tactic| refine is_within0_i (by omega) ?_)
abbrev sp_Program___init__ (c : Cs) : FSpec := { ι := (Nat × Nat) × List Deed × Bool, args := fun i => [.cell i.1.1, .int i.1.2, dsD i.2.1 i.2.2], pre := fun i cs => cs[i.1.1]? = some (.ins c.Program []) ∧ 1 ≤ i.1.2 ∧ i.1.2 ≤ 8 ∧ (∀ x ∈ i.2.1, x.ok i.1.2) ∧ i.2.1.length ≤ 200, res := fun i cs d cs' => d = .non ∧ cs' = cs.set i.1.1 (.ins c.Program [("wires", .int i.1.2), ("deeds", .tup (dL i.2.1))]) }
theorem okFs_prog (m n : Nat) (xs : List Deed) : okFs m [("wires", .int n), ("deeds", .tup (dL xs))] := by
  simp only [okFs, okD, and_true, true_and]
  exact okDs_deeds m xs
theorem mkProg_b {c : Cs} {n : Nat} {xs : List Deed} (t : Bool) {cs : Sto} {Q : PD} {z : Lz (sp_Program___init__ c, Q)} (h2 : 1 ≤ n) (h3 : n ≤ 8) (h4 : ∀ x ∈ xs, x.ok n) (h5 : xs.length ≤ 200) (q : Q (progD c.Program n xs) cs) :
    mkFP c.Program (sp_Program___init__ c) [.int n, dsD xs t] cs Q z := mkFP_i ((cs.length, n), xs, t) rfl ⟨by simp, h2, h3, h4, h5⟩ fun d cs' ⟨e1, e2⟩ => ⟨e1, cs, _, by rw [e2]; simp, rfl, okFs_prog _ _ _, id, q⟩
theorem mkProg_i {c : Cs} {n : Nat} {xs : List Deed} {cs : Sto} {Q : PD} {z : Lz (sp_Program___init__ c, Q)} (h2 : 1 ≤ n) (h3 : n ≤ 8) (h4 : ∀ x ∈ xs, x.ok n) (h5 : xs.length ≤ 200) (q : Q (progD c.Program n xs) cs) :
    mkFP c.Program (sp_Program___init__ c) [.int n, .lst (dL xs)] cs Q z := mkProg_b false h2 h3 h4 h5 q
theorem mkProg_t {c : Cs} {n : Nat} {xs : List Deed} {cs : Sto} {Q : PD} {z : Lz (sp_Program___init__ c, Q)} (h2 : 1 ≤ n) (h3 : n ≤ 8) (h4 : ∀ x ∈ xs, x.ok n) (h5 : xs.length ≤ 200) (q : Q (progD c.Program n xs) cs) :
    mkFP c.Program (sp_Program___init__ c) [.int n, .tup (dL xs)] cs Q z := mkProg_b true h2 h3 h4 h5 q
theorem calm_Program___init__ (c : Cs) : Calm (sp_Program___init__ c) := ⟨fun _ _ _ _ h => h⟩
set_option maxHeartbeats 4000000 in
theorem ok_Program___init__ (T : Txt P w K mg) : FnG P w K mg base CX0 4 T.f_Program___init__ T.d_Program___init__ ["self", "wires", "deeds"] (dSp K (sp_Program___init__ T.cs)) := by
  refine dfun T.F_Program___init__ sc_Program___init__ (fun i => by first | rfl | (cases i <;> rfl)) fun cdv A outer s H E hr => ⟨_, (dss_cons (ds_if (dt_not (dt_tru (de_call calm_is_within (ok_is_within T) (hr.mono (by decide)) T.m_is_within T.F_is_within.kp T.b_is_within (da_cons (dv 1) (da_cons de_int (da_cons (T.k_MOST_WIRES.de rfl) da_nil)))))) (dss_one ds_never) dss_nil)
      (dss_cons (ds_if (dt_of (dw_or (dt_not (dt_tru (de_callB cd_isi T.z_isinstance (by decide +kernel) (da_cons (dv 2) (da_cons (de_tup (da_cons (de_bltn (D.ty "list") (v := .ty "list") (by rfl) T.z_list (by decide +kernel) rfl (fun _ => rfl)) (da_cons (de_bltn (D.ty "tuple") (v := .ty "tuple") (by rfl) T.z_tuple (by decide +kernel) rfl (fun _ => rfl)) da_nil))) da_nil))))) (dw_or1 (dt_cmp opd_gt (de_callB cd_len T.z_len (by decide +kernel) (da_cons (dv 2) da_nil)) (T.k_MOST_DEEDS.de rfl))))) (dss_one ds_never) dss_nil)
      (dss_cons (ds_if (dt_not (dt_tru (de_callB (cd_all rfl) T.z_all (by decide +kernel) (da_cons (de_lc (own := [("each", 3)]) rfl sc_Program___init__.nd (di_seq (dv 2)) (blkOk_by (own := [("each", 3)]) (N := N_Program___init__) (sc := defScope s_Program___init__) (by decide +kernel)) (fun _ _ _ _ _ => (dg_nm 3 sc_Program___init__.nd)) (fun _ _ _ _ _ => dts_nil) (fun _ _ _ _ _ => (de_call calm_is_deed (ok_is_deed T) (hr.mono (by decide)) T.m_is_deed T.F_is_deed.kp T.b_is_deed (da_cons (dv 3) (da_cons (dv 1) da_nil))))) da_nil)))) (dss_one ds_never) dss_nil)
      (dss_cons (ds_fld T.c_Program.cl T.n_Program_wires (dv 1) (dv 0))
      (dss_one (ds_fld T.c_Program.cl T.n_Program_deeds (de_callT cd_tup T.z_tuple (by decide +kernel) (da_cons (de_lc (own := [("each", 3)]) rfl sc_Program___init__.nd (di_seq (dv 2)) (blkOk_by (own := [("each", 3)]) (N := N_Program___init__) (sc := defScope s_Program___init__) (by decide +kernel)) (fun _ _ _ _ _ => (dg_nm 3 sc_Program___init__.nd)) (fun _ _ _ _ _ => dts_nil) (fun _ _ _ _ _ => (de_callT cd_tup T.z_tuple (by decide +kernel) (da_cons (dv 3) da_nil)))) da_nil)) (dv 0))))))), fun i cs hp => ?_⟩
  obtain ⟨⟨j, n⟩, xs, t⟩ := i
  obtain ⟨h1, h2, h3, h4, h5⟩ : cs[j]? = some (.ins T.cs.Program []) ∧ 1 ≤ n ∧ n ≤ 8 ∧ (∀ x ∈ xs, x.ok n) ∧ xs.length ≤ 200 := hp
  have hA := insA_get h1
  have hz : (dL xs).length ≤ sizeLine := by rw [dL, List.length_map, sizeLine_eq]; omega
  have hz2 : decide ((200 : Int) < ((dL xs).length : Int)) = false := decide_eq_false (by rw [dL, List.length_map]; omega)
  have hj : j < cs.length := (List.getElem?_eq_some_iff.mp h1).1
  have hA2 : ∀ fs, insA (cs.set j (.ins T.cs.Program fs)) j = some (T.cs.Program, fs) := fun fs => insA_get (List.getElem?_set_self hj)
  have hP : ∀ x y : D, putD "deeds" y (putD "wires" x []) = ([("wires", x), ("deeds", y)] : List (Str × D)) := fun x y => rfl
  have hL : ∀ x : D, (putD "wires" x []).length < 1000 := fun x => (by show (1 : Nat) < 1000; decide)
  cases t
  all_goals
    simp only [dsD]
    walk_at "dl"
    refine is_within_i (by omega) (by omega) ?_
    repeat (first | walk_at "dl" | simp only [hz2])
    refine ⟨hz, lc_mp xs Deed.d (fun _ => .bl true) trivial (fun x hx => ⟨_, rfl, fun R q => ?_⟩) ?_⟩
    · walk_at "dl"
      exact is_deed_i (h4 x hx) h3 q
    repeat (first | walk_at "dl" | simp only [bls_tr, all_tr, hA])
    refine ⟨hz, lc_mp xs Deed.d Deed.d trivial (fun x hx => ⟨_, rfl, fun R q => ?_⟩) ?_⟩
    · simp only [Deed.d] at q ⊢
      walk_at "dl"
      exact q
    walk_at "dl"
    simp only [hA2]
    walk_at "dl"
    rw [hP]
    exact ⟨hL _, rfl⟩
end
section
abbrev spx_need_program (c : Cs) : FSpec := { ι := D × Str, args := fun i => [i.1, .str i.2], pre := fun i _ => (kd i.1 = true ∨ ∃ n ds, i.1 = progD c.Program n ds) ∧ i.2.length ≤ 1000, res := fun i cs d cs' => (∃ n ds, i.1 = progD c.Program n ds) ∧ cs' = cs, exc := fun i cs x cs' => kd i.1 = true ∧ x = ⟨c.BadProgram, [("part", .str i.2)]⟩ ∧ cs' = cs }
set_option maxHeartbeats 4000000 in
theorem okx_need_program (T : Txt P w K mg) : FnG P w K mg base (L2.CX P w) 3 T.f_need_program T.d_need_program ["value", "part"] (dSp K (spx_need_program T.cs)) := by
  refine dfunX T.F_need_program sc_need_program (fun i => by first | rfl | (cases i <;> rfl)) fun cdv A outer s H E hr po => ⟨_, (dssx_one (dsx_if (dt_not (dt_tru (de_callB (cd_isC T.c_Program) T.z_isinstance (by decide +kernel) (da_cons (dv 0) (da_cons (de_glob (D.ref T.cs.Program) (v := .ref T.cs.Program) (by rfl) T.m_Program rfl (fun _ => rfl)) da_nil))))) (dssx_one (dsx_raise T.E_BadProgram T.be_BadProgram T.m_BadProgram rfl (hr.r.mono (by decide)) (dv 1))) (dssx_of dss_nil))), fun i cs hp => ?_⟩
  obtain ⟨d, z⟩ := i
  obtain ⟨h, hz⟩ : (kd d = true ∨ ∃ n ds, d = progD T.cs.Program n ds) ∧ z.length ≤ 1000 := hp
  rcases h with h | ⟨n, ds, rfl⟩
  · have hi : isiC T.cs.Program cs d = some false := by
      cases d <;> first | rfl | cases h
    walk_at "dl"
    simp only [hi]
    walk_at "dl"
    exact raiseP_i hz ⟨h, rfl, rfl⟩
  · simp only [progD]
    walk_at "dl"
    exact ⟨n, ds, rfl⟩
end
section
abbrev sp_three_led_back : FSpec := { ι := (Nat × Nat) × Nat, args := fun i => [.int i.1.1, .int i.1.2, .int i.2], pre := fun _ _ => True, res := fun i cs d cs' => d = .lst (dL (three i.1.1 i.1.2 i.2)) ∧ cs' = cs }
theorem three_i {a b c : Nat} {cs : Sto} {Q : PD} {z : Lz (sp_three_led_back, Q)} (q : Q (.lst (dL (three a b c))) cs) : callP sp_three_led_back [.int a, .int b, .int c] cs Q z := callP_i ((a, b), c) rfl trivial fun _ _ ⟨e1, e2⟩ => by subst e1; subst e2; exact q
theorem calm_three_led_back : Calm sp_three_led_back := ⟨fun _ _ _ _ h => h⟩
set_option maxHeartbeats 4000000 in
theorem ok_three_led_back (T : Txt P w K mg) : FnG P w K mg base CX0 1 T.f_three_led_back T.d_three_led_back ["one", "other", "third"] (dSp K sp_three_led_back) := by
  refine dfun T.F_three_led_back sc_three_led_back (fun i => by first | rfl | (cases i <;> rfl)) fun cdv A outer s H E hr => ⟨_, (dss_cons (ds_set (i := 3) sc_three_led_back.nd (de_lst (da_cons (de_tup (da_cons de_str (da_cons (dv 2) da_nil))) (da_cons (de_tup (da_cons de_str (da_cons (dv 0) (da_cons de_int da_nil)))) (da_cons (de_tup (da_cons de_str (da_cons (dv 1) (da_cons de_int da_nil)))) (da_cons (de_tup (da_cons de_str (da_cons (dv 2) (da_cons de_int da_nil)))) da_nil))))))
      (dss_cons (ds_set (i := 4) sc_three_led_back.nd (de_lst (da_cons (de_tup (da_cons de_str (da_cons (dv 0) (da_cons (dv 1) da_nil)))) (da_cons (de_tup (da_cons de_str (da_cons (dv 1) (da_cons de_int da_nil)))) (da_cons (de_tup (da_cons de_str (da_cons (dv 1) (da_cons (dv 2) da_nil)))) (da_cons (de_tup (da_cons de_str (da_cons (dv 2) (da_cons de_int da_nil)))) da_nil))))))
      (dss_cons (ds_set (i := 5) sc_three_led_back.nd (de_lst (da_cons (de_tup (da_cons de_str (da_cons (dv 0) (da_cons (dv 2) da_nil)))) (da_cons (de_tup (da_cons de_str (da_cons (dv 2) (da_cons de_int da_nil)))) (da_cons (de_tup (da_cons de_str (da_cons (dv 1) (da_cons (dv 2) da_nil)))) (da_cons (de_tup (da_cons de_str (da_cons (dv 2) (da_cons de_int da_nil)))) da_nil))))))
      (dss_one (ds_ret (de_op opd_add (de_op opd_add (de_op opd_add (dv 3) (dv 4)) (dv 5)) (de_lst (da_cons (de_tup (da_cons de_str (da_cons (dv 0) (da_cons (dv 2) da_nil)))) (da_cons (de_tup (da_cons de_str (da_cons (dv 0) (da_cons (dv 1) da_nil)))) (da_cons (de_tup (da_cons de_str (da_cons (dv 2) da_nil))) da_nil)))))))))), fun i cs hp => ?_⟩
  obtain ⟨⟨a, b⟩, c⟩ := i
  walk_at "dl"
  rfl
end
section
abbrev sp_led_back : FSpec := { ι := Deed × Nat, args := fun i => [i.1.d], pre := fun i _ => i.1.ok i.2, res := fun i cs d cs' => d = .lst (dL i.1.led) ∧ cs' = cs }
theorem led_back_i {x : Deed} {n : Nat} {cs : Sto} {Q : PD} {z : Lz (sp_led_back, Q)} (h : x.ok n) (q : Q (.lst (dL x.led)) cs) : callP sp_led_back [x.d] cs Q z := callP_i (x, n) rfl h fun _ _ ⟨e1, e2⟩ => by subst e1; subst e2; exact q
theorem calm_led_back : Calm sp_led_back := ⟨fun _ _ _ _ h => h⟩
set_option maxHeartbeats 4000000 in
theorem ok_led_back (T : Txt P w K mg) : FnG P w K mg base CX0 2 T.f_led_back T.d_led_back ["deed"] (dSp K sp_led_back) := by
  refine dfun T.F_led_back sc_led_back (fun i => by first | rfl | (cases i <;> rfl)) fun cdv A outer s H E hr => ⟨_, (dss_cons (ds_par (i := 1) (j := 2) rfl sc_led_back.nd (da_cons (de_ix (dv 0) de_int) (da_cons (de_slice (dv 0) (dp_some de_int) dp_none) da_nil)))
      (dss_cons (ds_if (dt_cmp (opd_eq hr.r.units) (dv 1) de_str) (dss_one (ds_ret (de_lst (da_cons (de_tup (da_cons de_str (da_cons (de_ix (dv 2) de_int) da_nil))) (da_cons (de_tup (da_cons de_str (da_cons (de_ix (dv 2) de_int) (da_cons de_int da_nil)))) (da_cons (de_tup (da_cons de_str (da_cons (de_ix (dv 2) de_int) da_nil))) da_nil)))))) dss_nil)
      (dss_cons (ds_if (dt_cmp (opd_eq hr.r.units) (dv 1) de_str) (dss_one (ds_ret (de_lst (da_cons (de_tup (da_cons de_str (da_cons (de_ix (dv 2) de_int) da_nil))) (da_cons (de_tup (da_cons de_str (da_cons (de_ix (dv 2) de_int) (da_cons (de_ix (dv 2) de_int) da_nil)))) (da_cons (de_tup (da_cons de_str (da_cons (de_ix (dv 2) de_int) da_nil))) da_nil)))))) dss_nil)
      (dss_cons (ds_if (dt_cmp (opd_eq hr.r.units) (dv 1) de_str) (dss_one (ds_ret (de_lst (da_cons (de_tup (da_cons de_str (da_cons (de_ix (dv 2) de_int) (da_cons (de_ix (dv 2) de_int) da_nil)))) (da_cons (de_tup (da_cons de_str (da_cons (de_ix (dv 2) de_int) (da_cons (de_ix (dv 2) de_int) da_nil)))) (da_cons (de_tup (da_cons de_str (da_cons (de_ix (dv 2) de_int) (da_cons (de_ix (dv 2) de_int) da_nil)))) da_nil)))))) dss_nil)
      (dss_one (ds_ret (de_if (dt_cmp (opd_eq hr.r.units) (dv 1) de_str) (de_call calm_three_led_back (ok_three_led_back T) (hr.mono (by decide)) T.m_three_led_back T.F_three_led_back.kp T.b_three_led_back (da_cons (de_ix (dv 2) de_int) (da_cons (de_ix (dv 2) de_int) (da_cons (de_ix (dv 2) de_int) da_nil)))) (de_lst (da_cons (dv 0) da_nil))))))))), fun i cs hp => ?_⟩
  obtain ⟨x, n⟩ := i
  have hx : x.ok n := hp
  rcases Deed.alts hx with ⟨a, t, rfl, h1, h2, h3⟩ | ⟨a, rfl, h1⟩ | ⟨a, rfl, h1⟩ | ⟨a, b, rfl, h1, h2, h3⟩ | ⟨a, b, rfl, h1, h2, h3⟩ | ⟨a, b, rfl, h1, h2, h3⟩ | ⟨a, b, c, rfl, h1, h2, h3, h4, h5, h6⟩
  all_goals
    simp only [Deed.d, Deed.ds, Deed.tl, nT, Deed.led, Deed.i, List.getD_cons_zero, List.getD_cons_succ]
    repeat (first | walk_at "dl" | simp only [cut1])
  all_goals first | rfl | exact three_i ⟨rfl, rfl⟩ | trace_state
end
section
abbrev sp_basic_deeds (c : Cs) : FSpec := { ι := Nat × List Deed, args := fun i => [progD c.Program i.1 i.2], pre := fun i _ => (∀ x ∈ i.2, x.ok i.1) ∧ i.2.length ≤ 200, res := fun i cs d cs' => d = .lst (dL (basicD i.2)) ∧ cs' = cs }
theorem basic_deeds_i {c : Cs} {n : Nat} {ds : List Deed} {cs : Sto} {Q : PD} {z : Lz (sp_basic_deeds c, Q)} (h : ∀ x ∈ ds, x.ok n) (l : ds.length ≤ 200) (q : Q (.lst (dL (basicD ds))) cs) : callP (sp_basic_deeds c) [progD c.Program n ds] cs Q z := callP_i (n, ds) rfl ⟨h, l⟩ fun _ _ ⟨e1, e2⟩ => by subst e1; subst e2; exact q
theorem calm_basic_deeds (c : Cs) : Calm (sp_basic_deeds c) := ⟨fun _ _ _ _ h => h⟩
set_option maxHeartbeats 4000000 in
theorem ok_basic_deeds (T : Txt P w K mg) : FnG P w K mg base CX0 3 T.f_basic_deeds T.d_basic_deeds ["program"] (dSp K (sp_basic_deeds T.cs)) := by
  refine dfun T.F_basic_deeds sc_basic_deeds (fun i => by first | rfl | (cases i <;> rfl)) fun cdv A outer s H E hr => ⟨_, (dss_cons (ds_setLc2 (i := 1) (own := [("deed", 2), ("step", 3)]) (vs1 := [3]) rfl sc_basic_deeds.nd (sw_true rfl rfl rfl (by decide +kernel)) (di_seq (de_fld T.c_Program.cl T.n_Program_deeds (dv 0))) (blkOk_by (own := [("deed", 2), ("step", 3)]) (N := N_basic_deeds) (sc := defScope s_basic_deeds) (by decide +kernel)) (fun _ _ _ _ _ => (dg_nm 2 sc_basic_deeds.nd)) (fun _ _ _ _ _ => dts_nil) (fun _ _ _ _ _ => (di_seq (de_call calm_led_back (ok_led_back T) (hr.mono (by decide)) T.m_led_back T.F_led_back.kp T.b_led_back (da_cons (dv 2) da_nil)))) (fun _ _ _ _ _ => (dg_nm 3 sc_basic_deeds.nd)) (fun _ _ _ _ _ => dts_nil) (fun _ _ _ _ _ => (dv 3)))
      (dss_one (ds_ret (de_lc2 (own := [("step", 3), ("last", 4)]) (vs1 := [4]) rfl sc_basic_deeds.nd (di_seq (dv 1)) (blkOk_by (own := [("step", 3), ("last", 4)]) (N := N_basic_deeds) (sc := defScope s_basic_deeds) (by decide +kernel)) (fun _ _ _ _ _ => (dg_nm 3 sc_basic_deeds.nd)) (fun _ _ _ _ _ => dts_nil) (fun _ _ _ _ _ => (di_seq (de_call calm_led_back (ok_led_back T) (hr.mono (by decide)) T.m_led_back T.F_led_back.kp T.b_led_back (da_cons (dv 3) da_nil)))) (fun _ _ _ _ _ => (dg_nm 4 sc_basic_deeds.nd)) (fun _ _ _ _ _ => dts_nil) (fun _ _ _ _ _ => (dv 4)))))), fun i cs hp => ?_⟩
  obtain ⟨n, ds⟩ := i
  obtain ⟨h, l⟩ : (∀ x ∈ ds, x.ok n) ∧ ds.length ≤ 200 := hp
  obtain ⟨l1, l2⟩ := basicD_len h
  have hz1 : (ds.flatMap fun x => dL x.led).length ≤ sizeLine := by rw [dL_flat, dL, List.length_map, sizeLine_eq]; omega
  have hz2 : ((ds.flatMap Deed.led).flatMap fun x => dL x.led).length ≤ sizeLine := by rw [dL_flat, dL, List.length_map, sizeLine_eq]; unfold basicD at l2; omega
  simp only [progD]
  walk_at "dl"
  refine lc2_mp Deed.d (fun x => dL x.led) trivial ds hz1 (fun x hx => ⟨_, rfl, fun R q => ?_, fun e he => ⟨_, rfl, fun R q => ?_⟩⟩) ?_
  · walk_at "dl"
    refine led_back_i (h x hx) ?_
    walk_at "dl"
    exact q
  · walk_at "dl"
    exact q
  rw [dL_flat]
  walk_at "dl"
  refine lc2_mp Deed.d (fun x => dL x.led) trivial (ds.flatMap Deed.led) hz2 (fun x hx => ⟨_, rfl, fun R q => ?_, fun e he => ⟨_, rfl, fun R q => ?_⟩⟩) ?_
  · walk_at "dl"
    refine led_back_i (leds_ok h x hx) ?_
    walk_at "dl"
    exact q
  · walk_at "dl"
    exact q
  rw [dL_flat]
  exact ⟨rfl, rfl⟩
end
section
abbrev spx_need_few (c : Cs) : FSpec := { ι := List Deed × Bool, args := fun i => [dsD i.1 i.2], pre := fun i _ => i.1.length ≤ 10000, res := fun i cs d cs' => i.1.length ≤ 200 ∧ cs' = cs, exc := fun i cs x cs' => 200 < i.1.length ∧ x = ⟨c.TooMany, [("most", .int 200), ("what", .str "deeds")]⟩ ∧ cs' = cs }
set_option maxHeartbeats 4000000 in
theorem okx_need_few (T : Txt P w K mg) : FnG P w K mg base (L2.CX P w) 3 T.f_need_few T.d_need_few ["deeds"] (dSp K (spx_need_few T.cs)) := by
  refine dfunX T.F_need_few sc_need_few (fun i => by first | rfl | (cases i <;> rfl)) fun cdv A outer s H E hr po => ⟨_, (dssx_one (dsx_if (dt_cmp opd_gt (de_callB cd_len T.z_len (by decide +kernel) (da_cons (dv 0) da_nil)) (T.k_MOST_DEEDS.de rfl)) (dssx_one (dsx_raise2 T.E_TooMany T.be_TooMany T.m_TooMany rfl (hr.r.mono (by decide)) (da_cons de_str (da_cons (T.k_MOST_DEEDS.de rfl) da_nil)))) (dssx_of dss_nil))), fun i cs hp => ?_⟩
  obtain ⟨ds, t⟩ := i
  have hl : ds.length ≤ 10000 := hp
  have e : (dL ds).length = ds.length := by rw [dL, List.length_map]
  by_cases h : ds.length ≤ 200
  · have hz2 : decide ((200 : Int) < ((dL ds).length : Int)) = false := decide_eq_false (by rw [e]; omega)
    cases t
    all_goals
      simp only [dsD]
      repeat (first | walk_at "dl" | simp only [hz2])
      exact h
  · have hz2 : decide ((200 : Int) < ((dL ds).length : Int)) = true := decide_eq_true (by rw [e]; omega)
    cases t
    all_goals
      simp only [dsD]
      repeat (first | walk_at "dl" | simp only [hz2])
      exact raise2P_i ⟨by show 200 < ds.length; omega, rfl, rfl⟩
end
section
abbrev spx_basic (c : Cs) : FSpec := { ι := BaI, args := fun i => i.args c.Program, pre := fun i _ => i.pre, res := fun i cs d cs' => (match i with | .ok n ds => d = progD c.Program n (basicD ds) ∧ (basicD ds).length ≤ 200 | _ => False) ∧ cs' = cs, exc := fun i cs x cs' => (match i with | .bad _ => x = ⟨c.BadProgram, [("part", .str "program")]⟩ | .ok n ds => 200 < (basicD ds).length ∧ x = ⟨c.TooMany, [("most", .int 200), ("what", .str "deeds")]⟩) ∧ cs' = cs }
set_option maxHeartbeats 4000000 in
theorem okx_basic (T : Txt P w K mg) : FnG P w K mg base (L2.CX P w) 6 T.f_basic T.d_basic ["program"] (dSp K (spx_basic T.cs)) := by
  refine dfunX T.F_basic sc_basic (fun i => by first | rfl | (cases i <;> rfl)) fun cdv A outer s H E hr po => ⟨_, (dssx_cons (dsx_expr (dex_call (okx_need_program T) (hr.mono (by decide)) T.m_need_program T.F_need_program.kp T.b_need_program (dax_of (da_cons (dv 0) (da_cons de_str da_nil)))))
      (dssx_cons (dsx_of (ds_set (i := 1) sc_basic.nd (de_call (calm_basic_deeds T.cs) (ok_basic_deeds T) (hr.mono (by decide)) T.m_basic_deeds T.F_basic_deeds.kp T.b_basic_deeds (da_cons (dv 0) da_nil))))
      (dssx_cons (dsx_expr (dex_call (okx_need_few T) (hr.mono (by decide)) T.m_need_few T.F_need_few.kp T.b_need_few (dax_of (da_cons (dv 1) da_nil))))
      (dssx_one (dsx_of (ds_ret (de_mkF (calm_Program___init__ T.cs) T.M_Program (ok_Program___init__ T) (hr.mono (by decide)) T.m_Program T.b_Program___init__ (da_cons (de_fld T.c_Program.cl T.n_Program_wires (dv 0)) (da_cons (dv 1) da_nil))))))))), fun i cs hp => ?_⟩
  have hz1 : ("program" : Str).length ≤ 1000 := by decide
  cases i with
  | bad d =>
    have h : kd d = true := hp
    simp only [BaI.args]
    walk_at "dl"
    refine callX_i (s := spx_need_program T.cs) (d, ("program" : Str)) rfl ⟨.inl h, hz1⟩ ?_ ?_
    · rintro _ _ ⟨⟨n, ds, rfl⟩, rfl⟩
      cases h
    · rintro _ _ ⟨_, rfl, rfl⟩
      exact ⟨rfl, rfl⟩
  | ok n ds =>
    obtain ⟨h, l, n1, n8⟩ : (∀ x ∈ ds, x.ok n) ∧ ds.length ≤ 200 ∧ 1 ≤ n ∧ n ≤ 8 := hp
    have hI : ∀ (S : Sto) (ds : List Deed), insAt S T.cs.Program (progD T.cs.Program n ds) = some ([("wires", .int n), ("deeds", .tup (dL ds))] : List (Str × D)) := fun S ds => insAt_obj _ _
    obtain ⟨l1, l2⟩ := basicD_len h
    simp only [BaI.args]
    walk_at "dl"
    refine callX_i (s := spx_need_program T.cs) (progD T.cs.Program n ds, ("program" : Str)) rfl ⟨.inr ⟨n, ds, rfl⟩, hz1⟩ ?_ ?_
    · rintro _ _ ⟨_, rfl⟩
      walk_at "dl"
      refine basic_deeds_i h l ?_
      walk_at "dl"
      refine callX_i (s := spx_need_few T.cs) (basicD ds, false) rfl (by show (basicD ds).length ≤ 10000; omega) ?_ ?_
      · rintro _ _ ⟨hl, rfl⟩
        repeat (first | walk_at "dl" | simp only [hI])
        exact mkProg_i n1 n8 (basicD_ok h) hl ⟨⟨rfl, hl⟩, rfl⟩
      · rintro _ _ ⟨hl, rfl, rfl⟩
        exact ⟨⟨hl, rfl⟩, rfl⟩
    · rintro _ _ ⟨q, _⟩
      cases q
abbrev sp_basic (c : Cs) : FSpec := { ι := Nat × List Deed, args := fun i => [progD c.Program i.1 i.2], pre := fun i _ => (∀ x ∈ i.2, x.ok i.1) ∧ i.2.length ≤ 200 ∧ (basicD i.2).length ≤ 200 ∧ 1 ≤ i.1 ∧ i.1 ≤ 8, res := fun i cs d cs' => d = progD c.Program i.1 (basicD i.2) ∧ cs' = cs }
theorem basic_i {c : Cs} {n : Nat} {ds : List Deed} {cs : Sto} {Q : PD} {z : Lz (sp_basic c, Q)} (h : ∀ x ∈ ds, x.ok n) (l : ds.length ≤ 200) (lb : (basicD ds).length ≤ 200) (n1 : 1 ≤ n) (n8 : n ≤ 8) (q : Q (progD c.Program n (basicD ds)) cs) : callP (sp_basic c) [progD c.Program n ds] cs Q z := callP_i (n, ds) rfl ⟨h, l, lb, n1, n8⟩ fun _ _ ⟨e1, e2⟩ => by subst e1; subst e2; exact q
theorem basic_bad {c : Cs} {d : D} {cs : Sto} {W : WD} {Q : PD} {z : Lz (spx_basic c, W, Q)} (h : kd d = true) (q : W ⟨c.BadProgram, [("part", .str "program")]⟩ cs) : callX (spx_basic c) [d] cs W Q z := callX_i (BaI.bad d) rfl h (fun _ _ q => q.1.elim) (fun _ _ ⟨e1, e2⟩ => by subst e1; subst e2; exact q)
theorem basic_many {c : Cs} {n : Nat} {ds : List Deed} {cs : Sto} {W : WD} {Q : PD} {z : Lz (spx_basic c, W, Q)} (h : ∀ x ∈ ds, x.ok n) (l : ds.length ≤ 200) (lb : 200 < (basicD ds).length) (n1 : 1 ≤ n) (n8 : n ≤ 8) (q : W ⟨c.TooMany, [("most", .int 200), ("what", .str "deeds")]⟩ cs) : callX (spx_basic c) [progD c.Program n ds] cs W Q z := callX_i (BaI.ok n ds) rfl ⟨h, l, n1, n8⟩ (fun _ _ q => absurd lb (by have := q.1.2; omega)) (fun _ _ ⟨e1, e2⟩ => by obtain ⟨_, e1⟩ := e1; subst e1; subst e2; exact q)
theorem calm_basic (c : Cs) : Calm (sp_basic c) := ⟨fun _ _ _ _ h => h⟩
set_option maxHeartbeats 4000000 in
theorem ok_basic (T : Txt P w K mg) : FnG P w K mg base CX0 6 T.f_basic T.d_basic ["program"] (dSp K (sp_basic T.cs)) := by
  refine FnG.calm (okx_basic T) ?_
  exact fun i => ⟨BaI.ok i.1 i.2, rfl, fun cs h => ⟨⟨h.1, h.2.1, h.2.2.2.1, h.2.2.2.2⟩, fun d cs' q => ⟨q.1.1, q.2⟩, fun x cs' q => by have := h.2.2.1; have := q.1.1; omega⟩⟩
end
section
abbrev sp__law_table : FSpec := { ι := Deed × Nat, args := fun i => [i.1.d], pre := fun i _ => i.1.ok i.2, res := fun i cs d cs' => d = .lst (dL (tabL i.1)) ∧ cs' = cs }
theorem ltab_i {x : Deed} {n : Nat} {cs : Sto} {Q : PD} {z : Lz (sp__law_table, Q)} (h : x.ok n) (q : Q (.lst (dL (tabL x))) cs) : callP sp__law_table [x.d] cs Q z := callP_i (x, n) rfl h fun _ _ ⟨e1, e2⟩ => by subst e1; subst e2; exact q
theorem calm__law_table : Calm sp__law_table := ⟨fun _ _ _ _ h => h⟩
set_option maxHeartbeats 4000000 in
theorem ok__law_table (T : Txt P w K mg) : FnG P w K mg base CX0 3 T.f__law_table T.d__law_table ["_law_deed_here"] (dSp K sp__law_table) := by
  refine dfunT T.F__law_table sc__law_table (fun i => by first | rfl | (cases i <;> rfl)) fun cdv A outer s H E hr => ⟨_, (dss_cons (ds_par (i := 4) (j := 5) rfl sc__law_table.nd (da_cons (de_ix (dv 0) de_int) (da_cons (de_slice (dv 0) (dp_some de_int) dp_none) da_nil)))
      (dss_cons (ds_if (dt_cmp (opd_eqX (calm_Program___eq__ T.cs) T.q_Program (ok_Program___eq__ T) T.b_Program___eq__ (hr.mono (by decide)) hr.r.units) (dv 4) de_str) (dss_one (ds_ret (de_lst (da_cons (de_tup (da_cons de_str (da_cons (de_ix (dv 5) de_int) da_nil))) (da_cons (de_tup (da_cons de_str (da_cons (de_ix (dv 5) de_int) (da_cons de_int da_nil)))) (da_cons (de_tup (da_cons de_str (da_cons (de_ix (dv 5) de_int) da_nil))) da_nil)))))) dss_nil)
      (dss_cons (ds_if (dt_cmp (opd_eqX (calm_Program___eq__ T.cs) T.q_Program (ok_Program___eq__ T) T.b_Program___eq__ (hr.mono (by decide)) hr.r.units) (dv 4) de_str) (dss_one (ds_ret (de_lst (da_cons (de_op opd_add (de_tup (da_cons de_str da_nil)) (dv 5)) (da_cons (de_op opd_add (de_tup (da_cons de_str da_nil)) (de_revT (dv 5))) (da_cons (de_op opd_add (de_tup (da_cons de_str da_nil)) (dv 5)) da_nil)))))) dss_nil)
      (dss_cons (ds_if (dt_cmp (opd_neX (calm_Program___eq__ T.cs) T.q_Program (ok_Program___eq__ T) T.b_Program___eq__ (hr.mono (by decide)) hr.r.units) (dv 4) de_str) (dss_one (ds_ret (de_lst (da_cons (dv 0) da_nil)))) dss_nil)
      (dss_cons (ds_pat (dg_tp rfl (dgs_cons (dg_nm 6 sc__law_table.nd) (dgs_cons (dg_nm 7 sc__law_table.nd) (dgs_cons (dg_nm 8 sc__law_table.nd) dgs_nil)))) (dv 5))
      (dss_cons (ds_set (i := 1) sc__law_table.nd (de_dic (dpr_cons de_str (dv 6) (dpr_cons de_str (dv 7) (dpr_cons de_str (dv 8) dpr_nil)))))
      (dss_cons (ds_set (i := 2) sc__law_table.nd (de_cel da_nil))
      (dss_cons (ds_for PassesOwn.never rfl (di_seq (de_mt md_split PySem.F.plainAttrs_str PySem.F.slot_str_split PySem.F.type_str_split de_str (da_cons de_str da_nil))) (dg_nm 3 sc__law_table.nd) (dss_one (ds_if (dt_cmp (opd_eqX (calm_Program___eq__ T.cs) T.q_Program (ok_Program___eq__ T) T.b_Program___eq__ (hr.mono (by decide)) hr.r.units) (de_ix (dv 3) de_int) de_str) (dss_one (ds_expr (de_append (dv 2) (da_cons (de_tup (da_cons de_str (da_cons (de_dix (hu_of hr.r) (dv 1) (de_ix (dv 3) de_int)) (da_cons (de_callT cd_intT T.z_int (by decide +kernel) (da_cons (de_ix (dv 3) de_int) da_nil)) da_nil)))) da_nil)))) (dss_one (ds_if (dt_cmp (opd_eqX (calm_Program___eq__ T.cs) T.q_Program (ok_Program___eq__ T) T.b_Program___eq__ (hr.mono (by decide)) hr.r.units) (de_ix (dv 3) de_int) de_str) (dss_one (ds_expr (de_append (dv 2) (da_cons (de_tup (da_cons de_str (da_cons (de_dix (hu_of hr.r) (dv 1) (de_ix (dv 3) de_int)) da_nil))) da_nil)))) (dss_one (ds_expr (de_append (dv 2) (da_cons (de_tup (da_cons de_str (da_cons (de_dix (hu_of hr.r) (dv 1) (de_ix (dv 3) de_int)) (da_cons (de_dix (hu_of hr.r) (dv 1) (de_ix (dv 3) de_int)) da_nil)))) da_nil)))))))))
      (dss_frz 2 (dss_one (ds_ret (dv 2)))))))))))), fun i cs hk hp => ?_⟩
  obtain ⟨x, n⟩ := i
  have hx : x.ok n := hp
  rcases Deed.alts hx with ⟨a, t, rfl, h1, h2, h3⟩ | ⟨a, rfl, h1⟩ | ⟨a, rfl, h1⟩ | ⟨a, b, rfl, h1, h2, h3⟩ | ⟨a, b, rfl, h1, h2, h3⟩ | ⟨a, b, rfl, h1, h2, h3⟩ | ⟨a, b, c, rfl, h1, h2, h3, h4, h5, h6⟩
  all_goals
    simp only [Deed.d, Deed.ds, Deed.tl, nT]
    repeat (first | walk_at "dl" | simp only [cut1])
  · exact .inl ⟨rfl, rfl⟩
  · exact .inl ⟨rfl, rfl⟩
  · exact .inl ⟨rfl, rfl⟩
  · exact .inl ⟨rfl, rfl⟩
  · exact .inl ⟨rfl, rfl⟩
  · exact ⟨by show 1 + 2 ≤ sizeLine; decide, .inl ⟨rfl, rfl⟩⟩
  · refine ⟨by decide, rfl, ⟨by decide +kernel, by decide +kernel⟩, ?_⟩
    rw [split_mc]
    repeat (first | walk_at "dlu" | simp only [ch_0_0, ch_0_1, ch_1_0, ch_1_1, ch_1_2, ch_2_0, ch_2_1, ch_2_2, ch_3_0, ch_3_1, ch_3_2, ch_4_0, ch_4_1, ch_4_2, ch_5_0, ch_5_1, ch_5_2, ch_6_0, ch_6_1, ch_6_2, ch_7_0, ch_7_1, ch_7_2, ch_8_0, ch_8_1, ch_8_2, it_1, it_7, gd_a, gd_b, gd_c, ddx_mt, ddx_mm, ddx_tt, ddx_tm, ddx_ut, ddx_um, keyD, true_and])
    exact trim_app hk (by simp [okD, okDs]) ⟨rfl, rfl⟩
end
section
abbrev sp__law_due : FSpec := { ι := Nat × List Deed, args := fun i => [.lst (dL i.2)], pre := fun i _ => (∀ x ∈ i.2, x.ok i.1) ∧ i.2.length ≤ 200, res := fun i cs d cs' => d = .lst (dL (basicD i.2)) ∧ cs' = cs }
theorem ldue_i {n : Nat} {ds : List Deed} {cs : Sto} {Q : PD} {z : Lz (sp__law_due, Q)} (h : ∀ x ∈ ds, x.ok n) (l : ds.length ≤ 200) (q : Q (.lst (dL (basicD ds))) cs) : callP sp__law_due [.lst (dL ds)] cs Q z := callP_i (n, ds) rfl ⟨h, l⟩ fun _ _ ⟨e1, e2⟩ => by subst e1; subst e2; exact q
theorem calm__law_due : Calm sp__law_due := ⟨fun _ _ _ _ h => h⟩
set_option maxHeartbeats 4000000 in
theorem ok__law_due (T : Txt P w K mg) : FnG P w K mg base CX0 4 T.f__law_due T.d__law_due ["_law_deeds"] (dSp K sp__law_due) := by
  refine dfunT T.F__law_due sc__law_due (fun i => by first | rfl | (cases i <;> rfl)) fun cdv A outer s H E hr => ⟨_, (dss_cons (ds_set (i := 1) sc__law_due.nd (de_cel da_nil))
      (dss_cons (ds_for PassesOwn.never rfl (di_seq (dv 0)) (dg_nm 2 sc__law_due.nd) (dss_one (ds_for PassesOwn.never rfl (di_seq (de_call calm__law_table (ok__law_table T) (hr.mono (by decide)) T.m__law_table T.F__law_table.kp T.b__law_table (da_cons (dv 2) da_nil))) (dg_nm 3 sc__law_due.nd) (dss_one (ds_if (dt_cmp (opd_eqX (calm_Program___eq__ T.cs) T.q_Program (ok_Program___eq__ T) T.b_Program___eq__ (hr.mono (by decide)) hr.r.units) (de_ix (dv 3) de_int) de_str) (dss_one (ds_expr (de_mt md_extendA PySem.F.plainAttrs_list PySem.F.slot_list_extend PySem.F.type_list_extend (dv 1) (da_cons (de_lst (da_cons (de_tup (da_cons de_str (da_cons (de_ix (dv 3) de_int) da_nil))) (da_cons (de_tup (da_cons de_str (da_cons (de_ix (dv 3) de_int) (da_cons (de_ix (dv 3) de_int) da_nil)))) (da_cons (de_tup (da_cons de_str (da_cons (de_ix (dv 3) de_int) da_nil))) da_nil)))) da_nil)))) (dss_one (ds_expr (de_append (dv 1) (da_cons (dv 3) da_nil)))))))))
      (dss_frz 1 (dss_one (ds_ret (dv 1)))))), fun i cs hk hp => ?_⟩
  obtain ⟨n, ds⟩ := i
  obtain ⟨h, l⟩ : (∀ x ∈ ds, x.ok n) ∧ ds.length ≤ 200 := hp
  walk_at "dl"
  refine forP_i (for_inv (fun k env S => (∃ o2 o3 : Option D, env = [some (.lst (dL ds)), some (.cell cs.length), o2, o3]) ∧ S = cs ++ [.lst (dL ((ds.take k).flatMap dueL))]) _ _ _ ⟨⟨_, _, rfl⟩, rfl⟩ (fun _ _ _ _ => trivial) ?_ ?_)
  · rintro k e _ _ he ⟨⟨o2, o3, rfl⟩, rfl⟩
    obtain ⟨x, hx, rfl⟩ := dL_at he
    have hk : k < ds.length := (List.getElem?_eq_some_iff.mp hx).1
    have hxo := h x (List.mem_of_getElem? hx)
    have hl1 := dues_len (ds := ds.take k) fun y hy => h y (List.mem_of_mem_take hy)
    rw [List.length_take, Nat.min_eq_left (by omega)] at hl1
    generalize hA : (ds.take k).flatMap dueL = A at *
    refine ⟨_, rfl, fun E' hn2 _ _ _ => ?_⟩
    walk_at "dl"
    refine ltab_i hxo ?_
    walk_at "dl"
    refine forP_i (for_inv (fun m env S => (∃ o3 : Option D, env = [some (.lst (dL ds)), some (.cell cs.length), some x.d, o3]) ∧ S = cs ++ [.lst (dL (A ++ ((tabL x).take m).flatMap stepL))]) _ _ _ ⟨⟨_, rfl⟩, by simp⟩ (fun _ _ _ _ => trivial) ?_ ?_)
    · rintro m e _ _ he ⟨⟨o3, rfl⟩, rfl⟩
      obtain ⟨y, hy, rfl⟩ := dL_at he
      have hm : m < (tabL x).length := (List.getElem?_eq_some_iff.mp hy).1
      have hyo := tab_ok hxo y (List.mem_of_getElem? hy)
      have ht := tab_len hxo
      have hl2 := steps_len (ys := (tabL x).take m) fun z hz => tab_ok hxo z (List.mem_of_mem_take hz)
      rw [List.length_take, Nat.min_eq_left (by omega)] at hl2
      rw [take_succ2 hy, List.flatMap_append, ← List.append_assoc]
      generalize hB : A ++ ((tabL x).take m).flatMap stepL = B at *
      have hl3 : B.length ≤ 6000 := by rw [← hB, List.length_append]; omega
      have hz1 : (dL B).length < sizeLine := by rw [dL, List.length_map, sizeLine_eq]; omega
      have hz3 : (dL B).length + 3 ≤ sizeLine := by rw [dL, List.length_map, sizeLine_eq]; omega
      clear he hy
      refine ⟨_, rfl, fun E2 hn3 _ _ _ => ?_⟩
      rcases Deed.alts hyo with ⟨a, t, rfl, h1, h2, h3⟩ | ⟨a, rfl, h1⟩ | ⟨a, rfl, h1⟩ | ⟨a, b, rfl, h1, h2, h3⟩ | ⟨a, b, rfl, h1, h2, h3⟩ | ⟨a, b, rfl, h1, h2, h3⟩ | ⟨a, b, c, rfl, h1, h2, h3, h4, h5, h6⟩
      all_goals simp only [Deed.d, Deed.ds, Deed.tl, nT]
      all_goals repeat (first | walk_at "dl" | simp only [cut1])
      all_goals first | refine ⟨hz1, hn3 _ _ ⟨⟨_, rfl⟩, ?_⟩⟩ | refine ⟨hz3, hn3 _ _ ⟨⟨_, rfl⟩, ?_⟩⟩
      all_goals
        rw [← dL_app]
        rfl
    · rintro _ _ ⟨⟨o3, rfl⟩, rfl⟩
      have e : (tabL x).take (dL (tabL x)).length = tabL x := by rw [dL, List.length_map, List.take_length]
      rw [e]
      refine hn2 _ _ ⟨⟨_, _, rfl⟩, ?_⟩
      rw [take_succ2 hx, List.flatMap_append, hA]
      simp [dueL]
  · rintro _ _ ⟨⟨o2, o3, rfl⟩, rfl⟩
    have e : ds.take (dL ds).length = ds := by rw [dL, List.length_map, List.take_length]
    rw [e, due_basic h]
    walk_at "dl"
    exact trim_app hk (by simp only [okD]; exact okDs_deeds _ _) ⟨rfl, rfl⟩
end
section
abbrev hr__law_heard (c : Cs) : HeardR := fun o d => match o with
  | none => d = .non
  | some x => (∃ (z : Str) (m : Int), x = ⟨c.TooMany, [("most", .int m), ("what", .str z)]⟩ ∧ d = .tup [.str z, .int m]) ∨ (∃ z : Str, x = ⟨c.BadProgram, [("part", D.str z)]⟩ ∧ d = .str z)
theorem heard_tm {c : Cs} {z0 : Str} {m : Int} {cs : Sto} {Q : PD} {z : Lz (hr__law_heard c, Q)} (q : Q (.tup [.str z0, .int m]) cs) : heardP (hr__law_heard c) (some ⟨c.TooMany, [("most", .int m), ("what", .str z0)]⟩) cs Q z := heardP_i _ (.inl ⟨z0, m, rfl, rfl⟩) q
theorem heard_bp {c : Cs} {z0 : Str} {cs : Sto} {Q : PD} {z : Lz (hr__law_heard c, Q)} (q : Q (.str z0) cs) : heardP (hr__law_heard c) (some ⟨c.BadProgram, [("part", .str z0)]⟩) cs Q z := heardP_i _ (.inr ⟨z0, rfl, rfl⟩) q
set_option maxHeartbeats 4000000 in
theorem ok__law_heard (T : Txt P w K mg) (k : Nat) : HearF P w K mg base k "_law_heard" (hr__law_heard T.cs) := by
  obtain ⟨oc, od, kV, doc, pm, an, cdv, ct, osl, hfd, lk, hcd⟩ := T.F__law_heard.ex
  have hb := T.b__law_heard
  rw [hfd] at lk hb
  refine ⟨N__law_heard, T.f__law_heard, "_law_ask", _, _, _, _, kV, doc, pm, cdv, ct, oc, an, od, osl, T.m__law_heard, T.F__law_heard.kp, lk, hcd, hb, sc__law_heard, rfl, .inl rfl, by decide, by decide, ?_⟩
  refine hears_mk (n := 3) (i := 1) sc__law_heard rfl rfl (by decide) (by decide) (.inl rfl) rfl (fun _ => rfl) (fun _ => rfl) fun A outer s H hr => ⟨_, _, (.name (n := "error") (i := 2) sc__law_heard.nd rfl rfl ⟨rfl, by decide, .inl T.m_LookError⟩ (fun _ _ => (dss_one (ds_set (i := 1) sc__law_heard.nd (dv 2)))) .nil), (dss_cons (ds_if (dt_tru (de_callB (cd_isE T.i_TooMany) T.z_isinstance (by decide +kernel) (da_cons (dv 1) (da_cons (de_glob (D.ref T.cs.TooMany) (v := .ref T.cs.TooMany) (by rfl) T.m_TooMany rfl (fun _ => rfl)) da_nil)))) (dss_one (ds_ret (de_tup (da_cons (de_xf T.xf_what (dv 1)) (da_cons (de_xf T.xf_most (dv 1)) da_nil))))) dss_nil)
      (dss_one (ds_ret (de_if (dt_cmp opd_is (dv 1) de_non) de_non (de_if (dt_tru (de_callB (cd_isE T.i_BadProgram) T.z_isinstance (by decide +kernel) (da_cons (dv 1) (da_cons (de_glob (D.ref T.cs.BadProgram) (v := .ref T.cs.BadProgram) (by rfl) T.m_BadProgram rfl (fun _ => rfl)) da_nil)))) (de_xf T.xf_part (dv 1)) de_str))))), fun cs r hR => ?_, fun xd cs r hR => ?_⟩
  · have hR : r = .non := hR
    subst hR
    walk_at "dl"
  · have hR' : (∃ (z : Str) (m : Int), xd = ⟨T.cs.TooMany, [("most", .int m), ("what", .str z)]⟩ ∧ r = .tup [.str z, .int m]) ∨ (∃ z : Str, xd = ⟨T.cs.BadProgram, [("part", D.str z)]⟩ ∧ r = .str z) := hR
    clear hR
    rcases hR' with ⟨z, m, rfl, rfl⟩ | ⟨z, rfl, rfl⟩
    · refine hd_yes T.x_TooMany_LookError ?_
      walk_at "dl"
      refine isiP_i true (by simp) ?_
      repeat (first | walk_at "dl" | (refine And.intro (by simp) ?_))
      simp
    · refine hd_yes T.x_BadProgram_LookError ?_
      walk_at "dl"
      refine isiP_i false (by simp) ?_
      walk_at "dl"
      refine isiP_i true (by simp) ?_
      repeat (first | walk_at "dl" | (refine And.intro (by simp) ?_))
      simp
end
section
abbrev spx_odd_turns (c : Cs) : FSpec := { ι := BaI, args := fun i => i.args c.Program, pre := fun i _ => i.pre, res := fun i cs d cs' => (match i with | .ok n ds => d = .int (oddN (basicD ds)) | _ => False) ∧ cs' = cs, exc := fun i cs x cs' => (match i with | .bad _ => x = ⟨c.BadProgram, [("part", .str "program")]⟩ | _ => False) ∧ cs' = cs }
theorem odd_bad {c : Cs} {d : D} {cs : Sto} {W : WD} {Q : PD} {z : Lz (spx_odd_turns c, W, Q)} (h : kd d = true) (q : W ⟨c.BadProgram, [("part", .str "program")]⟩ cs) : callX (spx_odd_turns c) [d] cs W Q z := callX_i (BaI.bad d) rfl h (fun _ _ q => q.1.elim) (fun _ _ ⟨e1, e2⟩ => by subst e1; subst e2; exact q)
set_option maxHeartbeats 4000000 in
theorem okx_odd_turns (T : Txt P w K mg) : FnG P w K mg base (L2.CX P w) 4 T.f_odd_turns T.d_odd_turns ["program"] (dSp K (spx_odd_turns T.cs)) := by
  refine dfunX T.F_odd_turns sc_odd_turns (fun i => by first | rfl | (cases i <;> rfl)) fun cdv A outer s H E hr po => ⟨_, (dssx_cons (dsx_expr (dex_call (okx_need_program T) (hr.mono (by decide)) T.m_need_program T.F_need_program.kp T.b_need_program (dax_of (da_cons (dv 0) (da_cons de_str da_nil)))))
      (dssx_one (dsx_of (ds_ret (de_callB cd_len T.z_len (by decide +kernel) (da_cons (de_lc (own := [("deed", 1)]) rfl sc_odd_turns.nd (di_seq (de_call (calm_basic_deeds T.cs) (ok_basic_deeds T) (hr.mono (by decide)) T.m_basic_deeds T.F_basic_deeds.kp T.b_basic_deeds (da_cons (dv 0) da_nil))) (blkOk_by (own := [("deed", 1)]) (N := N_odd_turns) (sc := defScope s_odd_turns) (by decide +kernel)) (fun _ _ _ _ _ => (dg_nm 1 sc_odd_turns.nd)) (fun _ _ _ _ _ => (dts_one (dt_of (dw_and (dt_cmp (opd_eq hr.r.units) (de_ix (dv 1) de_int) de_str) (dw_and1 (dt_cmp (opd_eq hr.r.units) (de_op opd_mod (de_ix (dv 1) de_int) de_int) de_int)))))) (fun _ _ _ _ _ => (dv 1))) da_nil)))))), fun i cs hp => ?_⟩
  have hz1 : ("program" : Str).length ≤ 1000 := by decide
  cases i with
  | bad d =>
    have h : kd d = true := hp
    simp only [BaI.args]
    walk_at "dl"
    refine callX_i (s := spx_need_program T.cs) (d, ("program" : Str)) rfl ⟨.inl h, hz1⟩ ?_ ?_
    · rintro _ _ ⟨⟨n, ds, rfl⟩, rfl⟩
      cases h
    · rintro _ _ ⟨_, rfl, rfl⟩
      exact ⟨rfl, rfl⟩
  | ok n ds =>
    obtain ⟨h, l, n1, n8⟩ : (∀ x ∈ ds, x.ok n) ∧ ds.length ≤ 200 ∧ 1 ≤ n ∧ n ≤ 8 := hp
    obtain ⟨l1, l2⟩ := basicD_len h
    have hz : (dL (basicD ds)).length ≤ sizeLine := by rw [dL, List.length_map, sizeLine_eq]; omega
    simp only [BaI.args]
    walk_at "dl"
    refine callX_i (s := spx_need_program T.cs) (progD T.cs.Program n ds, ("program" : Str)) rfl ⟨.inr ⟨n, ds, rfl⟩, hz1⟩ ?_ ?_
    · rintro _ _ ⟨_, rfl⟩
      walk_at "dl"
      refine basic_deeds_i h l ?_
      walk_at "dl"
      refine ⟨hz, lc_mf (basicD ds) Deed.d Deed.d isOdd trivial (fun x hx => ⟨_, rfl, fun R q => ?_, fun _ R q => ?_⟩) ?_⟩
      · have hx2 := basicD_ok h x hx
        clear hx
        rcases Deed.alts hx2 with ⟨a, t, rfl, h1, h2, h3⟩ | ⟨a, rfl, h1⟩ | ⟨a, rfl, h1⟩ | ⟨a, b, rfl, h1, h2, h3⟩ | ⟨a, b, rfl, h1, h2, h3⟩ | ⟨a, b, rfl, h1, h2, h3⟩ | ⟨a, b, c, rfl, h1, h2, h3, h4, h5, h6⟩
        all_goals simp only [Deed.d, Deed.ds, Deed.tl, nT]
        all_goals repeat (first | walk_at "dl" | simp only [cut1])
        · rw [odd_int a t]
          exact q
        all_goals exact q
      · walk_at "dl"
        exact q
      · walk_at "dl"
        rfl
    · rintro _ _ ⟨q, _⟩
      cases q
abbrev sp_odd_turns (c : Cs) : FSpec := { ι := Nat × List Deed, args := fun i => [progD c.Program i.1 i.2], pre := fun i _ => (∀ x ∈ i.2, x.ok i.1) ∧ i.2.length ≤ 200 ∧ 1 ≤ i.1 ∧ i.1 ≤ 8, res := fun i cs d cs' => d = .int (oddN (basicD i.2)) ∧ cs' = cs }
theorem odd_i {c : Cs} {n : Nat} {ds : List Deed} {cs : Sto} {Q : PD} {z : Lz (sp_odd_turns c, Q)} (h : ∀ x ∈ ds, x.ok n) (l : ds.length ≤ 200) (n1 : 1 ≤ n) (n8 : n ≤ 8) (q : Q (.int (oddN (basicD ds))) cs) : callP (sp_odd_turns c) [progD c.Program n ds] cs Q z := callP_i (n, ds) rfl ⟨h, l, n1, n8⟩ fun _ _ ⟨e1, e2⟩ => by subst e1; subst e2; exact q
theorem calm_odd_turns (c : Cs) : Calm (sp_odd_turns c) := ⟨fun _ _ _ _ h => h⟩
set_option maxHeartbeats 4000000 in
theorem ok_odd_turns (T : Txt P w K mg) : FnG P w K mg base CX0 4 T.f_odd_turns T.d_odd_turns ["program"] (dSp K (sp_odd_turns T.cs)) := by
  refine FnG.calm (okx_odd_turns T) ?_
  exact fun i => ⟨BaI.ok i.1 i.2, rfl, fun cs h => ⟨h, fun d cs' q => q, fun x cs' q => q.1⟩⟩
end
section
abbrev sp__law_odd : FSpec := { ι := Nat × List Deed, args := fun i => [.lst (dL i.2)], pre := fun i _ => (∀ x ∈ i.2, x.ok i.1) ∧ i.2.length ≤ 6000, res := fun i cs d cs' => d = .int (oddN i.2) ∧ cs' = cs }
theorem lodd_i {n : Nat} {ds : List Deed} {cs : Sto} {Q : PD} {z : Lz (sp__law_odd, Q)} (h : ∀ x ∈ ds, x.ok n) (l : ds.length ≤ 6000) (q : Q (.int (oddN ds)) cs) : callP sp__law_odd [.lst (dL ds)] cs Q z := callP_i (n, ds) rfl ⟨h, l⟩ fun _ _ ⟨e1, e2⟩ => by subst e1; subst e2; exact q
theorem calm__law_odd : Calm sp__law_odd := ⟨fun _ _ _ _ h => h⟩
set_option maxHeartbeats 4000000 in
theorem ok__law_odd (T : Txt P w K mg) : FnG P w K mg base CX0 3 T.f__law_odd T.d__law_odd ["_law_deeds"] (dSp K sp__law_odd) := by
  refine dfun T.F__law_odd sc__law_odd (fun i => by first | rfl | (cases i <;> rfl)) fun cdv A outer s H E hr => ⟨_, (dss_one (ds_ret (de_callB cd_len T.z_len (by decide +kernel) (da_cons (de_lc (own := [("_law_deed_here", 1)]) rfl sc__law_odd.nd (di_seq (dv 0)) (blkOk_by (own := [("_law_deed_here", 1)]) (N := N__law_odd) (sc := defScope s__law_odd) (by decide +kernel)) (fun _ _ _ _ _ => (dg_nm 1 sc__law_odd.nd)) (fun _ _ _ _ _ => (dts_one (dt_of (dw_and (dt_cmp (opd_eqX (calm_Program___eq__ T.cs) T.q_Program (ok_Program___eq__ T) T.b_Program___eq__ (hr.mono (by decide)) hr.r.units) (de_ix (dv 1) de_int) de_str) (dw_and1 (dt_cmp (opd_eqX (calm_Program___eq__ T.cs) T.q_Program (ok_Program___eq__ T) T.b_Program___eq__ (hr.mono (by decide)) hr.r.units) (de_op opd_mod (de_callT cd_int T.z_int (by decide +kernel) (da_cons (de_ix (dv 1) de_int) da_nil)) de_int) de_int)))))) (fun _ _ _ _ _ => (dv 1))) da_nil)))), fun i cs hp => ?_⟩
  obtain ⟨n, ds⟩ := i
  obtain ⟨h, l⟩ : (∀ x ∈ ds, x.ok n) ∧ ds.length ≤ 6000 := hp
  have hz : (dL ds).length ≤ sizeLine := by rw [dL, List.length_map, sizeLine_eq]; omega
  walk_at "dl"
  refine ⟨hz, lc_mf ds Deed.d Deed.d isOdd trivial (fun x hx => ⟨_, rfl, fun R q => ?_, fun _ R q => ?_⟩) ?_⟩
  · have hx2 := h x hx
    clear hx
    rcases Deed.alts hx2 with ⟨a, t, rfl, h1, h2, h3⟩ | ⟨a, rfl, h1⟩ | ⟨a, rfl, h1⟩ | ⟨a, b, rfl, h1, h2, h3⟩ | ⟨a, b, rfl, h1, h2, h3⟩ | ⟨a, b, rfl, h1, h2, h3⟩ | ⟨a, b, c, rfl, h1, h2, h3, h4, h5, h6⟩
    all_goals simp only [Deed.d, Deed.ds, Deed.tl, nT]
    all_goals repeat (first | walk_at "dl" | simp only [cut1])
    · rw [odd_int a t]
      exact q
    all_goals exact q
  · walk_at "dl"
    exact q
  · walk_at "dl"
    rfl
end
section
abbrev sp__law_led_right : FSpec := { ι := Nat × List Deed, args := fun i => [.int i.1, .lst (dL i.2)], pre := fun i _ => (∀ x ∈ i.2, x.ok i.1) ∧ i.2.length ≤ 200 ∧ 1 ≤ i.1 ∧ i.1 ≤ 8, res := fun i cs d cs' => d = .bl true ∧ cs' = cs }
theorem lled_i {n : Nat} {ds : List Deed} {cs : Sto} {Q : PD} {z : Lz (sp__law_led_right, Q)} (h : ∀ x ∈ ds, x.ok n) (l : ds.length ≤ 200) (n1 : 1 ≤ n) (n8 : n ≤ 8) (q : Q (.bl true) cs) : callP sp__law_led_right [.int n, .lst (dL ds)] cs Q z := callP_i (n, ds) rfl ⟨h, l, n1, n8⟩ fun _ _ ⟨e1, e2⟩ => by subst e1; subst e2; exact q
theorem calm__law_led_right : Calm sp__law_led_right := ⟨fun _ _ _ _ h => h⟩
set_option maxHeartbeats 4000000 in
theorem ok__law_led_right (T : Txt P w K mg) [TB : TBs base T] : FnG P w K mg base CX0 9 T.f__law_led_right T.d__law_led_right ["_law_wires", "_law_deeds"] (dSp K sp__law_led_right) := by
  refine dfunC T.G__law_led_right sc__law_led_right (fun i => by first | rfl | (cases i <;> rfl)) fun A outer s H E hr => ⟨_, (dss_cons (ds_pat (dg_tp rfl (dgs_cons (dg_nm 3 sc__law_led_right.nd) (dgs_cons (dg_nm 4 sc__law_led_right.nd) dgs_nil))) (de_tup (da_cons (de_mkF (calm_Program___init__ T.cs) T.M_Program (ok_Program___init__ T) (hr.mono (by decide)) T.m_Program T.b_Program___init__ (da_cons (dv 0) (da_cons (dv 1) da_nil))) (da_cons (de_call calm__law_due (ok__law_due T) (hr.mono (by decide)) T.m__law_due T.F__law_due.kp T.b__law_due (da_cons (dv 1) da_nil)) da_nil))))
      (dss_cons (ds_if (dt_of (dw_or (dt_cmp (opd_neX (calm_Program___eq__ T.cs) T.q_Program (ok_Program___eq__ T) T.b_Program___eq__ (hr.mono (by decide)) hr.r.units) (de_callB (cd_reprX hr.gd hr.r.units) T.z_repr (by decide +kernel) (da_cons (de_call (calm_odd_turns T.cs) (ok_odd_turns T) (hr.mono (by decide)) T.m_odd_turns T.F_odd_turns.kp T.b_odd_turns (da_cons (dv 3) da_nil)) da_nil)) (de_callB (cd_reprX hr.gd hr.r.units) T.z_repr (by decide +kernel) (da_cons (de_call calm__law_odd (ok__law_odd T) (hr.mono (by decide)) T.m__law_odd T.F__law_odd.kp T.b__law_odd (da_cons (dv 4) da_nil)) da_nil))) (dw_or1 (dt_cmp (opd_neX (calm_Program___eq__ T.cs) T.q_Program (ok_Program___eq__ T) T.b_Program___eq__ (hr.mono (by decide)) hr.r.units) (de_callB (cd_reprX hr.gd hr.r.units) T.z_repr (by decide +kernel) (da_cons (de_callK0 (calm_odd_turns T.cs) (ok_odd_turns T) (hr.mono (by decide)) T.m_odd_turns T.F_odd_turns.kp (kw_odd_turns_0_program T) (dk_cons (dv 3) dk_nil)) da_nil)) (de_callB (cd_reprX hr.gd hr.r.units) T.z_repr (by decide +kernel) (da_cons (de_call calm__law_odd (ok__law_odd T) (hr.mono (by decide)) T.m__law_odd T.F__law_odd.kp T.b__law_odd (da_cons (dv 4) da_nil)) da_nil)))))) (dss_one (ds_ret de_bl)) dss_nil)
      (dss_cons (ds_if (dt_cmp opd_gt (de_callB cd_len T.z_len (by decide +kernel) (da_cons (dv 4) da_nil)) de_int) (dss_one (ds_ret (de_cmp (opd_eqX (calm_Program___eq__ T.cs) T.q_Program (ok_Program___eq__ T) T.b_Program___eq__ (hr.mono (by decide)) hr.r.units) (de_heard (k := 6) (ok__law_heard T _) (mkrF_of (("_law_led_right" : Str) ++ ".<locals>.") (by rfl) (by rfl) TB.tb__law_led_right TB.mem__law_led_right TB.one__law_led_right) (hr.mono (by decide)) (LamX.lamS_by (sc := defScope s__law_led_right) (by decide +kernel)) (fun _ _ _ _ _ _ _ hr => (dex_call (okx_basic T) (hr.mono (by decide)) T.m_basic T.F_basic.kp T.b_basic (dax_of (da_cons (dv 3) da_nil))))) (de_tup (da_cons de_str (da_cons de_int da_nil)))))) dss_nil)
      (dss_cons (ds_set (i := 2) sc__law_led_right.nd (de_call (calm_basic T.cs) (ok_basic T) (hr.mono (by decide)) T.m_basic T.F_basic.kp T.b_basic (da_cons (dv 3) da_nil)))
      (dss_one (ds_ret (de_and (de_callB (cd_isC T.c_Program) T.z_isinstance (by decide +kernel) (da_cons (dv 2) (da_cons (de_glob (D.ref T.cs.Program) (v := .ref T.cs.Program) (by rfl) T.m_Program rfl (fun _ => rfl)) da_nil))) (de_and (de_cmp (opd_eqX (calm_Program___eq__ T.cs) T.q_Program (ok_Program___eq__ T) T.b_Program___eq__ (hr.mono (by decide)) hr.r.units) (de_callB (cd_reprX hr.gd hr.r.units) T.z_repr (by decide +kernel) (da_cons (de_tup (da_cons (de_fld T.c_Program.cl T.n_Program_wires (dv 2)) (da_cons (de_fld T.c_Program.cl T.n_Program_deeds (dv 2)) da_nil))) da_nil)) (de_callB (cd_reprX hr.gd hr.r.units) T.z_repr (by decide +kernel) (da_cons (de_tup (da_cons (dv 0) (da_cons (de_callT cd_tup T.z_tuple (by decide +kernel) (da_cons (dv 4) da_nil)) da_nil))) da_nil))) (de_one (de_cmp (opd_eqX (calm_Program___eq__ T.cs) T.q_Program (ok_Program___eq__ T) T.b_Program___eq__ (hr.mono (by decide)) hr.r.units) (de_callK0 (calm_basic T.cs) (ok_basic T) (hr.mono (by decide)) T.m_basic T.F_basic.kp (kw_basic_0_program T) (dk_cons (dv 3) dk_nil)) (dv 2))))))))))), fun i cs hp => ?_⟩
  obtain ⟨n, ds⟩ := i
  obtain ⟨h, l, n1, n8⟩ : (∀ x ∈ ds, x.ok n) ∧ ds.length ≤ 200 ∧ 1 ≤ n ∧ n ≤ 8 := hp
  obtain ⟨l1, l2⟩ := basicD_len h
  have hB := basicD_ok h
  have hn := oddN_le (basicD ds)
  have hI : ∀ (S : Sto) (n : Nat) (ds : List Deed), insAt S T.cs.Program (progD T.cs.Program n ds) = some ([("wires", .int n), ("deeds", .tup (dL ds))] : List (Str × D)) := fun S n ds => insAt_obj _ _
  have hC : ∀ (S : Sto) (n : Nat) (ds : List Deed), isiC T.cs.Program S (progD T.cs.Program n ds) = some true := fun S n ds => isiC_obj _ _
  have rN := fun cs => rx_n (n := oddN (basicD ds)) (by omega) cs
  have hz : (dL (basicD ds)).length ≤ sizeLine := by rw [dL, List.length_map, sizeLine_eq]; omega
  have dLl : (dL (basicD ds)).length = (basicD ds).length := by rw [dL, List.length_map]
  walk_at "dl"
  refine mkProg_i n1 n8 h l ?_
  walk_at "dl"
  refine ldue_i h l ?_
  walk_at "dl"
  refine odd_i h l n1 n8 ?_
  repeat (first | walk_at "dl" | simp only [rN])
  refine lodd_i hB (by omega) ?_
  repeat (first | walk_at "dl" | simp only [rN])
  refine odd_i h l n1 n8 ?_
  repeat (first | walk_at "dl" | simp only [rN])
  refine lodd_i hB (by omega) ?_
  repeat (first | walk_at "dl" | simp only [rN])
  refine cond2_d (fun h8 => ?_) (fun h8 => ?_)
  · walk_at "dl"
    refine basic_many h l (by omega) n1 n8 ?_
    try walk_at "dl"
    refine heard_tm ?_
    repeat (first | walk_at "dl" | simp only [eqD_d2])
  · have hl : (basicD ds).length ≤ 200 := by omega
    walk_at "dl"
    refine basic_i h l hl n1 n8 ?_
    have rP := fun cs => rx_pd (cs := cs) hB (by omega) hl
    repeat (first | walk_at "dl" | simp only [hI, hC, rP, hz, true_and, decide_true])
    refine basic_i h l hl n1 n8 ?_
    repeat (first | walk_at "dl" | simp only [oEqX_prog])
    refine prog_eq_i ?_
    exact ⟨rfl, rfl⟩
end
section
abbrev sp_law : FSpec := spLaw 63
theorem calm_law : Calm sp_law := ⟨fun _ _ _ _ h => h⟩
set_option maxHeartbeats 4000000 in
theorem ok_law (T : Txt P w K mg) [TB : TBs base T] : FnG P w K mg base CX0 10 T.f_law T.d_law ["_law_script"] (dSp K sp_law) := by
  refine dfunC T.G_law sc_law (fun i => by first | rfl | (cases i <;> rfl)) fun A outer s H E hr => ⟨_, (dss_cons (ds_set (i := 1) sc_law.nd (de_call calm__law_mason (ok__law_mason T) (hr.mono (by decide)) T.m__law_mason T.F__law_mason.kp T.b__law_mason (da_cons (dv 0) da_nil)))
      (dss_cons (ds_for PassesOwn.never rfl (di_range1 T.z_range (da_cons de_int da_nil)) (dg_nm 2 sc_law.nd) (dss_cons (ds_set (i := 5) sc_law.nd (de_op opd_add de_int (de_call calm__law_hew (ok__law_hew T) (hr.mono (by decide)) T.m__law_hew T.F__law_hew.kp T.b__law_hew (da_cons (dv 1) (da_cons de_int da_nil)))))
      (dss_cons (ds_setLc (i := 6) (own := [("_law_step", 9)]) rfl sc_law.nd (sw_true rfl rfl rfl (by decide +kernel)) (di_range1 T.z_range (da_cons (de_call calm__law_one (ok__law_one T) (hr.mono (by decide)) T.m__law_one T.F__law_one.kp T.b__law_one (da_cons (dv 1) (da_cons (de_lst (da_cons de_int (da_cons de_int (da_cons de_int (da_cons de_int (da_cons de_int da_nil)))))) da_nil))) da_nil)) (blkOk_by (own := [("_law_step", 9)]) (N := N_law) (sc := defScope s_law) (by decide +kernel)) (fun _ _ _ _ _ => (dg_nm 9 sc_law.nd)) (fun _ _ _ _ _ => dts_nil) (fun _ _ _ _ _ => (de_call calm__law_deed (ok__law_deed T) (hr.mono (by decide)) T.m__law_deed T.F__law_deed.kp T.b__law_deed (da_cons (dv 1) (da_cons (dv 5) da_nil)))))
      (dss_one (ds_if (dt_not (dt_tru (de_call calm__law_led_right (ok__law_led_right T (TB := TB)) (hr.mono (by decide)) T.m__law_led_right T.F__law_led_right.kp T.b__law_led_right (da_cons (dv 5) (da_cons (dv 6) da_nil))))) (dss_one (ds_ret de_bl)) dss_nil)))))
      (dss_cons (ds_par (i := 7) (j := 8) rfl sc_law.nd (da_cons (de_op opd_mul (de_lst (da_cons (de_tup (da_cons de_str (da_cons de_int (da_cons de_int (da_cons de_int da_nil))))) da_nil)) de_int) (da_cons (de_lst (da_cons (de_tup (da_cons de_str (da_cons de_int (da_cons de_int da_nil)))) da_nil)) da_nil)))
      (dss_cons (ds_set (i := 3) sc_law.nd (de_call calm__law_hew (ok__law_hew T) (hr.mono (by decide)) T.m__law_hew T.F__law_hew.kp T.b__law_hew (da_cons (dv 1) (da_cons de_int da_nil))))
      (dss_cons (ds_if (dt_of (dw_or (dt_not (dt_tru (de_call calm__law_led_right (ok__law_led_right T (TB := TB)) (hr.mono (by decide)) T.m__law_led_right T.F__law_led_right.kp T.b__law_led_right (da_cons de_int (da_cons (de_op opd_add (de_op opd_add (dv 7) (dv 8)) (de_op opd_mul (de_lst (da_cons (de_tup (da_cons de_str (da_cons de_int da_nil))) da_nil)) (de_op opd_add (dv 3) de_int))) da_nil))))) (dw_or1 (dt_not (dt_tru (de_call calm__law_led_right (ok__law_led_right T (TB := TB)) (hr.mono (by decide)) T.m__law_led_right T.F__law_led_right.kp T.b__law_led_right (da_cons de_int (da_cons (de_op opd_add (de_op opd_mul (dv 7) de_int) (de_op opd_mul (dv 8) (de_op opd_add de_int (dv 3)))) da_nil)))))))) (dss_one (ds_ret de_bl)) dss_nil)
      (dss_cons (ds_set (i := 4) sc_law.nd (de_call calm__law_one (ok__law_one T) (hr.mono (by decide)) T.m__law_one T.F__law_one.kp T.b__law_one (da_cons (dv 1) (da_cons (de_lst (da_cons de_non (da_cons de_int (da_cons de_str (da_cons (de_tup (da_cons de_int (da_cons (de_lst da_nil) da_nil))) (da_cons de_bl (da_cons (de_lst da_nil) da_nil))))))) da_nil))))
      (dss_one (ds_ret (de_and (de_cmp (opd_eqX (calm_Program___eq__ T.cs) T.q_Program (ok_Program___eq__ T) T.b_Program___eq__ (hr.mono (by decide)) hr.r.units) (de_heard (k := 6) (ok__law_heard T _) (mkrF_of (("law" : Str) ++ ".<locals>.") (by rfl) (by rfl) TB.tb_law TB.mem_law TB.one_law) (hr.mono (by decide)) (LamX.lamS_by (sc := defScope s_law) (by decide +kernel)) (fun _ _ _ _ _ _ _ hr => (dex_call (okx_basic T) (hr.mono (by decide)) T.m_basic T.F_basic.kp T.b_basic (dax_of (da_cons (dv 4) da_nil))))) de_str) (de_one (de_cmp (opd_eqX (calm_Program___eq__ T.cs) T.q_Program (ok_Program___eq__ T) T.b_Program___eq__ (hr.mono (by decide)) hr.r.units) (de_heardD (k := 6) (ok__law_heard T _) (mkrF_of (("law" : Str) ++ ".<locals>.") (by rfl) (by rfl) TB.tb_law TB.mem_law TB.one_law) (hr.mono (by decide)) (lamSD_by (sc := defScope s_law) (N := N_law) (a1 := "_law_a1") (by decide +kernel)) (fun _ _ _ _ _ _ _ hr => (dex_call (okx_odd_turns T) (hr.mono (by decide)) T.m_odd_turns T.F_odd_turns.kp T.b_odd_turns (dax_of (da_cons (dv 4) da_nil))))) de_str))))))))))), fun i cs hp => ?_⟩
  obtain ⟨ns, hn⟩ := i
  cases hp
  simp only [sp_law, spLaw]
  walk_at "go"
  refine callP_i ⟨ns, hn⟩ rfl rfl ?_
  rintro _ _ ⟨rfl, ms, hm, rfl⟩
  walk_at "gol"
  have sizes : ∀ (l : List Nat) (d : D), d ∈ l.map (fun k : Nat => D.int k) → (∀ k ∈ l, k ≤ 25) → ∃ m : Nat, d = .int m ∧ m ≤ 25 := fun l d hd hl => by
    obtain ⟨m, hm, rfl⟩ := List.mem_map.mp hd
    exact ⟨m, rfl, hl m hm⟩
  refine forP_i (for_inv (fun k env cs' => (∃ o2 o5 o6, env = [some (.scr ns), some (.cell 0), o2, none, none, o5, o6, none, none, none]) ∧ SvN 0 (200 * k) cs' ∧ k ≤ 4) _ _ _ ⟨⟨_, _, _, rfl⟩, ⟨ms, 0, 0, rfl, by decide, by decide, hm⟩, by decide⟩ (fun _ _ _ _ => trivial) ?_ ?_)
  · rintro k d _ cs he ⟨⟨o2, o5, o6, rfl⟩, sv, _⟩
    obtain ⟨hk, rfl⟩ := rngD_get he
    have hk4 : k < 4 := hk
    refine ⟨_, rfl, fun E' hn _ hr _ => ?_⟩
    walk_at "gol"
    refine ladle_i (n := 200 * k) sv (by decide) (by decide) (by omega) fun r S1 r0 r1 mv1 => ?_
    obtain ⟨r, rfl⟩ := Int.eq_ofNat_of_zero_le r0
    have e1 : (1 : Int) + (r : Int) = ((1 + r : Nat) : Int) := by omega
    walk_at "gol"
    rw [e1]
    have w1 : 1 ≤ 1 + r := by omega
    have w8 : 1 + r ≤ 8 := by omega
    clear e1 r0 r1
    generalize 1 + r = w at *
    refine one_i (n := 200 * k + 1) mv1.sv (by decide) (by decide) (by omega) fun d S3 hd mv3 => ?_
    obtain ⟨m, rfl, hm⟩ := sizes [0, 1, 4, 10, 25] d hd (by decide)
    have hz : (rngD 0 m).length ≤ sizeLine := by rw [rngD_len, sizeLine_eq]; omega
    walk_at "dl"
    refine ⟨by omega, hz, lc_drw (fun x : Deed => x.d) (fun x => x.ok w) 5 0 (200 * k + 2) m mv3.sv (fun i hi S mv => ?_) (fun ds S4 hl1 hok mv4 => ?_)⟩
    · refine ⟨_, rfl, fun R q => ?_⟩
      walk_at "gol"
      refine ldeed_i (n := 200 * k + 2 + 5 * i) mv.sv (by omega) w1 (by omega) fun x S' hx mv' => ?_
      exact q x S' hx (mv.trans mv')
    have edl : ds.map (fun x : Deed => x.d) = dL ds := rfl
    rw [edl]
    clear edl hz
    walk_at "gol"
    refine lled_i hok (by omega) w1 w8 ?_
    walk_at "gol"
    exact hn _ _ ⟨⟨_, _, _, rfl⟩, mv4.sv.mono (by omega), hk⟩
  · rintro _ cs ⟨⟨o2, o5, o6, rfl⟩, sv, hk4⟩
    rw [rngD_len] at sv
    walk_at "gol"
    let bo : Deed := ⟨.both, [2, 0, 1], 0⟩
    let sw : Deed := ⟨.swap, [1, 2], 0⟩
    let mx : Deed := ⟨.mix, [0], 0⟩
    have hbo : bo.ok 3 := ⟨rfl, by decide, by decide, by simp [bo]⟩
    have hsw : sw.ok 3 := ⟨rfl, by decide, by decide, by simp [sw]⟩
    have hmx : mx.ok 3 := ⟨rfl, by decide, by decide, by simp [mx]⟩
    obtain ⟨b7, hb7⟩ : ∃ b7, b7 = List.replicate 7 bo := ⟨_, rfl⟩
    obtain ⟨s1, hs1⟩ : ∃ s1, s1 = [sw] := ⟨_, rfl⟩
    have ob : ∀ x ∈ b7, x.ok 3 := fun x hx => by
      rw [hb7, List.mem_replicate] at hx
      rw [hx.2]
      exact hbo
    have os : ∀ x ∈ s1, x.ok 3 := fun x hx => by
      rw [hs1, List.mem_singleton] at hx
      rw [hx]
      exact hsw
    have lb : b7.length = 7 := by rw [hb7, List.length_replicate]
    have ls : s1.length = 1 := by rw [hs1]; rfl
    have eb : [[D.tup [D.str (Str.ofString "both"), D.int 2, D.int 0, D.int 1]], [D.tup [D.str (Str.ofString "both"), D.int 2, D.int 0, D.int 1]], [D.tup [D.str (Str.ofString "both"), D.int 2, D.int 0, D.int 1]], [D.tup [D.str (Str.ofString "both"), D.int 2, D.int 0, D.int 1]], [D.tup [D.str (Str.ofString "both"), D.int 2, D.int 0, D.int 1]], [D.tup [D.str (Str.ofString "both"), D.int 2, D.int 0, D.int 1]], [D.tup [D.str (Str.ofString "both"), D.int 2, D.int 0, D.int 1]]].flatten = dL b7 := by rw [hb7]; rfl
    have es : [D.tup [D.str (Str.ofString "swap"), D.int 1, D.int 2]] = dL s1 := by rw [hs1]; rfl
    rw [eb, es]
    clear eb es hb7 hs1 hbo hsw
    have dLl : ∀ ds : List Deed, (dL ds).length = ds.length := fun ds => by rw [dL, List.length_map]
    have fl : ∀ (m : Nat) (ds : List Deed), (List.replicate m (dL ds)).flatten = dL (List.replicate m ds).flatten := fun m ds => by
      unfold dL
      rw [List.map_flatten, List.map_replicate]
    have flo : ∀ (m : Nat) (ds : List Deed), (∀ x ∈ ds, x.ok 3) → ∀ x ∈ (List.replicate m ds).flatten, x.ok 3 := fun m ds h x hx => by
      obtain ⟨l, h1, h2⟩ := List.mem_flatten.mp hx
      rw [List.mem_replicate] at h1
      exact h x (h1.2 ▸ h2)
    have fll : ∀ (m : Nat) (ds : List Deed), (List.replicate m ds).flatten.length = m * ds.length := fun m ds => by simp
    have apo : ∀ {a b : List Deed}, (∀ x ∈ a, x.ok 3) → (∀ x ∈ b, x.ok 3) → ∀ x ∈ a ++ b, x.ok 3 := fun ha hb x hx => (List.mem_append.mp hx).elim (ha x) (hb x)
    have om : ∀ x ∈ [mx], x.ok 3 := fun x hx => by rw [List.mem_singleton.mp hx]; exact hmx
    refine ladle_i (n := 200 * 4) sv (by decide) (by decide) (by decide) fun r S1 r0 r1 mv1 => ?_
    obtain ⟨r, rfl⟩ := Int.eq_ofNat_of_zero_le r0
    have hr4 : r < 4 := by omega
    have er : ((r : Int) + 1).toNat = r + 1 := by omega
    have er2 : (1 + (r : Int)).toNat = r + 1 := by omega
    have z1 : (dL b7).length + (dL s1).length ≤ sizeLine := by rw [dLl, dLl, lb, ls]; decide
    have z2 : -9223372036854775808 ≤ (r : Int) + 1 ∧ (r : Int) + 1 < 9223372036854775808 ∧ 1 * ((r : Int) + 1).toNat ≤ sizeLine := ⟨by omega, by omega, by rw [er, sizeLine_eq]; omega⟩
    have em : ∀ m : Nat, (List.replicate m [D.tup [D.str (Str.ofString "mix"), D.int 0]]).flatten = dL (List.replicate m [mx]).flatten := fun m => fl m [mx]
    walk_at "dl"
    refine ⟨z1, z2, ?_⟩
    rw [er, em, dL_app, dL_app]
    refine ⟨by rw [dLl, dLl, List.length_append, fll, lb, ls, sizeLine_eq]; show _ + (r + 1) * 1 ≤ _; omega, ?_⟩
    refine lled_i (n := 3) (apo (apo ob os) (flo _ _ om)) (by rw [List.length_append, List.length_append, fll, lb, ls]; show _ + (r + 1) * 1 ≤ _; omega) (by decide) (by decide) ?_
    walk_at "dl"
    have e20 : [dL b7, dL b7, dL b7, dL b7, dL b7, dL b7, dL b7, dL b7, dL b7, dL b7, dL b7, dL b7, dL b7, dL b7, dL b7, dL b7, dL b7, dL b7, dL b7, dL b7].flatten = dL (List.replicate 20 b7).flatten := fl 20 b7
    refine ⟨by rw [dLl, lb]; decide, ⟨by omega, by omega, by rw [er2, dLl, ls, sizeLine_eq]; omega⟩, ?_⟩
    rw [er2, e20, fl, dL_app]
    refine ⟨by rw [dLl, dLl, fll, fll, lb, ls, sizeLine_eq]; omega, ?_⟩
    refine lled_i (n := 3) (apo (flo _ _ ob) (flo _ _ os)) (by rw [List.length_append, fll, fll, lb, ls]; omega) (by decide) (by decide) ?_
    walk_at "dl"
    refine one_i (n := 200 * 4 + 1) mv1.sv (by decide) (by decide) (by decide) fun odd S2 hd mv2 => ?_
    have hodd : kd odd = true := by
      simp only [List.mem_cons, List.not_mem_nil, or_false] at hd
      rcases hd with rfl | rfl | rfl | rfl | rfl | rfl <;> rfl
    clear hd
    walk_at "dl"
    refine basic_bad hodd ?_
    try walk_at "dl"
    refine heard_bp ?_
    walk_at "dl"
    refine odd_bad hodd ?_
    try walk_at "dl"
    refine heard_bp ?_
    walk_at "dl"
end

omit [Tbs] in
set_option maxHeartbeats 4000000 in
theorem all_mk {q : PySem.W.OpenLaw} {w : World} {K : PySem.W.Frag} {h : Heap} {mg : Str → Option Value} {fa : Addr} (X : K.In h) (G : h.Ns mainGlobals mg) (hfa : mg "law" = some (.ref fa))
    {f0 : Addr} {oc0 kV0 dc0 pm0 cd0 ct0 : Value} {od0 an0 : Option Addr} {sl0 : Array (Option Value)}
    (a0 : PySem.W.nsIn K mainGlobals "_law_mason" = some (some (.ref f0)))
    (l0 : K.lookup f0 = some ⟨oc0, od0, .func (PySem.W.fnOf "_law_mason" "_law_mason" (defArgs s__law_mason) (defBody s__law_mason) (defScope s__law_mason) .none kV0 dc0 pm0 an0 cd0 ct0), sl0⟩) (c0 : PySem.W.codeIn K cd0 "_law_mason" = true) (k0 : PySem.W.keepIn K (.ref f0) = true)
    {f1 : Addr} {oc1 kV1 dc1 pm1 cd1 ct1 : Value} {od1 an1 : Option Addr} {sl1 : Array (Option Value)}
    {C_Program : Addr} (ca_Program : PySem.W.nsIn K mainGlobals "Program" = some (some (.ref C_Program)))
    (cb_Program_0 : PySem.W.plainGet K C_Program Str.empty = true)
    (cb_Program_1 : PySem.W.hasDictIn K C_Program = true)
    (cb_Program_2 : PySem.W.plainOver K C_Program = true)
    (cb_Program_3 : PySem.W.findIn K (.ref C_Program) "__setattr__" = some (some (.builtin "object.__setattr__")))
    (cb_Program_4 : PySem.W.findIn K (.ref C_Program) "__class__" = some (some (.builtin "object.__class__")))
    (cb_Program_5 : PySem.W.specialIn K (.builtin "object.__class__") "__get__" = some (some (.builtin "getset_descriptor.__get__")))
    (cb_Program_6 : PySem.W.takesIn K (.builtin "object.__class__") = some true)
    (cb_Program_7 : PySem.W.mroIn K C_Program (.type "object") = some true)
    (cb_Program_8 : PySem.W.isClsIn K C_Program = true)
    (cb_Program_9 : PySem.W.subIn K (.type "NoneType") (.ref C_Program) = some false)
    (cb_Program_10 : PySem.W.subIn K (.type "bool") (.ref C_Program) = some false)
    (cb_Program_11 : PySem.W.subIn K (.type "int") (.ref C_Program) = some false)
    (cb_Program_12 : PySem.W.subIn K (.type "str") (.ref C_Program) = some false)
    (cb_Program_13 : PySem.W.subIn K (.type "tuple") (.ref C_Program) = some false)
    (cb_Program_14 : PySem.W.subIn K (.type "list") (.ref C_Program) = some false)
    (cb_Program_15 : PySem.W.subIn K (.type "dict") (.ref C_Program) = some false)
    (cb_Program_16 : PySem.W.typeIn K (.ref C_Program) = some (.type "type"))
    (cm_Program : PySem.W.makesIn K C_Program = true) (ck_Program : PySem.W.keepIn K (.ref C_Program) = true)
    (cn_Program_wires : PySem.W.findIn K (.ref C_Program) "wires" = some none)
    (cn_Program_deeds : PySem.W.findIn K (.ref C_Program) "deeds" = some none)
    (a1 : PySem.W.findIn K (.ref C_Program) "__eq__" = some (some (.ref f1)))
    (l1 : K.lookup f1 = some ⟨oc1, od1, .func (PySem.W.fnOf "__eq__" "Program.__eq__" (defArgs s_Program___eq__) (defBody s_Program___eq__) (defScope s_Program___eq__) .none kV1 dc1 pm1 an1 cd1 ct1), sl1⟩) (c1 : PySem.W.codeIn K cd1 "Program.__eq__" = true) (k1 : PySem.W.keepIn K (.ref f1) = true)
    (fn1 : PySem.W.isFn K (.ref f1) = true)
    {f2 : Addr} {oc2 kV2 dc2 pm2 cd2 ct2 : Value} {od2 an2 : Option Addr} {sl2 : Array (Option Value)}
    (a2 : PySem.W.nsIn K mainGlobals "_law_hew" = some (some (.ref f2)))
    (l2 : K.lookup f2 = some ⟨oc2, od2, .func (PySem.W.fnOf "_law_hew" "_law_hew" (defArgs s__law_hew) (defBody s__law_hew) (defScope s__law_hew) .none kV2 dc2 pm2 an2 cd2 ct2), sl2⟩) (c2 : PySem.W.codeIn K cd2 "_law_hew" = true) (k2 : PySem.W.keepIn K (.ref f2) = true)
    {f3 : Addr} {oc3 kV3 dc3 pm3 cd3 ct3 : Value} {od3 an3 : Option Addr} {sl3 : Array (Option Value)}
    (a3 : PySem.W.nsIn K mainGlobals "_law_one" = some (some (.ref f3)))
    (l3 : K.lookup f3 = some ⟨oc3, od3, .func (PySem.W.fnOf "_law_one" "_law_one" (defArgs s__law_one) (defBody s__law_one) (defScope s__law_one) .none kV3 dc3 pm3 an3 cd3 ct3), sl3⟩) (c3 : PySem.W.codeIn K cd3 "_law_one" = true) (k3 : PySem.W.keepIn K (.ref f3) = true)
    {f4 : Addr} {oc4 kV4 dc4 pm4 cd4 ct4 : Value} {od4 an4 : Option Addr} {sl4 : Array (Option Value)}
    (a4 : PySem.W.nsIn K mainGlobals "_law_deed" = some (some (.ref f4)))
    (l4 : K.lookup f4 = some ⟨oc4, od4, .func (PySem.W.fnOf "_law_deed" "_law_deed" (defArgs s__law_deed) (defBody s__law_deed) (defScope s__law_deed) .none kV4 dc4 pm4 an4 cd4 ct4), sl4⟩) (c4 : PySem.W.codeIn K cd4 "_law_deed" = true) (k4 : PySem.W.keepIn K (.ref f4) = true)
    {f5 : Addr} {oc5 kV5 dc5 pm5 cd5 ct5 : Value} {od5 an5 : Option Addr} {sl5 : Array (Option Value)}
    (a5 : PySem.W.nsIn K mainGlobals "is_integer" = some (some (.ref f5)))
    (l5 : K.lookup f5 = some ⟨oc5, od5, .func (PySem.W.fnOf "is_integer" "is_integer" (defArgs s_is_integer) (defBody s_is_integer) (defScope s_is_integer) .none kV5 dc5 pm5 an5 cd5 ct5), sl5⟩) (c5 : PySem.W.codeIn K cd5 "is_integer" = true) (k5 : PySem.W.keepIn K (.ref f5) = true)
    {f6 : Addr} {oc6 kV6 dc6 pm6 cd6 ct6 : Value} {od6 an6 : Option Addr} {sl6 : Array (Option Value)}
    (a6 : PySem.W.nsIn K mainGlobals "is_within" = some (some (.ref f6)))
    (l6 : K.lookup f6 = some ⟨oc6, od6, .func (PySem.W.fnOf "is_within" "is_within" (defArgs s_is_within) (defBody s_is_within) (defScope s_is_within) .none kV6 dc6 pm6 an6 cd6 ct6), sl6⟩) (c6 : PySem.W.codeIn K cd6 "is_within" = true) (k6 : PySem.W.keepIn K (.ref f6) = true)
    {f7 : Addr} {oc7 kV7 dc7 pm7 cd7 ct7 : Value} {od7 an7 : Option Addr} {sl7 : Array (Option Value)}
    (a7 : PySem.W.nsIn K mainGlobals "is_deed" = some (some (.ref f7)))
    (l7 : K.lookup f7 = some ⟨oc7, od7, .func (PySem.W.fnOf "is_deed" "is_deed" (defArgs s_is_deed) (defBody s_is_deed) (defScope s_is_deed) .none kV7 dc7 pm7 an7 cd7 ct7), sl7⟩) (c7 : PySem.W.codeIn K cd7 "is_deed" = true) (k7 : PySem.W.keepIn K (.ref f7) = true)
    {f8 : Addr} {oc8 kV8 dc8 pm8 cd8 ct8 : Value} {od8 an8 : Option Addr} {sl8 : Array (Option Value)}
    (a8 : PySem.W.findIn K (.ref C_Program) "__init__" = some (some (.ref f8)))
    (l8 : K.lookup f8 = some ⟨oc8, od8, .func (PySem.W.fnOf "__init__" "Program.__init__" (defArgs s_Program___init__) (defBody s_Program___init__) (defScope s_Program___init__) .none kV8 dc8 pm8 an8 cd8 ct8), sl8⟩) (c8 : PySem.W.codeIn K cd8 "Program.__init__" = true) (k8 : PySem.W.keepIn K (.ref f8) = true)
    (fn8 : PySem.W.isFn K (.ref f8) = true)
    {f9 : Addr} {oc9 kV9 dc9 pm9 cd9 ct9 : Value} {od9 an9 : Option Addr} {sl9 : Array (Option Value)}
    (a9 : PySem.W.nsIn K mainGlobals "need_program" = some (some (.ref f9)))
    (l9 : K.lookup f9 = some ⟨oc9, od9, .func (PySem.W.fnOf "need_program" "need_program" (defArgs s_need_program) (defBody s_need_program) (defScope s_need_program) .none kV9 dc9 pm9 an9 cd9 ct9), sl9⟩) (c9 : PySem.W.codeIn K cd9 "need_program" = true) (k9 : PySem.W.keepIn K (.ref f9) = true)
    {f10 : Addr} {oc10 kV10 dc10 pm10 cd10 ct10 : Value} {od10 an10 : Option Addr} {sl10 : Array (Option Value)}
    (a10 : PySem.W.nsIn K mainGlobals "three_led_back" = some (some (.ref f10)))
    (l10 : K.lookup f10 = some ⟨oc10, od10, .func (PySem.W.fnOf "three_led_back" "three_led_back" (defArgs s_three_led_back) (defBody s_three_led_back) (defScope s_three_led_back) .none kV10 dc10 pm10 an10 cd10 ct10), sl10⟩) (c10 : PySem.W.codeIn K cd10 "three_led_back" = true) (k10 : PySem.W.keepIn K (.ref f10) = true)
    {f11 : Addr} {oc11 kV11 dc11 pm11 cd11 ct11 : Value} {od11 an11 : Option Addr} {sl11 : Array (Option Value)}
    (a11 : PySem.W.nsIn K mainGlobals "led_back" = some (some (.ref f11)))
    (l11 : K.lookup f11 = some ⟨oc11, od11, .func (PySem.W.fnOf "led_back" "led_back" (defArgs s_led_back) (defBody s_led_back) (defScope s_led_back) .none kV11 dc11 pm11 an11 cd11 ct11), sl11⟩) (c11 : PySem.W.codeIn K cd11 "led_back" = true) (k11 : PySem.W.keepIn K (.ref f11) = true)
    {f12 : Addr} {oc12 kV12 dc12 pm12 cd12 ct12 : Value} {od12 an12 : Option Addr} {sl12 : Array (Option Value)}
    (a12 : PySem.W.nsIn K mainGlobals "basic_deeds" = some (some (.ref f12)))
    (l12 : K.lookup f12 = some ⟨oc12, od12, .func (PySem.W.fnOf "basic_deeds" "basic_deeds" (defArgs s_basic_deeds) (defBody s_basic_deeds) (defScope s_basic_deeds) .none kV12 dc12 pm12 an12 cd12 ct12), sl12⟩) (c12 : PySem.W.codeIn K cd12 "basic_deeds" = true) (k12 : PySem.W.keepIn K (.ref f12) = true)
    {f13 : Addr} {oc13 kV13 dc13 pm13 cd13 ct13 : Value} {od13 an13 : Option Addr} {sl13 : Array (Option Value)}
    (a13 : PySem.W.nsIn K mainGlobals "need_few" = some (some (.ref f13)))
    (l13 : K.lookup f13 = some ⟨oc13, od13, .func (PySem.W.fnOf "need_few" "need_few" (defArgs s_need_few) (defBody s_need_few) (defScope s_need_few) .none kV13 dc13 pm13 an13 cd13 ct13), sl13⟩) (c13 : PySem.W.codeIn K cd13 "need_few" = true) (k13 : PySem.W.keepIn K (.ref f13) = true)
    {f14 : Addr} {oc14 kV14 dc14 pm14 cd14 ct14 : Value} {od14 an14 : Option Addr} {sl14 : Array (Option Value)}
    (a14 : PySem.W.nsIn K mainGlobals "basic" = some (some (.ref f14)))
    (l14 : K.lookup f14 = some ⟨oc14, od14, .func (PySem.W.fnOf "basic" "basic" (defArgs s_basic) (defBody s_basic) (defScope s_basic) .none kV14 dc14 pm14 an14 cd14 ct14), sl14⟩) (c14 : PySem.W.codeIn K cd14 "basic" = true) (k14 : PySem.W.keepIn K (.ref f14) = true)
    {f15 : Addr} {oc15 kV15 dc15 pm15 cd15 ct15 : Value} {od15 an15 : Option Addr} {sl15 : Array (Option Value)}
    (a15 : PySem.W.nsIn K mainGlobals "_law_table" = some (some (.ref f15)))
    (l15 : K.lookup f15 = some ⟨oc15, od15, .func (PySem.W.fnOf "_law_table" "_law_table" (defArgs s__law_table) (defBody s__law_table) (defScope s__law_table) .none kV15 dc15 pm15 an15 cd15 ct15), sl15⟩) (c15 : PySem.W.codeIn K cd15 "_law_table" = true) (k15 : PySem.W.keepIn K (.ref f15) = true)
    {f16 : Addr} {oc16 kV16 dc16 pm16 cd16 ct16 : Value} {od16 an16 : Option Addr} {sl16 : Array (Option Value)}
    (a16 : PySem.W.nsIn K mainGlobals "_law_due" = some (some (.ref f16)))
    (l16 : K.lookup f16 = some ⟨oc16, od16, .func (PySem.W.fnOf "_law_due" "_law_due" (defArgs s__law_due) (defBody s__law_due) (defScope s__law_due) .none kV16 dc16 pm16 an16 cd16 ct16), sl16⟩) (c16 : PySem.W.codeIn K cd16 "_law_due" = true) (k16 : PySem.W.keepIn K (.ref f16) = true)
    {f17 : Addr} {oc17 kV17 dc17 pm17 cd17 ct17 : Value} {od17 an17 : Option Addr} {sl17 : Array (Option Value)}
    (a17 : PySem.W.nsIn K mainGlobals "_law_heard" = some (some (.ref f17)))
    (l17 : K.lookup f17 = some ⟨oc17, od17, .func (PySem.W.fnOf "_law_heard" "_law_heard" (defArgs s__law_heard) (defBody s__law_heard) (defScope s__law_heard) .none kV17 dc17 pm17 an17 cd17 ct17), sl17⟩) (c17 : PySem.W.codeIn K cd17 "_law_heard" = true) (k17 : PySem.W.keepIn K (.ref f17) = true)
    {f18 : Addr} {oc18 kV18 dc18 pm18 cd18 ct18 : Value} {od18 an18 : Option Addr} {sl18 : Array (Option Value)}
    (a18 : PySem.W.nsIn K mainGlobals "odd_turns" = some (some (.ref f18)))
    (l18 : K.lookup f18 = some ⟨oc18, od18, .func (PySem.W.fnOf "odd_turns" "odd_turns" (defArgs s_odd_turns) (defBody s_odd_turns) (defScope s_odd_turns) .none kV18 dc18 pm18 an18 cd18 ct18), sl18⟩) (c18 : PySem.W.codeIn K cd18 "odd_turns" = true) (k18 : PySem.W.keepIn K (.ref f18) = true)
    {f19 : Addr} {oc19 kV19 dc19 pm19 cd19 ct19 : Value} {od19 an19 : Option Addr} {sl19 : Array (Option Value)}
    (a19 : PySem.W.nsIn K mainGlobals "_law_odd" = some (some (.ref f19)))
    (l19 : K.lookup f19 = some ⟨oc19, od19, .func (PySem.W.fnOf "_law_odd" "_law_odd" (defArgs s__law_odd) (defBody s__law_odd) (defScope s__law_odd) .none kV19 dc19 pm19 an19 cd19 ct19), sl19⟩) (c19 : PySem.W.codeIn K cd19 "_law_odd" = true) (k19 : PySem.W.keepIn K (.ref f19) = true)
    {f20 : Addr} {oc20 kV20 dc20 pm20 ct20 : Value} {od20 an20 : Option Addr} {sl20 : Array (Option Value)} {cA20 PT20 : Addr}
    (a20 : PySem.W.nsIn K mainGlobals "_law_led_right" = some (some (.ref f20)))
    (l20 : K.lookup f20 = some ⟨oc20, od20, .func (PySem.W.fnOf "_law_led_right" "_law_led_right" (defArgs s__law_led_right) (defBody s__law_led_right) (defScope s__law_led_right) .none kV20 dc20 pm20 an20 (.ref cA20) ct20), sl20⟩) (c20 : PySem.W.codeIn K (.ref cA20) "_law_led_right" = true) (k20 : PySem.W.keepIn K (.ref f20) = true)
    {tx20 : Value} {tz20 : Option Addr} {tv20 : Array Value} {tw20 : Array (Option Value)} (t0_20 : K.lookup cA20 = some ⟨tx20, tz20, .fields tv20, tw20⟩) (t1_20 : tv20[11]? = some (.ref PT20)) (t2_20 : h.get? PT20 = some { cls := .none, data := .fields #[] }) (t3_20 : K.lookup PT20 = none) (t4_20 : PySem.W.codeHdIn K cA20 PT20 = true)
    {f21 : Addr} {oc21 kV21 dc21 pm21 ct21 : Value} {od21 an21 : Option Addr} {sl21 : Array (Option Value)} {cA21 PT21 : Addr}
    (a21 : PySem.W.nsIn K mainGlobals "law" = some (some (.ref f21)))
    (l21 : K.lookup f21 = some ⟨oc21, od21, .func (PySem.W.fnOf "law" "law" (defArgs s_law) (defBody s_law) (defScope s_law) .none kV21 dc21 pm21 an21 (.ref cA21) ct21), sl21⟩) (c21 : PySem.W.codeIn K (.ref cA21) "law" = true) (k21 : PySem.W.keepIn K (.ref f21) = true)
    {tx21 : Value} {tz21 : Option Addr} {tv21 : Array Value} {tw21 : Array (Option Value)} (t0_21 : K.lookup cA21 = some ⟨tx21, tz21, .fields tv21, tw21⟩) (t1_21 : tv21[11]? = some (.ref PT21)) (t2_21 : h.get? PT21 = some { cls := .none, data := .fields #[] }) (t3_21 : K.lookup PT21 = none) (t4_21 : PySem.W.codeHdIn K cA21 PT21 = true)
    (t5_20_21 : PT20 ≠ PT21)
    {C_BadProgram : Addr} (ca_BadProgram : PySem.W.nsIn K mainGlobals "BadProgram" = some (some (.ref C_BadProgram)))
    {C_LookError : Addr} (ca_LookError : PySem.W.nsIn K mainGlobals "LookError" = some (some (.ref C_LookError)))
    {C_TooMany : Addr} (ca_TooMany : PySem.W.nsIn K mainGlobals "TooMany" = some (some (.ref C_TooMany)))
    (ii_BadProgram_0 : PySem.W.isClsIn K C_BadProgram = true)
    (ii_BadProgram_1 : PySem.W.typeIn K (.ref C_BadProgram) = some (.type "type"))
    (ii_BadProgram_2 : PySem.W.subIn K (.type "NoneType") (.ref C_BadProgram) = some false)
    (ii_TooMany_0 : PySem.W.isClsIn K C_TooMany = true)
    (ii_TooMany_1 : PySem.W.typeIn K (.ref C_TooMany) = some (.type "type"))
    (ii_TooMany_2 : PySem.W.subIn K (.type "NoneType") (.ref C_TooMany) = some false)
    {fe_BadProgram cda_BadProgram cc_BadProgram xN_BadProgram : Addr} {xnm_BadProgram xq_BadProgram xqq_BadProgram xn_BadProgram xfile_BadProgram : Str} {xt_BadProgram xtf_BadProgram : Tok} {xbs_BadProgram xbm_BadProgram xsub_BadProgram : List Value} {xsn_BadProgram : List Str} {xab_BadProgram : Bool} {xcol_BadProgram : Option Bool} {xdd_BadProgram xan_BadProgram xd_BadProgram xd1_BadProgram xd2_BadProgram : Option Addr} {xk0_BadProgram xk1_BadProgram xk3_BadProgram xk5_BadProgram : Option Value} {xo_BadProgram xkV_BadProgram xdoc_BadProgram xpm_BadProgram xct_BadProgram xc1_BadProgram xc2_BadProgram : Value} {xsl_BadProgram xs1_BadProgram xs2_BadProgram : Array (Option Value)} {xvs_BadProgram : Array Value}
    (xl_BadProgram : K.lookup C_BadProgram = some (excClassObj xnm_BadProgram xqq_BadProgram C_BadProgram xN_BadProgram xbs_BadProgram xbm_BadProgram true xsn_BadProgram xsub_BadProgram xab_BadProgram xcol_BadProgram xdd_BadProgram xk0_BadProgram xk1_BadProgram (some (.str xn_BadProgram xt_BadProgram)) xk3_BadProgram xk5_BadProgram "ValueError.__new__")) (xh_BadProgram : PySem.HandSPX.refsVE xbm_BadProgram = true) (xz_BadProgram : xn_BadProgram.length ≤ 1000)
    (xp_BadProgram_0 : PySem.W.findIn K (.ref C_BadProgram) "__setattr__" = some (some (.builtin "object.__setattr__")))
    (xp_BadProgram_1 : PySem.W.subIn K (.ref C_BadProgram) (.type "BaseException") = some true)
    (xp_BadProgram_2 : PySem.W.typeIn K (.ref C_BadProgram) = some (.type "type"))
    (xp_BadProgram_3 : PySem.W.keepIn K (.ref C_BadProgram) = true)
    (xp_BadProgram_4 : PySem.W.findIn K (.ref C_BadProgram) "__getattribute__" = some (some (.builtin "BaseException.__getattribute__")))
    (xp_BadProgram_5 : PySem.W.findIn K (.ref C_BadProgram) "__getattr__" = some none)
    (xp_BadProgram_6 : PySem.W.hasDictIn K C_BadProgram = true)
    (xp_BadProgram_7 : PySem.W.findIn K (.ref C_BadProgram) "__class__" = some (some (.builtin "object.__class__")))
    (xp_BadProgram_8 : PySem.W.specialIn K (.builtin "object.__class__") "__get__" = some (some (.builtin "getset_descriptor.__get__")))
    (xp_BadProgram_9 : PySem.W.takesIn K (.builtin "object.__class__") = some true)
    (xp_BadProgram_10 : PySem.W.mroIn K C_BadProgram (.type "object") = some true)
    (xp_BadProgram_11 : PySem.W.nsIn K cStatics "thirdparty.any" = some none)
    (xp_BadProgram_12 : PySem.W.findCls K (.ref C_BadProgram) (.type "type") "__name__" = some (.get (.builtin "getset_descriptor.__get__") (.builtin "type.__name__") (.ref C_BadProgram) (.type "type")))
    (xp_BadProgram_13 : PySem.W.findIn K (.ref C_BadProgram) "__init__" = some (some (.ref fe_BadProgram)))
    (xp_BadProgram_14 : PySem.W.typeIn K (.ref fe_BadProgram) = some (.type "function"))
    (xp_BadProgram_15 : PySem.W.findIn K (.ref C_BadProgram) "part" = some none)
    (xp_BadProgram_16 : PySem.W.mroIn K C_BadProgram (.ref C_BadProgram) = some true)
    (xp_BadProgram_17 : PySem.W.ks_superIn K C_BadProgram C_BadProgram "__init__" = some (some (.builtin "ValueError.__init__")))
    (xp_BadProgram_18 : PySem.W.subIn K (.ref C_BadProgram) (.type "ValueError") = some true)
    (xp_BadProgram_20 : ((q.prog.main.scope.names.lookup ("super" : Str)).isSome = false))
    (xp_BadProgram_21 : K.lookup fe_BadProgram = some ⟨xo_BadProgram, xd_BadProgram, .func (PySem.W.ksFn "__init__" xq_BadProgram (defArgs se_BadProgram) (defBody se_BadProgram) (defScope se_BadProgram) .none xkV_BadProgram xdoc_BadProgram xpm_BadProgram xan_BadProgram (.ref cda_BadProgram) xct_BadProgram cc_BadProgram), xsl_BadProgram⟩)
    (xp_BadProgram_22 : PySem.W.codeIn K (.ref cda_BadProgram) xq_BadProgram = true)
    (xp_BadProgram_23 : K.lookup cda_BadProgram = some ⟨xc1_BadProgram, xd1_BadProgram, .fields xvs_BadProgram, xs1_BadProgram⟩)
    (xp_BadProgram_24 : xvs_BadProgram[2]? = some (.str xfile_BadProgram xtf_BadProgram))
    (xp_BadProgram_25 : ((q.prog.main.file : Str) == xfile_BadProgram) = true)
    (xp_BadProgram_26 : K.lookup cc_BadProgram = some ⟨xc2_BadProgram, xd2_BadProgram, .cell (some (.ref C_BadProgram)), xs2_BadProgram⟩)
    (is_TooMany_BadProgram : PySem.W.subIn K (.ref C_BadProgram) (.ref C_TooMany) = some false)
    (in_TooMany_BadProgram : C_BadProgram ≠ C_TooMany)
    (xm_BadProgram_LookError : PySem.W.exmOne K (.ref C_BadProgram) (.ref C_LookError) = some true)
    {fe_TooMany cda_TooMany cc_TooMany xN_TooMany : Addr} {xnm_TooMany xq_TooMany xqq_TooMany xn_TooMany xfile_TooMany : Str} {xt_TooMany xtf_TooMany : Tok} {xbs_TooMany xbm_TooMany xsub_TooMany : List Value} {xsn_TooMany : List Str} {xab_TooMany : Bool} {xcol_TooMany : Option Bool} {xdd_TooMany xan_TooMany xd_TooMany xd1_TooMany xd2_TooMany : Option Addr} {xk0_TooMany xk1_TooMany xk3_TooMany xk5_TooMany : Option Value} {xo_TooMany xkV_TooMany xdoc_TooMany xpm_TooMany xct_TooMany xc1_TooMany xc2_TooMany : Value} {xsl_TooMany xs1_TooMany xs2_TooMany : Array (Option Value)} {xvs_TooMany : Array Value}
    (xl_TooMany : K.lookup C_TooMany = some (excClassObj xnm_TooMany xqq_TooMany C_TooMany xN_TooMany xbs_TooMany xbm_TooMany true xsn_TooMany xsub_TooMany xab_TooMany xcol_TooMany xdd_TooMany xk0_TooMany xk1_TooMany (some (.str xn_TooMany xt_TooMany)) xk3_TooMany xk5_TooMany "ValueError.__new__")) (xh_TooMany : PySem.HandSPX.refsVE xbm_TooMany = true) (xz_TooMany : xn_TooMany.length ≤ 1000)
    (xp_TooMany_0 : PySem.W.findIn K (.ref C_TooMany) "__setattr__" = some (some (.builtin "object.__setattr__")))
    (xp_TooMany_1 : PySem.W.subIn K (.ref C_TooMany) (.type "BaseException") = some true)
    (xp_TooMany_2 : PySem.W.typeIn K (.ref C_TooMany) = some (.type "type"))
    (xp_TooMany_3 : PySem.W.keepIn K (.ref C_TooMany) = true)
    (xp_TooMany_4 : PySem.W.findIn K (.ref C_TooMany) "__getattribute__" = some (some (.builtin "BaseException.__getattribute__")))
    (xp_TooMany_5 : PySem.W.findIn K (.ref C_TooMany) "__getattr__" = some none)
    (xp_TooMany_6 : PySem.W.hasDictIn K C_TooMany = true)
    (xp_TooMany_7 : PySem.W.findIn K (.ref C_TooMany) "__class__" = some (some (.builtin "object.__class__")))
    (xp_TooMany_8 : PySem.W.specialIn K (.builtin "object.__class__") "__get__" = some (some (.builtin "getset_descriptor.__get__")))
    (xp_TooMany_9 : PySem.W.takesIn K (.builtin "object.__class__") = some true)
    (xp_TooMany_10 : PySem.W.mroIn K C_TooMany (.type "object") = some true)
    (xp_TooMany_11 : PySem.W.nsIn K cStatics "thirdparty.any" = some none)
    (xp_TooMany_13 : PySem.W.findIn K (.ref C_TooMany) "__init__" = some (some (.ref fe_TooMany)))
    (xp_TooMany_14 : PySem.W.typeIn K (.ref fe_TooMany) = some (.type "function"))
    (xp_TooMany_15 : PySem.W.findIn K (.ref C_TooMany) "what" = some none)
    (xp_TooMany_16 : PySem.W.mroIn K C_TooMany (.ref C_TooMany) = some true)
    (xp_TooMany_17 : PySem.W.ks_superIn K C_TooMany C_TooMany "__init__" = some (some (.builtin "ValueError.__init__")))
    (xp_TooMany_18 : PySem.W.subIn K (.ref C_TooMany) (.type "ValueError") = some true)
    (xp_TooMany_20 : ((q.prog.main.scope.names.lookup ("super" : Str)).isSome = false))
    (xp_TooMany_21 : K.lookup fe_TooMany = some ⟨xo_TooMany, xd_TooMany, .func (PySem.W.ksFn "__init__" xq_TooMany (defArgs se_TooMany) (defBody se_TooMany) (defScope se_TooMany) .none xkV_TooMany xdoc_TooMany xpm_TooMany xan_TooMany (.ref cda_TooMany) xct_TooMany cc_TooMany), xsl_TooMany⟩)
    (xp_TooMany_22 : PySem.W.codeIn K (.ref cda_TooMany) xq_TooMany = true)
    (xp_TooMany_23 : K.lookup cda_TooMany = some ⟨xc1_TooMany, xd1_TooMany, .fields xvs_TooMany, xs1_TooMany⟩)
    (xp_TooMany_24 : xvs_TooMany[2]? = some (.str xfile_TooMany xtf_TooMany))
    (xp_TooMany_25 : ((q.prog.main.file : Str) == xfile_TooMany) = true)
    (xp_TooMany_26 : K.lookup cc_TooMany = some ⟨xc2_TooMany, xd2_TooMany, .cell (some (.ref C_TooMany)), xs2_TooMany⟩)
    (xp_TooMany_27 : PySem.W.findIn K (.ref C_TooMany) "most" = some none)
    (is_BadProgram_TooMany : PySem.W.subIn K (.ref C_TooMany) (.ref C_BadProgram) = some false)
    (in_BadProgram_TooMany : C_TooMany ≠ C_BadProgram)
    (xm_TooMany_LookError : PySem.W.exmOne K (.ref C_TooMany) (.ref C_LookError) = some true)
    {oqnm oqq : Str} {oqN : Addr} {oqbs : List Value} {oqh : Bool} {oqsn : List Str} {oqsub : List Value} {oqab : Bool} {oqcol : Option Bool} {oqdd : Option Addr} {oqk0 oqk1 oqk2 oqk3 oqk5 : Option Value} (oq1 : K.lookup C_Program = some (excClassObj oqnm oqq C_Program oqN oqbs [.type "object"] oqh oqsn oqsub oqab oqcol oqdd oqk0 oqk1 oqk2 oqk3 oqk5 "object.__new__")) (oq2 : PySem.W.nsOkIn K oqN = true) (oq3 : PySem.W.nsIn K oqN "__eq__" = some (some (.ref f1))) (oq4 : PySem.W.nsIn K oqN "__ne__" = some none) (oq6 : oc1 = .type "function")
    {kd_WIRES_IN : Addr} {ke_WIRES_IN : Array DictEntry} {kn_WIRES_IN : Nat} (q_WIRES_IN : PySem.W.nsIn K mainGlobals "WIRES_IN" = some (some (.ref kd_WIRES_IN))) (ql_WIRES_IN : K.lookup kd_WIRES_IN = some ⟨.type "dict", none, .dict ke_WIRES_IN kn_WIRES_IN, #[]⟩) (qk_WIRES_IN : PySem.W.KeysLit w.params ke_WIRES_IN.toList) (qs_WIRES_IN : (kd_WIRES_IN == sysModules) = false) (qd_WIRES_IN : DLit ke_WIRES_IN.toList [("turn", 1), ("mix", 1), ("sign", 2), ("not", 1), ("under", 2), ("swap", 2), ("both", 3)])
    (z_abs : PySem.W.nsIn K mainGlobals "abs" = some none)
    (z_all : PySem.W.nsIn K mainGlobals "all" = some none)
    (z_bool : PySem.W.nsIn K mainGlobals "bool" = some none)
    (z_int : PySem.W.nsIn K mainGlobals "int" = some none)
    (z_isinstance : PySem.W.nsIn K mainGlobals "isinstance" = some none)
    (z_len : PySem.W.nsIn K mainGlobals "len" = some none)
    (z_list : PySem.W.nsIn K mainGlobals "list" = some none)
    (z_range : PySem.W.nsIn K mainGlobals "range" = some none)
    (z_repr : PySem.W.nsIn K mainGlobals "repr" = some none)
    (z_set : PySem.W.nsIn K mainGlobals "set" = some none)
    (z_str : PySem.W.nsIn K mainGlobals "str" = some none)
    (z_super : PySem.W.nsIn K mainGlobals "super" = some none)
    (z_tuple : PySem.W.nsIn K mainGlobals "tuple" = some none)
    {tok_MOST_DEEDS : Tok} (q_MOST_DEEDS : PySem.W.nsIn K mainGlobals "MOST_DEEDS" = some (some (.int 200 tok_MOST_DEEDS)))
    {tok_MOST_WIRES : Tok} (q_MOST_WIRES : PySem.W.nsIn K mainGlobals "MOST_WIRES" = some (some (.int 8 tok_MOST_WIRES)))
    : ∃ (fd : FuncData) (ms : List Mkr), (∀ p ∈ ms, h.get? p.2.1 = some { cls := .none, data := .fields #[] } ∧ K.lookup p.2.1 = none ∧ PySem.W.CodeHd h p.1 p.2.1) ∧ (∀ (s : Shared) (v : Value), BindsTo s fd ⟨[v], []⟩ [("_law_script", v)]) ∧ ∀ base : Heap, K.In base → base.Ns mainGlobals mg → (∀ p ∈ ms, LamX.TabB base mg p.1 p.2.1) → FnG q.prog w K mg base CX0 10 fa fd ["_law_script"] (@dSp (tsOf ms) K (spLaw 63)) := by
  letI : Tbs := ⟨[]⟩
  have e := hfa.symm.trans (PySem.W.mg_of X G a21)
  cases e
  have F0 := fun_mk (st := s__law_mason) l0 c0 k0
  have B0 := F0.binds (ps := ["_law_script"]) fun _ _ _ _ _ _ us hl => match us, hl with | [_], _ => rfl
  have F1 := fun_mk (st := s_Program___eq__) l1 c1 k1
  have B1 := F1.binds (ps := ["self", "other"]) fun _ _ _ _ _ _ us hl => match us, hl with | [_, _], _ => rfl
  have F2 := fun_mk (st := s__law_hew) l2 c2 k2
  have B2 := F2.binds (ps := ["_law_mason_here", "_law_many"]) fun _ _ _ _ _ _ us hl => match us, hl with | [_, _], _ => rfl
  have F3 := fun_mk (st := s__law_one) l3 c3 k3
  have B3 := F3.binds (ps := ["_law_mason_here", "_law_some"]) fun _ _ _ _ _ _ us hl => match us, hl with | [_, _], _ => rfl
  have F4 := fun_mk (st := s__law_deed) l4 c4 k4
  have B4 := F4.binds (ps := ["_law_mason_here", "_law_wires"]) fun _ _ _ _ _ _ us hl => match us, hl with | [_, _], _ => rfl
  have F5 := fun_mk (st := s_is_integer) l5 c5 k5
  have B5 := F5.binds (ps := ["value"]) fun _ _ _ _ _ _ us hl => match us, hl with | [_], _ => rfl
  have F6 := fun_mk (st := s_is_within) l6 c6 k6
  have B6 := F6.binds (ps := ["value", "least", "most"]) fun _ _ _ _ _ _ us hl => match us, hl with | [_, _, _], _ => rfl
  have F7 := fun_mk (st := s_is_deed) l7 c7 k7
  have B7 := F7.binds (ps := ["value", "wires"]) fun _ _ _ _ _ _ us hl => match us, hl with | [_, _], _ => rfl
  have F8 := fun_mk (st := s_Program___init__) l8 c8 k8
  have B8 := F8.binds (ps := ["self", "wires", "deeds"]) fun _ _ _ _ _ _ us hl => match us, hl with | [_, _, _], _ => rfl
  have F9 := fun_mk (st := s_need_program) l9 c9 k9
  have B9 := F9.binds (ps := ["value", "part"]) fun _ _ _ _ _ _ us hl => match us, hl with | [_, _], _ => rfl
  have F10 := fun_mk (st := s_three_led_back) l10 c10 k10
  have B10 := F10.binds (ps := ["one", "other", "third"]) fun _ _ _ _ _ _ us hl => match us, hl with | [_, _, _], _ => rfl
  have F11 := fun_mk (st := s_led_back) l11 c11 k11
  have B11 := F11.binds (ps := ["deed"]) fun _ _ _ _ _ _ us hl => match us, hl with | [_], _ => rfl
  have F12 := fun_mk (st := s_basic_deeds) l12 c12 k12
  have B12 := F12.binds (ps := ["program"]) fun _ _ _ _ _ _ us hl => match us, hl with | [_], _ => rfl
  have F13 := fun_mk (st := s_need_few) l13 c13 k13
  have B13 := F13.binds (ps := ["deeds"]) fun _ _ _ _ _ _ us hl => match us, hl with | [_], _ => rfl
  have F14 := fun_mk (st := s_basic) l14 c14 k14
  have B14 := F14.binds (ps := ["program"]) fun _ _ _ _ _ _ us hl => match us, hl with | [_], _ => rfl
  have F15 := fun_mk (st := s__law_table) l15 c15 k15
  have B15 := F15.binds (ps := ["_law_deed_here"]) fun _ _ _ _ _ _ us hl => match us, hl with | [_], _ => rfl
  have F16 := fun_mk (st := s__law_due) l16 c16 k16
  have B16 := F16.binds (ps := ["_law_deeds"]) fun _ _ _ _ _ _ us hl => match us, hl with | [_], _ => rfl
  have F17 := fun_mk (st := s__law_heard) l17 c17 k17
  have B17 := F17.binds (ps := ["_law_ask"]) fun _ _ _ _ _ _ us hl => match us, hl with | [_], _ => rfl
  have F18 := fun_mk (st := s_odd_turns) l18 c18 k18
  have B18 := F18.binds (ps := ["program"]) fun _ _ _ _ _ _ us hl => match us, hl with | [_], _ => rfl
  have F19 := fun_mk (st := s__law_odd) l19 c19 k19
  have B19 := F19.binds (ps := ["_law_deeds"]) fun _ _ _ _ _ _ us hl => match us, hl with | [_], _ => rfl
  have F20 := fun_mk (st := s__law_led_right) l20 c20 k20
  have B20 := F20.binds (ps := ["_law_wires", "_law_deeds"]) fun _ _ _ _ _ _ us hl => match us, hl with | [_, _], _ => rfl
  have F21 := fun_mk (st := s_law) l21 c21 k21
  have B21 := F21.binds (ps := ["_law_script"]) fun _ _ _ _ _ _ us hl => match us, hl with | [_], _ => rfl
  let T : Txt q.prog w K mg := { f__law_mason := f0, d__law_mason := _, F__law_mason := F0, b__law_mason := B0, m__law_mason := PySem.W.mg_of X G a0, f_Program___eq__ := f1, d_Program___eq__ := _, F_Program___eq__ := F1, b_Program___eq__ := B1, f__law_hew := f2, d__law_hew := _, F__law_hew := F2, b__law_hew := B2, m__law_hew := PySem.W.mg_of X G a2, f__law_one := f3, d__law_one := _, F__law_one := F3, b__law_one := B3, m__law_one := PySem.W.mg_of X G a3, f__law_deed := f4, d__law_deed := _, F__law_deed := F4, b__law_deed := B4, m__law_deed := PySem.W.mg_of X G a4, f_is_integer := f5, d_is_integer := _, F_is_integer := F5, b_is_integer := B5, m_is_integer := PySem.W.mg_of X G a5, f_is_within := f6, d_is_within := _, F_is_within := F6, b_is_within := B6, m_is_within := PySem.W.mg_of X G a6, f_is_deed := f7, d_is_deed := _, F_is_deed := F7, b_is_deed := B7, m_is_deed := PySem.W.mg_of X G a7, f_Program___init__ := f8, d_Program___init__ := _, F_Program___init__ := F8, b_Program___init__ := B8, f_need_program := f9, d_need_program := _, F_need_program := F9, b_need_program := B9, m_need_program := PySem.W.mg_of X G a9, f_three_led_back := f10, d_three_led_back := _, F_three_led_back := F10, b_three_led_back := B10, m_three_led_back := PySem.W.mg_of X G a10, f_led_back := f11, d_led_back := _, F_led_back := F11, b_led_back := B11, m_led_back := PySem.W.mg_of X G a11, f_basic_deeds := f12, d_basic_deeds := _, F_basic_deeds := F12, b_basic_deeds := B12, m_basic_deeds := PySem.W.mg_of X G a12, f_need_few := f13, d_need_few := _, F_need_few := F13, b_need_few := B13, m_need_few := PySem.W.mg_of X G a13, f_basic := f14, d_basic := _, F_basic := F14, b_basic := B14, m_basic := PySem.W.mg_of X G a14, f__law_table := f15, d__law_table := _, F__law_table := F15, b__law_table := B15, m__law_table := PySem.W.mg_of X G a15, f__law_due := f16, d__law_due := _, F__law_due := F16, b__law_due := B16, m__law_due := PySem.W.mg_of X G a16, f__law_heard := f17, d__law_heard := _, F__law_heard := F17, b__law_heard := B17, m__law_heard := PySem.W.mg_of X G a17, f_odd_turns := f18, d_odd_turns := _, F_odd_turns := F18, b_odd_turns := B18, m_odd_turns := PySem.W.mg_of X G a18, f__law_odd := f19, d__law_odd := _, F__law_odd := F19, b__law_odd := B19, m__law_odd := PySem.W.mg_of X G a19, f__law_led_right := f20, d__law_led_right := _, F__law_led_right := F20, b__law_led_right := B20, m__law_led_right := PySem.W.mg_of X G a20, cA__law_led_right := cA20, P__law_led_right := PT20, G__law_led_right := ⟨_, _, _, _, _, _, _, _, rfl, l20, c20⟩, f_law := fa, d_law := _, F_law := F21, b_law := B21, m_law := PySem.W.mg_of X G a21, cA_law := cA21, P_law := PT21, G_law := ⟨_, _, _, _, _, _, _, _, rfl, l21, c21⟩, m_BadProgram := PySem.W.mg_of X G ca_BadProgram, m_LookError := PySem.W.mg_of X G ca_LookError, m_TooMany := PySem.W.mg_of X G ca_TooMany, fe_BadProgram := fe_BadProgram, de_BadProgram := _, E_BadProgram := errF_mk eb_BadProgram xl_BadProgram xh_BadProgram xz_BadProgram xp_BadProgram_0 xp_BadProgram_1 xp_BadProgram_2 xp_BadProgram_3 xp_BadProgram_4 xp_BadProgram_5 xp_BadProgram_6 xp_BadProgram_7 xp_BadProgram_8 xp_BadProgram_9 xp_BadProgram_10 xp_BadProgram_11 xp_BadProgram_12 xp_BadProgram_13 xp_BadProgram_14 xp_BadProgram_15 xp_BadProgram_16 xp_BadProgram_17 xp_BadProgram_18 (PySem.W.mg_none_of X G z_super) xp_BadProgram_20 xp_BadProgram_21 xp_BadProgram_22 xp_BadProgram_23 xp_BadProgram_24 xp_BadProgram_25 xp_BadProgram_26, be_BadProgram := Binds.all fun us hl => match us, hl with | [_, _], _ => rfl, x_BadProgram_LookError := xm_BadProgram_LookError, fe_TooMany := fe_TooMany, de_TooMany := _, E_TooMany := errF2_mk eb_TooMany xl_TooMany xh_TooMany xp_TooMany_0 xp_TooMany_1 xp_TooMany_2 xp_TooMany_3 xp_TooMany_11 xp_TooMany_13 xp_TooMany_14 xp_TooMany_15 xp_TooMany_27 xp_TooMany_16 xp_TooMany_17 xp_TooMany_18 (PySem.W.mg_none_of X G z_super) xp_TooMany_20 xp_TooMany_21 xp_TooMany_22 xp_TooMany_23 xp_TooMany_24 xp_TooMany_25 xp_TooMany_26, be_TooMany := Binds.all fun us hl => match us, hl with | [_, _, _], _ => rfl, x_TooMany_LookError := xm_TooMany_LookError, q_Program := eqF_mk a1 fn1 oq1 oq2 oq3 oq4 l1 oq6, i_BadProgram := (.cons ⟨⟨xp_BadProgram_4, xp_BadProgram_5, xp_BadProgram_1, xp_BadProgram_6⟩, xp_BadProgram_7, xp_BadProgram_8, xp_BadProgram_9, xp_BadProgram_10⟩ (kitOne_self _ _) (.cons ⟨⟨xp_TooMany_4, xp_TooMany_5, xp_TooMany_1, xp_TooMany_6⟩, xp_TooMany_7, xp_TooMany_8, xp_TooMany_9, xp_TooMany_10⟩ (kitOne_ref ii_BadProgram_0 ii_BadProgram_1 is_BadProgram_TooMany (fun e => absurd e in_BadProgram_TooMany)) (.nil (kitOne_no ii_BadProgram_0 ii_BadProgram_1 ii_BadProgram_2)))), i_TooMany := (.cons ⟨⟨xp_BadProgram_4, xp_BadProgram_5, xp_BadProgram_1, xp_BadProgram_6⟩, xp_BadProgram_7, xp_BadProgram_8, xp_BadProgram_9, xp_BadProgram_10⟩ (kitOne_ref ii_TooMany_0 ii_TooMany_1 is_TooMany_BadProgram (fun e => absurd e in_TooMany_BadProgram)) (.cons ⟨⟨xp_TooMany_4, xp_TooMany_5, xp_TooMany_1, xp_TooMany_6⟩, xp_TooMany_7, xp_TooMany_8, xp_TooMany_9, xp_TooMany_10⟩ (kitOne_self _ _) (.nil (kitOne_no ii_TooMany_0 ii_TooMany_1 ii_TooMany_2)))), xf_most := .cons ⟨xp_TooMany_4, xp_TooMany_5, xp_TooMany_1, xp_TooMany_6⟩ xp_TooMany_27 (.nil), xf_part := .cons ⟨xp_BadProgram_4, xp_BadProgram_5, xp_BadProgram_1, xp_BadProgram_6⟩ xp_BadProgram_15 (.nil), xf_what := .cons ⟨xp_TooMany_4, xp_TooMany_5, xp_TooMany_1, xp_TooMany_6⟩ xp_TooMany_15 (.nil), cs := ⟨C_Program, C_BadProgram, C_LookError, C_TooMany⟩, m_Program := PySem.W.mg_of X G ca_Program, c_Program := ⟨⟨cb_Program_0, cb_Program_1, cb_Program_2, cb_Program_3⟩, cb_Program_4, cb_Program_5, cb_Program_6, cb_Program_7, kitOne_self _ _, kitOne_no cb_Program_8 cb_Program_16 cb_Program_9, kitOne_no cb_Program_8 cb_Program_16 cb_Program_10, kitOne_no cb_Program_8 cb_Program_16 cb_Program_11, kitOne_no cb_Program_8 cb_Program_16 cb_Program_12, kitOne_no cb_Program_8 cb_Program_16 cb_Program_13, kitOne_no cb_Program_8 cb_Program_16 cb_Program_14, kitOne_no cb_Program_8 cb_Program_16 cb_Program_15⟩, M_Program := ⟨cm_Program, a8, fn8, ck_Program⟩, n_Program_wires := cn_Program_wires, n_Program_deeds := cn_Program_deeds, h_Program___eq__ := ⟨a1, fn1, k1⟩, k_WIRES_IN := ⟨_, _, _, PySem.W.mg_of X G q_WIRES_IN, ql_WIRES_IN, qk_WIRES_IN, qs_WIRES_IN, qd_WIRES_IN⟩, z_abs := PySem.W.mg_none_of X G z_abs, z_all := PySem.W.mg_none_of X G z_all, z_bool := PySem.W.mg_none_of X G z_bool, z_int := PySem.W.mg_none_of X G z_int, z_isinstance := PySem.W.mg_none_of X G z_isinstance, z_len := PySem.W.mg_none_of X G z_len, z_list := PySem.W.mg_none_of X G z_list, z_range := PySem.W.mg_none_of X G z_range, z_repr := PySem.W.mg_none_of X G z_repr, z_set := PySem.W.mg_none_of X G z_set, z_str := PySem.W.mg_none_of X G z_str, z_super := PySem.W.mg_none_of X G z_super, z_tuple := PySem.W.mg_none_of X G z_tuple, k_MOST_DEEDS := kon_int X G q_MOST_DEEDS, k_MOST_WIRES := kon_int X G q_MOST_WIRES }
  refine ⟨T.d_law, [(cA20, PT20, (("_law_led_right" : Str) ++ ".<locals>.") ++ "<lambda>"), (cA21, PT21, (("law" : Str) ++ ".<locals>.") ++ "<lambda>")], List.forall_mem_cons.mpr ⟨⟨t2_20, t3_20, PySem.W.codeHd_of_K X t4_20⟩, List.forall_mem_cons.mpr ⟨⟨t2_21, t3_21, PySem.W.codeHd_of_K X t4_21⟩, fun _ h => nomatch h⟩⟩, fun s v => .of_eq rfl, fun base _ _ hB => ?_⟩
  letI : Tbs := tsOf [(cA20, PT20, (("_law_led_right" : Str) ++ ".<locals>.") ++ "<lambda>"), (cA21, PT21, (("law" : Str) ++ ".<locals>.") ++ "<lambda>")]
  haveI : TBs base T := ⟨hB _ (List.mem_cons_self), (List.mem_cons_self), (fun p hp e => by
      have hp2 : p ∈ [(PT20, (("_law_led_right" : Str) ++ ".<locals>.") ++ "<lambda>"), (PT21, (("law" : Str) ++ ".<locals>.") ++ "<lambda>")] := hp
      simp only [List.mem_cons, List.not_mem_nil, or_false] at hp2
      rcases hp2 with rfl | rfl
      all_goals first | exact absurd e (by assumption) | exact absurd e.symm (by assumption) | rfl), hB _ (List.mem_cons_of_mem _ (List.mem_cons_self)), (List.mem_cons_of_mem _ (List.mem_cons_self)), (fun p hp e => by
      have hp2 : p ∈ [(PT20, (("_law_led_right" : Str) ++ ".<locals>.") ++ "<lambda>"), (PT21, (("law" : Str) ++ ".<locals>.") ++ "<lambda>")] := hp
      simp only [List.mem_cons, List.not_mem_nil, or_false] at hp2
      rcases hp2 with rfl | rfl
      all_goals first | exact absurd e (by assumption) | exact absurd e.symm (by assumption) | rfl)⟩
  exact ok_law T
end
end Law
open PySem PySem.W PyProof.Rows
set_option maxRecDepth 100000 in
set_option maxHeartbeats 0 in
theorem PySem.Challenge.cw_lookmade_k11_deeds_led_back_holds : PySem.Challenge.rw_lookmade_k11_deeds_led_back.Holds := by
  w_on; o_law; k_head; (case hw => w_witness2)
  k_fill
  refine DL.walk_DT (l := PySem.Challenge.rw_lookmade_k11_deeds_led_back) (n := 63) (k := 10) (x := "_law_script") rfl (by decide) rfl ⟨⟨rfl, by decide, by decide⟩, rfl⟩ (fun w h Y => PySem.W.km_in_of Y) ?F
  case F =>
    intro w mg fa h Y KX G hmg
    have hT8 := PySem.W.km_tabs_of Y
    refine' Law.all_mk KX G hmg ?a0 ?l0 ?c0 ?k0 ?ca_Program ?cb_Program_0 ?cb_Program_1 ?cb_Program_2 ?cb_Program_3 ?cb_Program_4 ?cb_Program_5 ?cb_Program_6 ?cb_Program_7 ?cb_Program_8 ?cb_Program_9 ?cb_Program_10 ?cb_Program_11 ?cb_Program_12 ?cb_Program_13 ?cb_Program_14 ?cb_Program_15 ?cb_Program_16 ?cm_Program ?ck_Program ?cn_Program_wires ?cn_Program_deeds ?a1 ?l1 ?c1 ?k1 ?fn1 ?a2 ?l2 ?c2 ?k2 ?a3 ?l3 ?c3 ?k3 ?a4 ?l4 ?c4 ?k4 ?a5 ?l5 ?c5 ?k5 ?a6 ?l6 ?c6 ?k6 ?a7 ?l7 ?c7 ?k7 ?a8 ?l8 ?c8 ?k8 ?fn8 ?a9 ?l9 ?c9 ?k9 ?a10 ?l10 ?c10 ?k10 ?a11 ?l11 ?c11 ?k11 ?a12 ?l12 ?c12 ?k12 ?a13 ?l13 ?c13 ?k13 ?a14 ?l14 ?c14 ?k14 ?a15 ?l15 ?c15 ?k15 ?a16 ?l16 ?c16 ?k16 ?a17 ?l17 ?c17 ?k17 ?a18 ?l18 ?c18 ?k18 ?a19 ?l19 ?c19 ?k19 ?a20 ?l20 ?c20 ?k20 ?t0_20 ?t1_20 ?t2_20 ?t3_20 ?t4_20 ?a21 ?l21 ?c21 ?k21 ?t0_21 ?t1_21 ?t2_21 ?t3_21 ?t4_21 ?t5_20_21 ?ca_BadProgram ?ca_LookError ?ca_TooMany ?ii_BadProgram_0 ?ii_BadProgram_1 ?ii_BadProgram_2 ?ii_TooMany_0 ?ii_TooMany_1 ?ii_TooMany_2 ?xl_BadProgram ?xh_BadProgram ?xz_BadProgram ?xp_BadProgram_0 ?xp_BadProgram_1 ?xp_BadProgram_2 ?xp_BadProgram_3 ?xp_BadProgram_4 ?xp_BadProgram_5 ?xp_BadProgram_6 ?xp_BadProgram_7 ?xp_BadProgram_8 ?xp_BadProgram_9 ?xp_BadProgram_10 ?xp_BadProgram_11 ?xp_BadProgram_12 ?xp_BadProgram_13 ?xp_BadProgram_14 ?xp_BadProgram_15 ?xp_BadProgram_16 ?xp_BadProgram_17 ?xp_BadProgram_18 ?xp_BadProgram_20 ?xp_BadProgram_21 ?xp_BadProgram_22 ?xp_BadProgram_23 ?xp_BadProgram_24 ?xp_BadProgram_25 ?xp_BadProgram_26 ?is_TooMany_BadProgram ?in_TooMany_BadProgram ?xm_BadProgram_LookError ?xl_TooMany ?xh_TooMany ?xz_TooMany ?xp_TooMany_0 ?xp_TooMany_1 ?xp_TooMany_2 ?xp_TooMany_3 ?xp_TooMany_4 ?xp_TooMany_5 ?xp_TooMany_6 ?xp_TooMany_7 ?xp_TooMany_8 ?xp_TooMany_9 ?xp_TooMany_10 ?xp_TooMany_11 ?xp_TooMany_13 ?xp_TooMany_14 ?xp_TooMany_15 ?xp_TooMany_16 ?xp_TooMany_17 ?xp_TooMany_18 ?xp_TooMany_20 ?xp_TooMany_21 ?xp_TooMany_22 ?xp_TooMany_23 ?xp_TooMany_24 ?xp_TooMany_25 ?xp_TooMany_26 ?xp_TooMany_27 ?is_BadProgram_TooMany ?in_BadProgram_TooMany ?xm_TooMany_LookError ?oq1 ?oq2 ?oq3 ?oq4 ?oq6 ?q_WIRES_IN ?ql_WIRES_IN ?qk_WIRES_IN ?qs_WIRES_IN ?qd_WIRES_IN ?z_abs ?z_all ?z_bool ?z_int ?z_isinstance ?z_len ?z_list ?z_range ?z_repr ?z_set ?z_str ?z_super ?z_tuple ?q_MOST_DEEDS ?q_MOST_WIRES
    (case a0 => k_is)
    (case l0 => k_is)
    (case c0 => k_is)
    (case k0 => k_is)
    (case ca_Program => k_is)
    (case cb_Program_0 => k_is)
    (case cb_Program_1 => k_is)
    (case cb_Program_2 => k_is)
    (case cb_Program_3 => k_is)
    (case cb_Program_4 => k_is)
    (case cb_Program_5 => k_is)
    (case cb_Program_6 => k_is)
    (case cb_Program_7 => k_is)
    (case cb_Program_8 => k_is)
    (case cb_Program_9 => k_is)
    (case cb_Program_10 => k_is)
    (case cb_Program_11 => k_is)
    (case cb_Program_12 => k_is)
    (case cb_Program_13 => k_is)
    (case cb_Program_14 => k_is)
    (case cb_Program_15 => k_is)
    (case cb_Program_16 => k_is)
    (case cm_Program => k_is)
    (case ck_Program => k_is)
    (case cn_Program_wires => k_is)
    (case cn_Program_deeds => k_is)
    (case a1 => k_is)
    (case l1 => k_is)
    (case c1 => k_is)
    (case k1 => k_is)
    (case fn1 => k_is)
    (case a2 => k_is)
    (case l2 => k_is)
    (case c2 => k_is)
    (case k2 => k_is)
    (case a3 => k_is)
    (case l3 => k_is)
    (case c3 => k_is)
    (case k3 => k_is)
    (case a4 => k_is)
    (case l4 => k_is)
    (case c4 => k_is)
    (case k4 => k_is)
    (case a5 => k_is)
    (case l5 => k_is)
    (case c5 => k_is)
    (case k5 => k_is)
    (case a6 => k_is)
    (case l6 => k_is)
    (case c6 => k_is)
    (case k6 => k_is)
    (case a7 => k_is)
    (case l7 => k_is)
    (case c7 => k_is)
    (case k7 => k_is)
    (case a8 => k_is)
    (case l8 => k_is)
    (case c8 => k_is)
    (case k8 => k_is)
    (case fn8 => k_is)
    (case a9 => k_is)
    (case l9 => k_is)
    (case c9 => k_is)
    (case k9 => k_is)
    (case a10 => k_is)
    (case l10 => k_is)
    (case c10 => k_is)
    (case k10 => k_is)
    (case a11 => k_is)
    (case l11 => k_is)
    (case c11 => k_is)
    (case k11 => k_is)
    (case a12 => k_is)
    (case l12 => k_is)
    (case c12 => k_is)
    (case k12 => k_is)
    (case a13 => k_is)
    (case l13 => k_is)
    (case c13 => k_is)
    (case k13 => k_is)
    (case a14 => k_is)
    (case l14 => k_is)
    (case c14 => k_is)
    (case k14 => k_is)
    (case a15 => k_is)
    (case l15 => k_is)
    (case c15 => k_is)
    (case k15 => k_is)
    (case a16 => k_is)
    (case l16 => k_is)
    (case c16 => k_is)
    (case k16 => k_is)
    (case a17 => k_is)
    (case l17 => k_is)
    (case c17 => k_is)
    (case k17 => k_is)
    (case a18 => k_is)
    (case l18 => k_is)
    (case c18 => k_is)
    (case k18 => k_is)
    (case a19 => k_is)
    (case l19 => k_is)
    (case c19 => k_is)
    (case k19 => k_is)
    (case a20 => k_is)
    (case l20 => k_is)
    (case c20 => k_is)
    (case k20 => k_is)
    (case t0_20 => k_is)
    (case t1_20 => first | rfl | decide +kernel)
    (case t2_20 => exact hT8 _ (by decide))
    (case t3_20 => first | rfl | decide +kernel)
    (case t4_20 => kernel_rfl)
    (case a21 => k_is)
    (case l21 => k_is)
    (case c21 => k_is)
    (case k21 => k_is)
    (case t0_21 => k_is)
    (case t1_21 => first | rfl | decide +kernel)
    (case t2_21 => exact hT8 _ (by decide))
    (case t3_21 => first | rfl | decide +kernel)
    (case t4_21 => kernel_rfl)
    (case t5_20_21 => decide)
    (case ca_BadProgram => k_is)
    (case ca_LookError => k_is)
    (case ca_TooMany => k_is)
    (case ii_BadProgram_0 => k_is)
    (case ii_BadProgram_1 => k_is)
    (case ii_BadProgram_2 => k_is)
    (case ii_TooMany_0 => k_is)
    (case ii_TooMany_1 => k_is)
    (case ii_TooMany_2 => k_is)
    (case xl_BadProgram => k_is)
    (case xh_BadProgram => decide)
    (case xz_BadProgram => decide)
    (case xp_BadProgram_0 => k_is)
    (case xp_BadProgram_1 => k_is)
    (case xp_BadProgram_2 => k_is)
    (case xp_BadProgram_3 => k_is)
    (case xp_BadProgram_4 => k_is)
    (case xp_BadProgram_5 => k_is)
    (case xp_BadProgram_6 => k_is)
    (case xp_BadProgram_7 => k_is)
    (case xp_BadProgram_8 => k_is)
    (case xp_BadProgram_9 => k_is)
    (case xp_BadProgram_10 => k_is)
    (case xp_BadProgram_11 => k_is)
    (case xp_BadProgram_12 => k_is)
    (case xp_BadProgram_13 => k_is)
    (case xp_BadProgram_14 => k_is)
    (case xp_BadProgram_15 => k_is)
    (case xp_BadProgram_16 => k_is)
    (case xp_BadProgram_17 => ks_is)
    (case xp_BadProgram_18 => k_is)
    (case xp_BadProgram_20 => first | rfl | decide +kernel)
    (case xp_BadProgram_21 => k_is)
    (case xp_BadProgram_22 => k_is)
    (case xp_BadProgram_23 => k_is)
    (case xp_BadProgram_24 => first | rfl | decide +kernel)
    (case xp_BadProgram_25 => first | rfl | decide +kernel)
    (case xp_BadProgram_26 => k_is)
    (case is_TooMany_BadProgram => k_is)
    (case in_TooMany_BadProgram => decide)
    (case xm_BadProgram_LookError => kts_exm)
    (case xl_TooMany => k_is)
    (case xh_TooMany => decide)
    (case xz_TooMany => decide)
    (case xp_TooMany_0 => k_is)
    (case xp_TooMany_1 => k_is)
    (case xp_TooMany_2 => k_is)
    (case xp_TooMany_3 => k_is)
    (case xp_TooMany_4 => k_is)
    (case xp_TooMany_5 => k_is)
    (case xp_TooMany_6 => k_is)
    (case xp_TooMany_7 => k_is)
    (case xp_TooMany_8 => k_is)
    (case xp_TooMany_9 => k_is)
    (case xp_TooMany_10 => k_is)
    (case xp_TooMany_11 => k_is)
    (case xp_TooMany_13 => k_is)
    (case xp_TooMany_14 => k_is)
    (case xp_TooMany_15 => k_is)
    (case xp_TooMany_16 => k_is)
    (case xp_TooMany_17 => ks_is)
    (case xp_TooMany_18 => k_is)
    (case xp_TooMany_20 => first | rfl | decide +kernel)
    (case xp_TooMany_21 => k_is)
    (case xp_TooMany_22 => k_is)
    (case xp_TooMany_23 => k_is)
    (case xp_TooMany_24 => first | rfl | decide +kernel)
    (case xp_TooMany_25 => first | rfl | decide +kernel)
    (case xp_TooMany_26 => k_is)
    (case xp_TooMany_27 => k_is)
    (case is_BadProgram_TooMany => k_is)
    (case in_BadProgram_TooMany => decide)
    (case xm_TooMany_LookError => kts_exm)
    (case oq1 => k_is)
    (case oq2 => first | rfl | kernel_rfl | decide +kernel)
    (case oq3 => k_is)
    (case oq4 => k_is)
    (case oq6 => first | rfl | kernel_rfl | decide +kernel)
    (case q_WIRES_IN => k_is)
    (case ql_WIRES_IN => k_is)
    (case qk_WIRES_IN => k_keys)
    (case qs_WIRES_IN => first | rfl | decide)
    (case qd_WIRES_IN => exact ⟨_, _, _, _, _, rfl, rfl, rfl, ⟨_, _, _, _, _, rfl, rfl, rfl, ⟨_, _, _, _, _, rfl, rfl, rfl, ⟨_, _, _, _, _, rfl, rfl, rfl, ⟨_, _, _, _, _, rfl, rfl, rfl, ⟨_, _, _, _, _, rfl, rfl, rfl, ⟨_, _, _, _, _, rfl, rfl, rfl, rfl⟩⟩⟩⟩⟩⟩⟩)
    (case z_abs => k_is)
    (case z_all => k_is)
    (case z_bool => k_is)
    (case z_int => k_is)
    (case z_isinstance => k_is)
    (case z_len => k_is)
    (case z_list => k_is)
    (case z_range => k_is)
    (case z_repr => k_is)
    (case z_set => k_is)
    (case z_str => k_is)
    (case z_super => k_is)
    (case z_tuple => k_is)
    (case q_MOST_DEEDS => k_is)
    (case q_MOST_WIRES => k_is)
