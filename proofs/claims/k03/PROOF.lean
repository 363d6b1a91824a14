import PyProof.Rows.All
import HandS.ForMost
import HandS.Flow
import HandS.Wide
import HandS.IsInst
import HandS.Conv
import HandS.Zip
import HandS.TupAny
import HandS.Style
import HandS.NoneIn
import HandS.RaiseMore
import PyProof.ReprReads
import PyProof.ReprLen
import KE.GoesMore
import PyProof.Draws
import PySem.Challenge.RW_lookmade_k03_amounts_by_own_products
set_option Elab.async false
set_option linter.all false
set_option maxRecDepth 100000
set_option maxHeartbeats 4000000
/-! DBase: a layer over HandS in which values are trees of data: what a piece of a program does is told over data alone. -/
namespace DL
open PySem PySem.Spec PyProof.Rows L2

/-- data: what a value is, with its parts -/
inductive D where
  | non | bl (b : Bool) | int (i : Int) | str (x : Str) | ty (n : String) | ref (a : Addr)
  | tup (xs : List D) | lst (xs : List D) | dic (kvs : List (Key × D)) | obj (C : Addr) (fs : List (Str × D)) | cell (i : Nat) | scr (ns : List Int)

/-- what is known beside the heap: what stays as it is (Z), where the changing objects are (as), objects kept apart (rs) -/
structure G where
  Z : Hp
  as : List Addr
  rs : List (Addr × HO)

section
variable (K : PySem.W.Frag) (g : G)
mutual
/-- the value v is the data d -/
def Rep : D → V → Prop
  | .non, v => v = .non
  | .bl b, v => v = .bl b
  | .int i, v => v = .int i
  | .str x, v => v = .str x
  | .ty n, v => v = .ty n
  | .ref a, v => v = .ref a
  | .tup ds, v => ∃ a vs, v = .ref a ∧ SqT K g.Z a vs ∧ RepL ds vs
  | .lst ds, v => ∃ a vs, v = .ref a ∧ g.Z a = some (.lst vs) ∧ RepL ds vs
  | .dic ds, v => ∃ a vs, v = .ref a ∧ g.Z a = some (.dK vs) ∧ RepK ds vs
  | .obj C ds, v => ∃ a dx vs, v = .ref a ∧ g.Z a = some (.ins C dx vs) ∧ RepF ds vs
  | .cell i, v => ∃ a, v = .ref a ∧ g.as[i]? = some a
  | .scr ns, v => ∃ a, v = .ref a ∧ SqL K g.Z a (ns.map V.int)
def RepL : List D → List V → Prop
  | [], vs => vs = []
  | d :: ds, vs => ∃ v r, vs = v :: r ∧ Rep d v ∧ RepL ds r
def RepK : List (Key × D) → List (Key × V) → Prop
  | [], vs => vs = []
  | (k, d) :: ds, vs => ∃ v r, vs = (k, v) :: r ∧ Rep d v ∧ RepK ds r
def RepF : List (Str × D) → List (Str × V) → Prop
  | [], vs => vs = []
  | (k, d) :: ds, vs => ∃ v r, vs = (k, v) :: r ∧ Rep d v ∧ RepF ds r
end
end

/-- more is known -/
structure Sub (g g' : G) : Prop where
  z : ∀ a o, g.Z a = some o → g'.Z a = some o
  a : ∃ t, g'.as = g.as ++ t
structure Ext (g g' : G) : Prop where
  z : ∀ a o, g.Z a = some o → g'.Z a = some o
  a : ∃ t, g'.as = g.as ++ t
  r : g'.rs = g.rs
theorem Ext.sub {g g' : G} (e : Ext g g') : Sub g g' := ⟨e.z, e.a⟩
theorem Sub.at {g g' : G} (e : Sub g g') {i : Nat} {a : Addr} (h : g.as[i]? = some a) : g'.as[i]? = some a := by
  obtain ⟨t, q⟩ := e.a
  rw [q, List.getElem?_append_left (List.getElem?_eq_some_iff.mp h).1]
  exact h
theorem Ext.refl (g : G) : Ext g g := ⟨fun _ _ h => h, ⟨[], by simp⟩, rfl⟩
theorem Ext.trans {g g1 g2 : G} (a : Ext g g1) (b : Ext g1 g2) : Ext g g2 :=
  ⟨fun c o h => b.z c o (a.z c o h), by
    obtain ⟨t, e⟩ := a.a
    obtain ⟨u, e2⟩ := b.a
    exact ⟨t ++ u, by rw [e2, e, List.append_assoc]⟩, b.r.trans a.r⟩
theorem Ext.at {g g' : G} (e : Ext g g') {i : Nat} {a : Addr} (h : g.as[i]? = some a) : g'.as[i]? = some a := by
  obtain ⟨t, q⟩ := e.a
  rw [q, List.getElem?_append_left (List.getElem?_eq_some_iff.mp h).1]
  exact h
theorem Ext.len {g g' : G} (e : Ext g g') : g.as.length ≤ g'.as.length := by
  obtain ⟨t, q⟩ := e.a
  rw [q, List.length_append]
  omega
section
variable {K : PySem.W.Frag} {g g' : G}
theorem sqT_mono {Z Z' : Hp} (z : ∀ a o, Z a = some o → Z' a = some o) {a : Addr} {xs : List V} (h : SqT K Z a xs) : SqT K Z' a xs := by
  rcases h with (h | ⟨o, h⟩) | h
  · exact .inl (.inl (z _ _ h))
  · exact .inl (.inr ⟨o, z _ _ h⟩)
  · exact .inr h
theorem sqL_mono {Z Z' : Hp} (z : ∀ a o, Z a = some o → Z' a = some o) {a : Addr} {xs : List V} (h : SqL K Z a xs) : SqL K Z' a xs := by
  rcases h with (h | ⟨o, h⟩) | h
  · exact .inl (.inl (z _ _ h))
  · exact .inl (.inr ⟨o, z _ _ h⟩)
  · exact .inr h
mutual
theorem Rep.sub (e : Sub g g') : ∀ (d : D) (v : V), Rep K g d v → Rep K g' d v
  | .non, _, h => h
  | .bl _, _, h => h
  | .int _, _, h => h
  | .str _, _, h => h
  | .ty _, _, h => h
  | .ref _, _, h => h
  | .tup ds, v, h => by
    obtain ⟨a, vs, e1, h1, h2⟩ := h
    exact ⟨a, vs, e1, sqT_mono e.z h1, RepL.sub e ds vs h2⟩
  | .lst ds, v, h => by
    obtain ⟨a, vs, e1, h1, h2⟩ := h
    exact ⟨a, vs, e1, e.z _ _ h1, RepL.sub e ds vs h2⟩
  | .dic ds, v, h => by
    obtain ⟨a, vs, e1, h1, h2⟩ := h
    exact ⟨a, vs, e1, e.z _ _ h1, RepK.sub e ds vs h2⟩
  | .obj C ds, v, h => by
    obtain ⟨a, dx, vs, e1, h1, h2⟩ := h
    exact ⟨a, dx, vs, e1, e.z _ _ h1, RepF.sub e ds vs h2⟩
  | .cell i, v, h => by
    obtain ⟨a, e1, h1⟩ := h
    exact ⟨a, e1, e.at h1⟩
  | .scr ns, v, h => by
    obtain ⟨a, e1, h1⟩ := h
    exact ⟨a, e1, sqL_mono e.z h1⟩
theorem RepL.sub (e : Sub g g') : ∀ (ds : List D) (vs : List V), RepL K g ds vs → RepL K g' ds vs
  | [], _, h => h
  | d :: ds, vs, h => by
    obtain ⟨v, r, e1, h1, h2⟩ := h
    exact ⟨v, r, e1, Rep.sub e d v h1, RepL.sub e ds r h2⟩
theorem RepK.sub (e : Sub g g') : ∀ (ds : List (Key × D)) (vs : List (Key × V)), RepK K g ds vs → RepK K g' ds vs
  | [], _, h => h
  | (k, d) :: ds, vs, h => by
    obtain ⟨v, r, e1, h1, h2⟩ := h
    exact ⟨v, r, e1, Rep.sub e d v h1, RepK.sub e ds r h2⟩
theorem RepF.sub (e : Sub g g') : ∀ (ds : List (Str × D)) (vs : List (Str × V)), RepF K g ds vs → RepF K g' ds vs
  | [], _, h => h
  | (k, d) :: ds, vs, h => by
    obtain ⟨v, r, e1, h1, h2⟩ := h
    exact ⟨v, r, e1, Rep.sub e d v h1, RepF.sub e ds r h2⟩
end
theorem Rep.mono (e : Ext g g') {d : D} {v : V} (h : Rep K g d v) : Rep K g' d v := Rep.sub e.sub d v h
theorem RepL.sub' {ds : List D} {vs : List V} (h : RepL K g ds vs) (e : Sub g g') : RepL K g' ds vs := RepL.sub e ds vs h
theorem RepK.sub' {ds : List (Key × D)} {vs : List (Key × V)} (h : RepK K g ds vs) (e : Sub g g') : RepK K g' ds vs := RepK.sub e ds vs h
theorem RepF.sub' {ds : List (Str × D)} {vs : List (Str × V)} (h : RepF K g ds vs) (e : Sub g g') : RepF K g' ds vs := RepF.sub e ds vs h
theorem RepL.mono (e : Ext g g') {ds : List D} {vs : List V} (h : RepL K g ds vs) : RepL K g' ds vs := RepL.sub e.sub ds vs h
theorem RepK.mono (e : Ext g g') {ds : List (Key × D)} {vs : List (Key × V)} (h : RepK K g ds vs) : RepK K g' ds vs := RepK.sub e.sub ds vs h
theorem RepF.mono (e : Ext g g') {ds : List (Str × D)} {vs : List (Str × V)} (h : RepF K g ds vs) : RepF K g' ds vs := RepF.sub e.sub ds vs h
end

/-! ### lists of data -/
section
variable {K : PySem.W.Frag} {g : G}
theorem RepL.nil : RepL K g [] [] := rfl
theorem RepL.cons {d : D} {v : V} {ds : List D} {vs : List V} (h : Rep K g d v) (t : RepL K g ds vs) : RepL K g (d :: ds) (v :: vs) := ⟨v, vs, rfl, h, t⟩
theorem RepL.length : ∀ {ds : List D} {vs : List V}, RepL K g ds vs → ds.length = vs.length
  | [], vs, h => by
    have h' : vs = [] := h
    subst h'
    rfl
  | d :: ds, vs, h => by
    obtain ⟨v, r, e1, h1, h2⟩ := h
    subst e1
    simp [RepL.length h2]
theorem RepL.get : ∀ {ds : List D} {vs : List V} {i : Nat} {d : D}, RepL K g ds vs → ds[i]? = some d → ∃ v, vs[i]? = some v ∧ Rep K g d v
  | [], _, _, _, _, e => by simp at e
  | x :: ds, vs, 0, d, h, e => by
    obtain ⟨v, r, e1, h1, h2⟩ := h
    subst e1
    simp at e
    subst e
    exact ⟨v, rfl, h1⟩
  | x :: ds, vs, i + 1, d, h, e => by
    obtain ⟨v, r, e1, h1, h2⟩ := h
    subst e1
    obtain ⟨u, q1, q2⟩ := RepL.get (i := i) (d := d) h2 (by simpa using e)
    exact ⟨u, by simpa using q1, q2⟩
theorem RepL.append : ∀ {ds es : List D} {vs us : List V}, RepL K g ds vs → RepL K g es us → RepL K g (ds ++ es) (vs ++ us)
  | [], _, vs, _, h, t => by
    have h' : vs = [] := h
    subst h'
    exact t
  | d :: ds, es, vs, us, h, t => by
    obtain ⟨v, r, e1, h1, h2⟩ := h
    subst e1
    exact ⟨v, r ++ us, rfl, h1, RepL.append h2 t⟩
theorem RepL.take : ∀ {ds : List D} {vs : List V} (n : Nat), RepL K g ds vs → RepL K g (ds.take n) (vs.take n)
  | _, _, 0, _ => by simp only [List.take_zero]; exact rfl
  | [], vs, n + 1, h => by
    have h' : vs = [] := h
    subst h'
    exact rfl
  | d :: ds, vs, n + 1, h => by
    obtain ⟨v, r, e1, h1, h2⟩ := h
    subst e1
    exact ⟨v, _, rfl, h1, RepL.take n h2⟩
theorem RepL.drop : ∀ {ds : List D} {vs : List V} (n : Nat), RepL K g ds vs → RepL K g (ds.drop n) (vs.drop n)
  | _, _, 0, h => by simpa only [List.drop_zero] using h
  | [], vs, n + 1, h => by
    have h' : vs = [] := h
    subst h'
    exact rfl
  | d :: ds, vs, n + 1, h => by
    obtain ⟨v, r, e1, h1, h2⟩ := h
    subst e1
    simpa only [List.drop_succ_cons] using RepL.drop n h2
theorem RepL.set {d : D} {v : V} (h : Rep K g d v) : ∀ {ds : List D} {vs : List V} (i : Nat), RepL K g ds vs → RepL K g (ds.set i d) (vs.set i v)
  | [], vs, i, q => by
    have q' : vs = [] := q
    subst q'
    exact rfl
  | x :: ds, vs, 0, q => by
    obtain ⟨u, r, e1, h1, h2⟩ := q
    subst e1
    exact ⟨v, r, rfl, h, h2⟩
  | x :: ds, vs, i + 1, q => by
    obtain ⟨u, r, e1, h1, h2⟩ := q
    subst e1
    exact ⟨u, _, rfl, h1, RepL.set h i h2⟩
theorem RepL.ints : ∀ {ns : List Int} {vs : List V}, RepL K g (ns.map .int) vs → vs = ns.map V.int
  | [], vs, h => h
  | n :: ns, vs, h => by
    obtain ⟨v, r, e1, h1, h2⟩ := h
    subst e1
    have h1' : v = .int n := h1
    subst h1'
    rw [RepL.ints h2]
    rfl
theorem RepL.of_ints : ∀ (ns : List Int), RepL K g (ns.map .int) (ns.map V.int)
  | [] => rfl
  | n :: ns => ⟨_, _, rfl, rfl, RepL.of_ints ns⟩
end

/-! ### what may change -/
/-- what stands at a changing object's place -/
inductive CO where
  | lst (xs : List D) | ins (C : Addr) (fs : List (Str × D)) | dic (kvs : List (Key × D)) | dead
abbrev Sto := List CO
def COk (K : PySem.W.Frag) (g : G) (H : Hp) (a : Addr) : CO → Prop
  | .lst ds => ∃ vs, H a = some (.lst vs) ∧ RepL K g ds vs ∧ g.Z a = none
  | .ins C ds => ∃ dx vs, H a = some (.ins C dx vs) ∧ RepF K g ds vs ∧ g.Z a = none
  | .dic ds => ∃ vs, H a = some (.dK vs) ∧ RepK K g ds vs ∧ g.Z a = none
  | .dead => True
structure Sr (K : PySem.W.Frag) (g : G) (cs : Sto) (H : Hp) : Prop where
  le : ∀ a o, g.Z a = some o → H a = some o
  len : g.as.length = cs.length
  nd : g.as.Nodup
  th : ∀ a ∈ g.as, H a ≠ none
  ok : ∀ (i : Nat) (a : Addr) (c : CO), g.as[i]? = some a → cs[i]? = some c → COk K g H a c
  rs : ∀ p ∈ g.rs, H p.1 = some p.2 ∧ g.Z p.1 = none ∧ p.1 ∉ g.as
  rn : (g.rs.map (·.1)).Nodup
/-- the names' values -/
abbrev En := List (Option D)
structure Lr (K : PySem.W.Frag) (g : G) (env : En) (σ : L2.St) : Prop where
  len : env.length = σ.length
  ok : ∀ (i : Nat) (d : D), env[i]? = some (some d) → ∃ v, σ[i]? = some (some v) ∧ Rep K g d v

section
variable {K : PySem.W.Frag} {g g' : G} {cs : Sto} {H : Hp} {env : En} {σ : L2.St}
theorem COk.mono {a : Addr} {c : CO} (e : Sub g g') (hz : c ≠ .dead → g'.Z a = none) {H' : Hp} (hh : c ≠ .dead → ∀ o, H a = some o → H' a = some o) (h : COk K g H a c) : COk K g' H' a c := by
  cases c with
  | lst ds =>
    obtain ⟨vs, h1, h2, h3⟩ := h
    exact ⟨vs, hh (by simp) _ h1, h2.sub' e, hz (by simp)⟩
  | ins C ds =>
    obtain ⟨dx, vs, h1, h2, h3⟩ := h
    exact ⟨dx, vs, hh (by simp) _ h1, h2.sub' e, hz (by simp)⟩
  | dic ds =>
    obtain ⟨vs, h1, h2, h3⟩ := h
    exact ⟨vs, hh (by simp) _ h1, h2.sub' e, hz (by simp)⟩
  | dead => trivial
theorem COk.free {a : Addr} {c : CO} (h : COk K g H a c) (hd : c ≠ .dead) : g.Z a = none := by
  cases c with
  | lst ds => obtain ⟨vs, h1, h2, h3⟩ := h; exact h3
  | ins C ds => obtain ⟨dx, vs, h1, h2, h3⟩ := h; exact h3
  | dic ds => obtain ⟨vs, h1, h2, h3⟩ := h; exact h3
  | dead => exact absurd rfl hd
theorem Lr.mono (l : Lr K g env σ) (e : Ext g g') : Lr K g' env σ :=
  ⟨l.len, fun i d h => by
    obtain ⟨v, h1, h2⟩ := l.ok i d h
    exact ⟨v, h1, h2.mono e⟩⟩
theorem Lr.set (l : Lr K g env σ) {i : Nat} {d : D} {v : V} (h : Rep K g d v) : Lr K g (env.set i (some d)) (σ.set i (some v)) := by
  refine ⟨by simp [l.len], fun j e q => ?_⟩
  by_cases hj : i = j
  · subst hj
    by_cases hi : i < env.length
    · rw [List.getElem?_set_self hi] at q
      cases q
      exact ⟨v, List.getElem?_set_self (by rw [← l.len]; exact hi), h⟩
    · rw [List.getElem?_eq_none (by simpa using hi)] at q
      cases q
  · rw [List.getElem?_set_ne hj] at q
    obtain ⟨u, h1, h2⟩ := l.ok j e q
    exact ⟨u, by rw [List.getElem?_set_ne hj]; exact h1, h2⟩
/-- a new object that stays -/
def G.add (g : G) (p : Addr) (o : HO) : G := { g with Z := upd g.Z p o }
theorem Sr.free (s : Sr K g cs H) {p : Addr} (h : H p = none) : g.Z p = none := by
  cases q : g.Z p with
  | none => rfl
  | some o =>
    rw [s.le p o q] at h
    cases h
theorem Ext.add (s : Sr K g cs H) {p : Addr} (h : H p = none) (o : HO) : Ext g (g.add p o) :=
  ⟨fun a u q => by
    show upd g.Z p o a = some u
    rw [upd_ne (ne_of_none q (s.free h))]
    exact q, ⟨[], by simp [G.add]⟩, rfl⟩
theorem Sr.add (s : Sr K g cs H) {p : Addr} (h : H p = none) (o : HO) : Sr K (g.add p o) cs (upd H p o) := by
  have np : p ∉ g.as := fun q => s.th p q h
  have e := Ext.add s h o
  refine ⟨fun a u q => ?_, s.len, s.nd, fun a ha => ?_, fun i a c h1 h2 => ?_, fun q hq => ?_, s.rn⟩
  · by_cases ha : a = p
    · subst ha
      have q' : upd g.Z a o a = some u := q
      rw [upd_same] at q' ⊢
      exact q'
    · have q' : upd g.Z p o a = some u := q
      rw [upd_ne ha] at q' ⊢
      exact s.le a u q'
  · have : a ≠ p := fun z => np (by rw [← z]; exact ha)
    rw [upd_ne this]
    exact s.th a ha
  · have ne : a ≠ p := fun z => np (by rw [← z]; exact List.mem_of_getElem? h1)
    have q := s.ok i a c h1 h2
    refine q.mono e.sub (fun hd => ?_) (fun _ u hu => ?_)
    · show upd g.Z p o a = none
      rw [upd_ne ne]
      exact q.free hd
    · rw [upd_ne ne]
      exact hu
  · obtain ⟨q1, q2, q3⟩ := s.rs q hq
    have ne : q.1 ≠ p := ne_of_none q1 h
    refine ⟨by rw [upd_ne ne]; exact q1, ?_, q3⟩
    show upd g.Z p o q.1 = none
    rw [upd_ne ne]
    exact q2
theorem add_at {p : Addr} {o : HO} : (g.add p o).Z p = some o := upd_same
/-- a new object that may change -/
def G.cel (g : G) (p : Addr) : G := { g with as := g.as ++ [p] }
theorem Ext.cel (p : Addr) : Ext g (g.cel p) := ⟨fun _ _ h => h, ⟨[p], rfl⟩, rfl⟩
theorem Sr.cel (s : Sr K g cs H) {p : Addr} (h : H p = none) {o : HO} {c : CO} (hc : COk K (g.cel p) (upd H p o) p c) : Sr K (g.cel p) (cs ++ [c]) (upd H p o) := by
  have np : p ∉ g.as := fun q => s.th p q h
  refine ⟨fun a u q => ?_, by simp [G.cel, s.len], ?_, fun a ha => ?_, fun i a d h1 h2 => ?_, fun q hq => ?_, s.rn⟩
  · rw [upd_ne (ne_of_none q (s.free h))]
    exact s.le a u q
  · show (g.as ++ [p]).Nodup
    rw [List.nodup_append]
    refine ⟨s.nd, by simp, ?_⟩
    intro a ha b hb
    have : b = p := by simpa using hb
    subst this
    exact fun z => np (by rw [← z]; exact ha)
  · have ha' : a ∈ g.as ++ [p] := ha
    rcases List.mem_append.mp ha' with q | q
    · rw [upd_ne (fun z => np (by rw [← z]; exact q))]
      exact s.th a q
    · have : a = p := by simpa using q
      subst this
      rw [upd_same]
      simp
  · have h1' : (g.as ++ [p])[i]? = some a := h1
    by_cases hi : i < g.as.length
    · rw [List.getElem?_append_left hi] at h1'
      rw [List.getElem?_append_left (by rw [← s.len]; exact hi)] at h2
      have ne : a ≠ p := fun z => np (by rw [← z]; exact List.mem_of_getElem? h1')
      have q := s.ok i a d h1' h2
      refine q.mono (Ext.cel p).sub (fun hd => q.free hd) (fun _ u hu => ?_)
      rw [upd_ne ne]
      exact hu
    · have hi' : i = g.as.length := by
        have := (List.getElem?_eq_some_iff.mp h1').1
        simp at this
        omega
      subst hi'
      rw [List.getElem?_append_right (Nat.le_refl _)] at h1'
      rw [List.getElem?_append_right (by rw [s.len]; exact Nat.le_refl _)] at h2
      simp [s.len] at h1' h2
      subst h1' h2
      exact hc
  · obtain ⟨q1, q2, q3⟩ := s.rs q hq
    have ne : q.1 ≠ p := ne_of_none q1 h
    refine ⟨by rw [upd_ne ne]; exact q1, q2, fun z => ?_⟩
    have z' : q.1 ∈ g.as ++ [p] := z
    rcases List.mem_append.mp z' with z | z
    · exact q3 z
    · exact ne (by simpa using z)
theorem nodup_ixA {l : List Addr} (hN : l.Nodup) {i j : Nat} {x : Addr} (a : l[i]? = some x) (b : l[j]? = some x) : i = j := by
  obtain ⟨h1, e1⟩ := List.getElem?_eq_some_iff.mp a
  obtain ⟨h2, e2⟩ := List.getElem?_eq_some_iff.mp b
  exact (List.getElem_inj hN).mp (e1.trans e2.symm)
/-- a changing object is changed -/
theorem Sr.put (s : Sr K g cs H) {i : Nat} {a : Addr} {o : HO} {c c0 : CO} (ha : g.as[i]? = some a) (h0 : cs[i]? = some c0) (hd : c0 ≠ .dead) (hc : COk K g (upd H a o) a c) : Sr K g (cs.set i c) (upd H a o) := by
  have z0 := (s.ok i a c0 ha h0).free hd
  have mem : a ∈ g.as := List.mem_of_getElem? ha
  refine ⟨fun b u q => ?_, by simp [s.len], s.nd, fun b hb => ?_, fun j b d h1 h2 => ?_, fun q hq => ?_, s.rn⟩
  · rw [upd_ne (ne_of_none q z0)]
    exact s.le b u q
  · by_cases hb' : b = a
    · subst hb'
      rw [upd_same]
      simp
    · rw [upd_ne hb']
      exact s.th b hb
  · by_cases hj : i = j
    · subst hj
      rw [ha] at h1
      cases h1
      have hi : i < cs.length := (List.getElem?_eq_some_iff.mp h0).1
      rw [List.getElem?_set_self hi] at h2
      cases h2
      exact hc
    · rw [List.getElem?_set_ne hj] at h2
      have ne : b ≠ a := fun z => by
        subst z
        exact hj (nodup_ixA s.nd ha h1)
      have q := s.ok j b d h1 h2
      refine q.mono (Ext.refl g).sub (fun hd => q.free hd) (fun _ u hu => ?_)
      rw [upd_ne ne]
      exact hu
  · obtain ⟨q1, q2, q3⟩ := s.rs q hq
    have ne : q.1 ≠ a := fun z => q3 (by rw [z]; exact mem)
    exact ⟨by rw [upd_ne ne]; exact q1, q2, q3⟩
/-- a changing list stays from here on -/
theorem Sr.freeze (s : Sr K g cs H) {i : Nat} {a : Addr} {ds : List D} {vs : List V} (ha : g.as[i]? = some a) (h0 : cs[i]? = some (.lst ds)) (hv : H a = some (.lst vs)) (hz : g.Z a = none) :
    Sr K (g.add a (.lst vs)) (cs.set i .dead) H ∧ Ext g (g.add a (.lst vs)) := by
  have mem : a ∈ g.as := List.mem_of_getElem? ha
  have e : Ext g (g.add a (.lst vs)) := ⟨fun b u q => by
    show upd g.Z a _ b = some u
    rw [upd_ne (ne_of_none q hz)]
    exact q, ⟨[], by simp [G.add]⟩, rfl⟩
  refine ⟨⟨fun b u q => ?_, by simp [G.add, s.len], s.nd, s.th, fun j b d h1 h2 => ?_, fun q hq => ?_, s.rn⟩, e⟩
  · have q' : upd g.Z a (.lst vs) b = some u := q
    by_cases hb : b = a
    · subst hb
      rw [upd_same] at q'
      rw [hv]
      exact q'
    · rw [upd_ne hb] at q'
      exact s.le b u q'
  · by_cases hj : i = j
    · subst hj
      have hi : i < cs.length := (List.getElem?_eq_some_iff.mp h0).1
      rw [List.getElem?_set_self hi] at h2
      cases h2
      trivial
    · rw [List.getElem?_set_ne hj] at h2
      have ne : b ≠ a := fun z => by
        subst z
        exact hj (nodup_ixA s.nd ha h1)
      have q := s.ok j b d h1 h2
      refine q.mono e.sub (fun hd => ?_) (fun _ u hu => hu)
      show upd g.Z a _ b = none
      rw [upd_ne ne]
      exact q.free hd
  · obtain ⟨q1, q2, q3⟩ := s.rs q hq
    refine ⟨q1, ?_, q3⟩
    show upd g.Z a _ q.1 = none
    rw [upd_ne (fun z => q3 (by rw [z]; exact mem))]
    exact q2
/-- an object kept apart -/
def G.hold (g : G) (p : Addr) (o : HO) : G := { g with rs := (p, o) :: g.rs }
theorem Sr.hold (s : Sr K g cs H) {p : Addr} (h : H p = none) (o : HO) : Sr K (g.hold p o) cs (upd H p o) := by
  have np : p ∉ g.as := fun q => s.th p q h
  have sb : Sub g (g.hold p o) := ⟨fun _ _ h => h, ⟨[], by simp [G.hold]⟩⟩
  refine ⟨fun a u q => ?_, s.len, s.nd, fun a ha => ?_, fun i a c h1 h2 => ?_, fun q hq => ?_, ?_⟩
  · rw [upd_ne (ne_of_none q (s.free h))]
    exact s.le a u q
  · rw [upd_ne (fun z => np (by rw [← z]; exact ha))]
    exact s.th a ha
  · have ne : a ≠ p := fun z => np (by rw [← z]; exact List.mem_of_getElem? h1)
    refine (s.ok i a c h1 h2).mono sb (fun hd => (s.ok i a c h1 h2).free hd) (fun _ u hu => ?_)
    rw [upd_ne ne]
    exact hu
  · rcases List.mem_cons.mp (show q ∈ (p, o) :: g.rs from hq) with e | hq
    · subst e
      exact ⟨upd_same, s.free h, np⟩
    · obtain ⟨q1, q2, q3⟩ := s.rs q hq
      exact ⟨by rw [upd_ne (ne_of_none q1 h)]; exact q1, q2, q3⟩
  · show (p :: g.rs.map (·.1)).Nodup
    refine List.nodup_cons.mpr ⟨fun z => ?_, s.rn⟩
    obtain ⟨q, hq, e⟩ := List.mem_map.mp z
    obtain ⟨q1, _⟩ := s.rs q hq
    rw [e, h] at q1
    cases q1
theorem Sr.rehold (s : Sr K g cs H) {p : Addr} {o o' : HO} {r : List (Addr × HO)} (e : g.rs = (p, o) :: r) : Sr K { g with rs := (p, o') :: r } cs (upd H p o') := by
  obtain ⟨q1, q2, q3⟩ := s.rs (p, o) (by rw [e]; exact List.mem_cons_self)
  have rn := s.rn
  rw [e] at rn
  have sb : Sub g { g with rs := (p, o') :: r } := ⟨fun _ _ h => h, ⟨[], by simp⟩⟩
  refine ⟨fun a u q => ?_, s.len, s.nd, fun a ha => ?_, fun i a c h1 h2 => ?_, fun q hq => ?_, rn⟩
  · have q' : g.Z a = some u := q
    rw [upd_ne (ne_of_none q' q2)]
    exact s.le a u q
  · rw [upd_ne (fun z => q3 (by rw [← z]; exact ha))]
    exact s.th a ha
  · have ne : a ≠ p := fun z => q3 (by rw [← z]; exact List.mem_of_getElem? h1)
    refine (s.ok i a c h1 h2).mono sb (fun hd => (s.ok i a c h1 h2).free hd) (fun _ u hu => ?_)
    rw [upd_ne ne]
    exact hu
  · rcases List.mem_cons.mp (show q ∈ (p, o') :: r from hq) with e' | hq
    · subst e'
      exact ⟨upd_same, q2, q3⟩
    · obtain ⟨r1, r2, r3⟩ := s.rs q (by rw [e]; exact List.mem_cons_of_mem _ hq)
      have ne : q.1 ≠ p := fun z => (List.nodup_cons.mp rn).1 (List.mem_map.mpr ⟨q, hq, z⟩)
      exact ⟨by rw [upd_ne ne]; exact r1, r2, r3⟩
theorem Sr.unhold (s : Sr K g cs H) {p : Addr} {o : HO} {r : List (Addr × HO)} (e : g.rs = (p, o) :: r) : Sr K { g with Z := upd g.Z p o, rs := r } cs H := by
  obtain ⟨q1, q2, q3⟩ := s.rs (p, o) (by rw [e]; exact List.mem_cons_self)
  have rn := s.rn
  rw [e] at rn
  have sb : Sub g { g with Z := upd g.Z p o, rs := r } := ⟨fun a u h => by
    show upd g.Z p o a = some u
    rw [upd_ne (ne_of_none h q2)]
    exact h, ⟨[], by simp⟩⟩
  refine ⟨fun a u q => ?_, s.len, s.nd, s.th, fun i a c h1 h2 => ?_, fun q hq => ?_, (List.nodup_cons.mp rn).2⟩
  · have q' : upd g.Z p o a = some u := q
    by_cases ha : a = p
    · subst ha
      rw [upd_same] at q'
      cases q'
      exact q1
    · rw [upd_ne ha] at q'
      exact s.le a u q'
  · have ne : a ≠ p := fun z => q3 (by rw [← z]; exact List.mem_of_getElem? h1)
    refine (s.ok i a c h1 h2).mono sb (fun hd => ?_) (fun _ u hu => hu)
    show upd g.Z p o a = none
    rw [upd_ne ne]
    exact (s.ok i a c h1 h2).free hd
  · obtain ⟨r1, r2, r3⟩ := s.rs q (by rw [e]; exact List.mem_cons_of_mem _ hq)
    refine ⟨r1, ?_, r3⟩
    show upd g.Z p o q.1 = none
    rw [upd_ne (fun z => (List.nodup_cons.mp rn).1 (List.mem_map.mpr ⟨q, hq, z⟩))]
    exact r2
end
end DL

/-! DRules: the judgements over data, and their rules. -/
namespace DL
open PySem PySem.Spec L2

abbrev PD := D → Sto → Prop
abbrev WE := En → Sto → PD → Prop
abbrev WT := En → Sto → (Bool → Sto → Prop) → Prop
abbrev WA := En → Sto → (List D → Sto → Prop) → Prop
structure DN where
  nx : En → Sto → Prop
  rt : PD
  bk : En → Sto → Prop := fun _ _ => False
  ct : En → Sto → Prop := fun _ _ => False
abbrev WS := DN → En → Sto → Prop
structure DN.le (E E' : DN) : Prop where
  nx : ∀ env cs, E.nx env cs → E'.nx env cs
  rt : ∀ d cs, E.rt d cs → E'.rt d cs
  bk : ∀ env cs, E.bk env cs → E'.bk env cs
  ct : ∀ env cs, E.ct env cs → E'.ct env cs
theorem DN.le.refl (E : DN) : DN.le E E := ⟨fun _ _ h => h, fun _ _ h => h, fun _ _ h => h, fun _ _ h => h⟩

section
variable (K : PySem.W.Frag)
def upV (g : G) (Q : VK) : PD := fun d cs => ∀ g' H v, Ext g g' → Sr K g' cs H → Rep K g' d v → Q v H
def upT (g : G) (Q : Bool → Hp → Prop) : Bool → Sto → Prop := fun b cs => ∀ g' H, Ext g g' → Sr K g' cs H → Q b H
def upA (g : G) (Q : List V → Hp → Prop) : List D → Sto → Prop := fun ds cs => ∀ g' H vs, Ext g g' → Sr K g' cs H → RepL K g' ds vs → Q vs H
def upE (g : G) (Q : L2.St → Hp → Prop) : En → Sto → Prop := fun env cs => ∀ g' H σ, Ext g g' → Sr K g' cs H → Lr K g' env σ → Q σ H
def upN (g : G) (D : Ends) : DN := ⟨upE K g D.nx, upV K g D.rt, upE K g D.bk, upE K g D.ct⟩
def lowE (w : WE) : TE := fun σ H Q => ∃ g cs env, Sr K g cs H ∧ Lr K g env σ ∧ w env cs (upV K g Q)
def lowT (w : WT) : TT := fun σ H Q => ∃ g cs env, Sr K g cs H ∧ Lr K g env σ ∧ w env cs (upT K g Q)
def lowA (w : WA) : TA := fun σ H Q => ∃ g cs env, Sr K g cs H ∧ Lr K g env σ ∧ w env cs (upA K g Q)
def lowS (w : WS) : TS := fun D σ H => ∃ g cs env, Sr K g cs H ∧ Lr K g env σ ∧ w (upN K g D) env cs
end
section
variable {K : PySem.W.Frag} {g g' : G}
theorem upV.mono (e : Ext g g') {Q : VK} {d : D} {cs : Sto} (h : upV K g Q d cs) : upV K g' Q d cs := fun g2 H v e2 => h g2 H v (e.trans e2)
theorem upT.mono (e : Ext g g') {Q : Bool → Hp → Prop} {b : Bool} {cs : Sto} (h : upT K g Q b cs) : upT K g' Q b cs := fun g2 H e2 => h g2 H (e.trans e2)
theorem upA.mono (e : Ext g g') {Q : List V → Hp → Prop} {ds : List D} {cs : Sto} (h : upA K g Q ds cs) : upA K g' Q ds cs := fun g2 H v e2 => h g2 H v (e.trans e2)
theorem upE.mono (e : Ext g g') {Q : L2.St → Hp → Prop} {env : En} {cs : Sto} (h : upE K g Q env cs) : upE K g' Q env cs := fun g2 H v e2 => h g2 H v (e.trans e2)
theorem upN.mono (e : Ext g g') (D : Ends) : DN.le (upN K g D) (upN K g' D) := ⟨fun _ _ h => upE.mono e h, fun _ _ h => upV.mono e h, fun _ _ h => upE.mono e h, fun _ _ h => upE.mono e h⟩
end

abbrev MonoE (w : WE) : Prop := ∀ env cs Q Q', (∀ d cs, Q d cs → Q' d cs) → w env cs Q → w env cs Q'
abbrev MonoT (w : WT) : Prop := ∀ env cs Q Q', (∀ b cs, Q b cs → Q' b cs) → w env cs Q → w env cs Q'
abbrev MonoA (w : WA) : Prop := ∀ env cs Q Q', (∀ ds cs, Q ds cs → Q' ds cs) → w env cs Q → w env cs Q'
abbrev MonoS (w : WS) : Prop := ∀ E E' env cs, DN.le E E' → w E env cs → w E' env cs
structure DE (X : Cx) (e : Expr) (w : WE) : Prop where
  pe : PE X e (lowE X.K w)
  mo : MonoE w
structure DT (X : Cx) (e : Expr) (w : WT) : Prop where
  pe : PT X e (lowT X.K w)
  mo : MonoT w
structure DW (X : Cx) (e : Expr) (w : WT) : Prop where
  pe : PW X e (lowT X.K w)
  mo : MonoT w
structure DA (X : Cx) (es : List Expr) (w : WA) : Prop where
  pe : PA X es (lowA X.K w)
  mo : MonoA w
structure DS (X : Cx) (st : Stmt) (w : WS) : Prop where
  pe : PS X st (lowS X.K w)
  mo : MonoS w
structure DSs (X : Cx) (st : List Stmt) (w : WS) : Prop where
  pe : PSs X st (lowS X.K w)
  mo : MonoS w

theorem PE.imp {X : Cx} {e : Expr} {t t' : TE} (h : PE X e t) (i : ∀ σ H Q, t' σ H Q → t σ H Q) : PE X e t' := ⟨fun pins s σ H Q I hw => h.run pins s σ H Q I (i _ _ _ hw)⟩
theorem PT.imp {X : Cx} {e : Expr} {t t' : TT} (h : PT X e t) (i : ∀ σ H Q, t' σ H Q → t σ H Q) : PT X e t' := ⟨fun pins s σ H Q I hw => h.run pins s σ H Q I (i _ _ _ hw)⟩
theorem PW.imp {X : Cx} {e : Expr} {t t' : TT} (h : PW X e t) (i : ∀ σ H Q, t' σ H Q → t σ H Q) : PW X e t' := ⟨fun wh pins s σ H Q I hw => h.run wh pins s σ H Q I (i _ _ _ hw)⟩
theorem PA.imp {X : Cx} {e : List Expr} {t t' : TA} (h : PA X e t) (i : ∀ σ H Q, t' σ H Q → t σ H Q) : PA X e t' := ⟨fun pos pins s σ H Q I hw => h.run pos pins s σ H Q I (i _ _ _ hw)⟩
theorem PS.imp {X : Cx} {e : Stmt} {t t' : TS} (h : PS X e t) (i : ∀ D σ H, t' D σ H → t D σ H) : PS X e t' := ⟨fun pins s σ H D I hw => h.run pins s σ H D I (i _ _ _ hw)⟩
theorem PSs.imp {X : Cx} {e : List Stmt} {t t' : TS} (h : PSs X e t) (i : ∀ D σ H, t' D σ H → t D σ H) : PSs X e t' := ⟨fun pins s σ H D I hw => h.run pins s σ H D I (i _ _ _ hw)⟩

section
variable {K : PySem.W.Frag} {g : G} {cs : Sto} {H : Hp} {env : En} {σ : L2.St}
/-- behind an expression -/
theorem lowE.go {w : WE} (m : MonoE w) {P : PD} {R : VK} (s : Sr K g cs H) (l : Lr K g env σ) (h : w env cs P) (k : ∀ d cs' g' H' v, P d cs' → Ext g g' → Sr K g' cs' H' → Rep K g' d v → R v H') : lowE K w σ H R :=
  ⟨g, cs, env, s, l, m env cs P _ (fun d cs' p g' H' v e s' r => k d cs' g' H' v p e s' r) h⟩
theorem lowT.go {w : WT} (m : MonoT w) {P : Bool → Sto → Prop} {R : Bool → Hp → Prop} (s : Sr K g cs H) (l : Lr K g env σ) (h : w env cs P) (k : ∀ d cs' g' H', P d cs' → Ext g g' → Sr K g' cs' H' → R d H') : lowT K w σ H R :=
  ⟨g, cs, env, s, l, m env cs P _ (fun d cs' p g' H' e s' => k d cs' g' H' p e s') h⟩
theorem lowA.go {w : WA} (m : MonoA w) {P : List D → Sto → Prop} {R : List V → Hp → Prop} (s : Sr K g cs H) (l : Lr K g env σ) (h : w env cs P) (k : ∀ ds cs' g' H' vs, P ds cs' → Ext g g' → Sr K g' cs' H' → RepL K g' ds vs → R vs H') : lowA K w σ H R :=
  ⟨g, cs, env, s, l, m env cs P _ (fun d cs' p g' H' v e s' r => k d cs' g' H' v p e s' r) h⟩
theorem lowS.go {w : WS} (m : MonoS w) {E : DN} {D : Ends} (s : Sr K g cs H) (l : Lr K g env σ) (h : w E env cs) (le : DN.le E (upN K g D)) : lowS K w D σ H :=
  ⟨g, cs, env, s, l, m E _ env cs le h⟩
end

section
variable {X : Cx} {a b c : Expr} {wa wb wc : WE} {pos : Pos}
/-! ### constants and names -/
def wC (d : D) : WE := fun _ cs Q => Q d cs
def wVar (i : Nat) : WE := fun env cs Q => match env[i]? with
  | some (some d) => Q d cs
  | _ => False
theorem wC.mo (d : D) : MonoE (wC d) := fun _ cs _ _ h q => h _ _ q
theorem wVar.mo (i : Nat) : MonoE (wVar i) := fun env cs Q Q' h q => by
  unfold wVar at q ⊢
  split at q
  · exact h _ _ q
  · exact q
theorem de_c {e : Expr} {v : V} (d : D) (h : PE X e (tC v)) (r : ∀ g, Rep X.K g d v) : DE X e (wC d) :=
  ⟨PE.imp h fun σ H Q ⟨g, cs, env, s, l, q⟩ => q g H v (Ext.refl g) s (r g), wC.mo d⟩
theorem de_int {i j} : DE X (.Constant (.int i) j pos) (wC (.int i)) := de_c _ pe_int fun _ => rfl
theorem de_bl {b j} : DE X (.Constant (.bool b) j pos) (wC (.bl b)) := de_c _ pe_bl fun _ => rfl
theorem de_non {j} : DE X (.Constant .none j pos) (wC .non) := de_c _ pe_non fun _ => rfl
theorem de_str {x j} : DE X (.Constant (.str x) j pos) (wC (.str x)) := de_c _ pe_str fun _ => rfl
theorem dv (i : Nat) {x : Str} (hN : X.N[i]? = some x := by rfl) (hv : Vis X.env.scope x := by first | exact Or.inl rfl | exact Or.inr (Or.inl rfl) | exact Or.inr (Or.inr rfl)) (hd : (x == ("__debug__" : Str)) = false := by decide)
    (hcd : (x == ("__classdict__" : Str)) = false := by decide) : DE X (.Name x pos) (wVar i) :=
  ⟨PE.imp (pe_var hN hv hd hcd) fun σ H Q ⟨g, cs, env, s, l, q⟩ => by
    unfold wVar at q
    split at q
    · rename_i d e
      obtain ⟨v, h1, h2⟩ := l.ok i d e
      exact ⟨v, h1, q g H v (Ext.refl g) s h2⟩
    · exact q.elim, wVar.mo i⟩
/-- a module's name, a built-in's: as a value -/
theorem de_glob {x : Str} {u : Value} (d : D) {v : V} (hg : Gl X x) (hm : X.mg x = some u) (r : RelV v u) (rd : ∀ g, Rep X.K g d v) (hd : (x == ("__debug__" : Str)) = false := by decide) : DE X (.Name x pos) (wC d) := de_c d (pe_glob hg hm r hd) rd
theorem de_bltn {x : Str} {u : Value} (d : D) {v : V} (hg : Gl X x) (hm : X.mg x = none) (hv : bootBuiltins x = some u) (r : RelV v u) (rd : ∀ g, Rep X.K g d v) (hn : x ≠ "__name__" := by decide) (hd : (x == ("__debug__" : Str)) = false := by decide) : DE X (.Name x pos) (wC d) := de_c d (pe_bltn hg hm hv r hn hd) rd

/-! ### two values -/
abbrev O2 := D → D → Sto → PD → Prop
abbrev O1 := D → Sto → PD → Prop
def lowO (K : PySem.W.Frag) (o : O2) : R2 := fun x y H Q => ∃ g cs d1 d2, Sr K g cs H ∧ Rep K g d1 x ∧ Rep K g d2 y ∧ o d1 d2 cs (upV K g Q)
def lowU (K : PySem.W.Frag) (o : O1) : V → Hp → VK → Prop := fun x H Q => ∃ g cs d, Sr K g cs H ∧ Rep K g d x ∧ o d cs (upV K g Q)
structure OpD (X : Cx) (f : Value → Value → Sem Value) (o : O2) : Prop where
  op : OpR X f (lowO X.K o)
  mo : ∀ d1 d2 cs Q Q', (∀ d cs, Q d cs → Q' d cs) → o d1 d2 cs Q → o d1 d2 cs Q'
structure UnD (X : Cx) (f : Value → Sem Value) (o : O1) : Prop where
  op : UnR X f (lowU X.K o)
  mo : ∀ d cs Q Q', (∀ d cs, Q d cs → Q' d cs) → o d cs Q → o d cs Q'
def wOp (o : O2) (wa wb : WE) : WE := fun env cs Q => wa env cs fun d1 cs1 => wb env cs1 fun d2 cs2 => o d1 d2 cs2 Q
def wUn (o : O1) (wa : WE) : WE := fun env cs Q => wa env cs fun d cs1 => o d cs1 Q
theorem low_op {o : O2} (mo : ∀ d1 d2 cs Q Q', (∀ d cs, Q d cs → Q' d cs) → o d1 d2 cs Q → o d1 d2 cs Q') (ha : DE X a wa) (hb : DE X b wb) {σ : L2.St} {H : Hp} {Q : VK} (h : lowE X.K (wOp o wa wb) σ H Q) :
    lowE X.K wa σ H fun x H1 => lowE X.K wb σ H1 fun y H2 => lowO X.K o x y H2 Q := by
  obtain ⟨g, cs, env, s, l, h⟩ := h
  refine lowE.go ha.mo s l h fun d1 cs1 g1 H1 v1 h1 e1 s1 r1 => ?_
  refine lowE.go hb.mo s1 (l.mono e1) h1 fun d2 cs2 g2 H2 v2 h2 e2 s2 r2 => ?_
  exact ⟨g2, cs2, d1, d2, s2, r1.mono e2, r2, mo _ _ _ _ _ (fun _ _ q => upV.mono (e1.trans e2) q) h2⟩
theorem wOp.mo {o : O2} (mo : ∀ d1 d2 cs Q Q', (∀ d cs, Q d cs → Q' d cs) → o d1 d2 cs Q → o d1 d2 cs Q') (ha : MonoE wa) (hb : MonoE wb) : MonoE (wOp o wa wb) := fun env cs Q Q' h q =>
  ha env cs _ _ (fun d1 cs1 q1 => hb env cs1 _ _ (fun d2 cs2 q2 => mo _ _ _ _ _ h q2) q1) q
theorem de_op {op : Operator} {o : O2} (ho : OpD X (binaryOp op) o) (ha : DE X a wa) (hb : DE X b wb) : DE X (.BinOp a op b pos) (wOp o wa wb) :=
  ⟨PE.imp (pe_op ho.op ha.pe hb.pe) fun σ H Q h => low_op ho.mo ha hb h, wOp.mo ho.mo ha.mo hb.mo⟩
theorem de_cmp {op : CmpOp} {o : O2} (ho : OpD X (compareOp op) o) (ha : DE X a wa) (hb : DE X b wb) (hm : behindInMarks op b = false := by first | exact nobehind _ (by decide) (by decide) | rfl) : DE X (.Compare a [op] [b] pos) (wOp o wa wb) :=
  ⟨PE.imp (pe_cmpR ho.op ha.pe hb.pe hm) fun σ H Q h => low_op ho.mo ha hb h, wOp.mo ho.mo ha.mo hb.mo⟩
theorem de_un {op : UnaryOp} {o : O1} (ho : UnD X (unaryOp op) o) (ha : DE X a wa) : DE X (.UnaryOp op a pos) (wUn o wa) :=
  ⟨PE.imp (pe_un ho.op ha.pe) fun σ H Q ⟨g, cs, env, s, l, h⟩ => lowE.go ha.mo s l h fun d1 cs1 g1 H1 v1 h1 e1 s1 r1 => ⟨g1, cs1, d1, s1, r1, ho.mo _ _ _ _ (fun _ _ q => upV.mono e1 q) h1⟩,
    fun env cs Q Q' h q => ha.mo env cs _ _ (fun d1 cs1 q1 => ho.mo _ _ _ _ h q1) q⟩
/-- one comparison as a test -/
def wTst (w : WE) : WT := fun env cs Q => w env cs fun d cs' => match d with
  | .bl b => Q b cs'
  | _ => False
theorem wTst.mo {w : WE} (h : MonoE w) : MonoT (wTst w) := fun env cs Q Q' hq q => h env cs _ _ (fun d cs' q => by
  cases d <;> first | exact hq _ _ q | exact q) q
theorem low_tst {w : WE} (m : MonoE w) {K : PySem.W.Frag} {σ : L2.St} {H : Hp} {Q : Bool → Hp → Prop} (h : lowT K (wTst w) σ H Q) : lowE K w σ H fun x H' => ∃ k, x = .bl k ∧ Q k H' := by
  obtain ⟨g, cs, env, s, l, h⟩ := h
  refine lowE.go m s l h fun d cs1 g1 H1 v1 h1 e1 s1 r1 => ?_
  cases d with
  | bl b => exact ⟨b, r1, h1 g1 H1 e1 s1⟩
  | _ => exact False.elim h1
theorem dt_cmp {op : CmpOp} {o : O2} (ho : OpD X (compareOp op) o) (ha : DE X a wa) (hb : DE X b wb) (hm : behindInMarks op b = false := by first | exact nobehind _ (by decide) (by decide) | rfl) : DT X (.Compare a [op] [b] pos) (wTst (wOp o wa wb)) := by
  refine ⟨PT.imp (pt_cmpR ho.op ha.pe hb.pe hm) fun σ H Q h => ?_, wTst.mo (wOp.mo ho.mo ha.mo hb.mo)⟩
  obtain ⟨g, cs, env, s, l, h⟩ := low_tst (wOp.mo ho.mo ha.mo hb.mo) h
  exact low_op ho.mo ha hb ⟨g, cs, env, s, l, h⟩
/-! ### sequences -/
def lstOf (cs : Sto) : D → Option (List D)
  | .lst ds => some ds
  | .cell i => match cs[i]? with
    | some (.lst ds) => some ds
    | _ => none
  | _ => none
def seqOf (cs : Sto) : D → Option (List D)
  | .tup ds => some ds
  | d => lstOf cs d
section
variable {K : PySem.W.Frag} {g : G} {cs : Sto} {H : Hp}
theorem rd_of (s : Sr K g cs H) {d : D} {v : V} {ds : List D} (e : lstOf cs d = some ds) (r : Rep K g d v) : ∃ a vs, v = .ref a ∧ H a = some (.lst vs) ∧ RepL K g ds vs := by
  unfold lstOf at e
  split at e
  · cases e
    obtain ⟨a, vs, e1, h1, h2⟩ := r
    exact ⟨a, vs, e1, s.le _ _ h1, h2⟩
  · rename_i i
    split at e
    · rename_i ds' hc
      cases e
      obtain ⟨a, e1, h1⟩ := r
      obtain ⟨vs, q1, q2, q3⟩ := s.ok i a _ h1 hc
      exact ⟨a, vs, e1, q1, q2⟩
    · cases e
  · cases e
theorem lst_of (s : Sr K g cs H) {d : D} {v : V} {ds : List D} (e : lstOf cs d = some ds) (r : Rep K g d v) : ∃ a vs, v = .ref a ∧ SqL K H a vs ∧ RepL K g ds vs := by
  obtain ⟨a, vs, e1, h1, h2⟩ := rd_of s e r
  exact ⟨a, vs, e1, .of h1, h2⟩
theorem seq_of (s : Sr K g cs H) {d : D} {v : V} {ds : List D} (e : seqOf cs d = some ds) (r : Rep K g d v) : ∃ a vs, v = .ref a ∧ (SqL K H a vs ∨ SqT K H a vs) ∧ RepL K g ds vs := by
  unfold seqOf at e
  split at e
  · cases e
    obtain ⟨a, vs, e1, h1, h2⟩ := r
    exact ⟨a, vs, e1, .inr (sqT_mono s.le h1), h2⟩
  · obtain ⟨a, vs, e1, h1, h2⟩ := lst_of s e r
    exact ⟨a, vs, e1, .inl h1, h2⟩
/-- a new list, a new tuple -/
theorem new_lst {Q : VK} {ds : List D} {vs : List V} (s : Sr K g cs H) (r : RepL K g ds vs) (h : upV K g Q (.lst ds) cs) : ∀ p, H p = none → Q (.ref p) (upd H p (.lst vs)) := fun p hp =>
  h (g.add p (.lst vs)) _ _ (Ext.add s hp _) (s.add hp _) ⟨p, vs, rfl, add_at, r.mono (Ext.add s hp _)⟩
theorem new_tup {Q : VK} {ds : List D} {vs : List V} (s : Sr K g cs H) (r : RepL K g ds vs) (h : upV K g Q (.tup ds) cs) : ∀ p, H p = none → Q (.ref p) (upd H p (.tup vs)) := fun p hp =>
  h (g.add p (.tup vs)) _ _ (Ext.add s hp _) (s.add hp _) ⟨p, vs, rfl, .of add_at, r.mono (Ext.add s hp _)⟩
end
/-! ### argument lists, displays -/
def wNil : WA := fun _ cs Q => Q [] cs
def wCons (wa : WE) (wr : WA) : WA := fun env cs Q => wa env cs fun d cs1 => wr env cs1 fun ds cs2 => Q (d :: ds) cs2
theorem da_nil : DA X [] wNil := ⟨PA.imp pa_nil fun σ H Q ⟨g, cs, env, s, l, h⟩ => h g H [] (Ext.refl g) s rfl, fun _ cs _ _ h q => h _ _ q⟩
theorem da_cons {es : List Expr} {wr : WA} (ha : DE X a wa) (hr : DA X es wr) (hs : starEach (a :: es) X.env = (false, eval a X.env) :: starEach es X.env := by rfl) : DA X (a :: es) (wCons wa wr) :=
  ⟨PA.imp (pa_cons ha.pe hr.pe hs) fun σ H Q ⟨g, cs, env, s, l, h⟩ => lowE.go ha.mo s l h fun d1 cs1 g1 H1 v1 h1 e1 s1 r1 => lowA.go hr.mo s1 (l.mono e1) h1 fun ds cs2 g2 H2 vs h2 e2 s2 r2 => h2 g2 H2 _ (e1.trans e2) s2 (.cons (r1.mono e2) r2),
    fun env cs Q Q' h q => ha.mo env cs _ _ (fun d1 cs1 q1 => hr.mo env cs1 _ _ (fun _ _ q2 => h _ _ q2) q1) q⟩
def wTup (w : WA) : WE := fun env cs Q => w env cs fun ds cs' => ds.length ≤ sizeLine ∧ Q (.tup ds) cs'
def wLst (w : WA) : WE := fun env cs Q => w env cs fun ds cs' => ds.length ≤ sizeLine ∧ Q (.lst ds) cs'
theorem de_tup {es : List Expr} {x1} {w : WA} (h : DA X es w) : DE X (.Tuple es x1 pos) (wTup w) :=
  ⟨PE.imp (pe_tup h.pe) fun σ H Q ⟨g, cs, env, s, l, hw⟩ => lowA.go h.mo s l hw fun ds cs1 g1 H1 vs ⟨hz, h1⟩ e1 s1 r1 => ⟨by rw [← r1.length]; exact hz, new_tup s1 r1 (upV.mono e1 h1)⟩,
    fun env cs Q Q' hq q => h.mo env cs _ _ (fun ds cs1 ⟨z, q1⟩ => ⟨z, hq _ _ q1⟩) q⟩
theorem de_lst {es : List Expr} {w : WA} (h : DA X es w) : DE X (.List es pos) (wLst w) :=
  ⟨PE.imp (pe_lst h.pe) fun σ H Q ⟨g, cs, env, s, l, hw⟩ => lowA.go h.mo s l hw fun ds cs1 g1 H1 vs ⟨hz, h1⟩ e1 s1 r1 => ⟨by rw [← r1.length]; exact hz, new_lst s1 r1 (upV.mono e1 h1)⟩,
    fun env cs Q Q' hq q => h.mo env cs _ _ (fun ds cs1 ⟨z, q1⟩ => ⟨z, hq _ _ q1⟩) q⟩
/-- a list that will change -/
def wCel (w : WA) : WE := fun env cs Q => w env cs fun ds cs' => ds.length ≤ sizeLine ∧ Q (.cell cs'.length) (cs' ++ [.lst ds])
theorem de_cel {es : List Expr} {w : WA} (h : DA X es w) : DE X (.List es pos) (wCel w) :=
  ⟨PE.imp (pe_lst h.pe) fun σ H Q ⟨g, cs, env, s, l, hw⟩ => lowA.go h.mo s l hw fun ds cs1 g1 H1 vs ⟨hz, h1⟩ e1 s1 r1 => ⟨by rw [← r1.length]; exact hz, fun p hp => h1 (g1.cel p) _ _ (e1.trans (Ext.cel p)) (s1.cel hp ⟨vs, upd_same, r1.mono (Ext.cel p), s1.free hp⟩) ⟨p, rfl, by
      rw [← s1.len]
      show (g1.as ++ [p])[g1.as.length]? = some p
      simp⟩⟩,
    fun env cs Q Q' hq q => h.mo env cs _ _ (fun ds cs1 ⟨z, q1⟩ => ⟨z, hq _ _ q1⟩) q⟩
/-! ### truth, and, or, not -/
def truOf (cs : Sto) : D → Option Bool
  | .non => some false
  | .bl b => some b
  | .int i => some (i != 0)
  | .str y => some ((y.length : Int) != 0)
  | .dic kvs => some (!kvs.isEmpty)
  | d => (seqOf cs d).map fun ds => !ds.isEmpty
def truSz : D → Prop
  | .str y => y.length ≤ sizeLine
  | _ => True
def oTru (d : D) (cs : Sto) (Q : Bool → Sto → Prop) : Prop := ∃ b, truOf cs d = some b ∧ truSz d ∧ Q b cs
section
variable {K : PySem.W.Frag} {g : G} {cs : Sto} {H : Hp}
theorem RepL.isEmpty {ds : List D} {vs : List V} (r : RepL K g ds vs) : ds.isEmpty = vs.isEmpty := by
  have := r.length
  cases ds <;> cases vs <;> simp_all
theorem tru_of (s : Sr K g cs H) {d : D} {v : V} {b : Bool} (h : truOf cs d = some b) (hz : truSz d) (r : Rep K g d v) : TruV K v H b := by
  have sq : ∀ {d : D}, (∀ v, Rep K g d v → Rep K g d v) → (seqOf cs d).map (fun ds => !ds.isEmpty) = some b → Rep K g d v → TruV K v H b := fun {d} _ h r => by
    cases e : seqOf cs d with
    | none => rw [e] at h; cases h
    | some ds =>
      rw [e] at h
      simp only [Option.map_some, Option.some.injEq] at h
      obtain ⟨a, vs, e1, h1, h2⟩ := seq_of s e r
      subst e1
      rcases h1 with h1 | h1
      · exact .inl ⟨vs, h1, by rw [← h, h2.isEmpty]⟩
      · exact .inr (.inl ⟨vs, h1, by rw [← h, h2.isEmpty]⟩)
  unfold truOf at h
  cases d with
  | non => cases r; cases h; rfl
  | bl b => cases r; cases h; rfl
  | int i => cases r; cases h; rfl
  | str y => cases r; cases h; exact ⟨hz, rfl⟩
  | dic kvs =>
    obtain ⟨a, vs, e1, h1, h2⟩ := r
    subst e1
    cases h
    refine .inr (.inr ⟨vs, s.le _ _ h1, ?_⟩)
    cases kvs with
    | nil =>
      have : vs = [] := h2
      subst this
      rfl
    | cons p r =>
      obtain ⟨k, d⟩ := p
      obtain ⟨v, r', e, _⟩ := h2
      subst e
      rfl
  | tup ds => exact sq (fun _ h => h) h r
  | lst ds => exact sq (fun _ h => h) h r
  | cell i => exact sq (fun _ h => h) h r
  | ty n => cases h
  | ref a => cases h
  | obj C fs => cases h
  | scr ns => cases h
end
def wTruD (w : WE) : WT := fun env cs Q => w env cs fun d cs' => oTru d cs' Q
theorem wTruD.mo {w : WE} (h : MonoE w) : MonoT (wTruD w) := fun env cs Q Q' hq q => h env cs _ _ (fun d cs' ⟨b, e, z, q⟩ => ⟨b, e, z, hq _ _ q⟩) q
theorem low_tru {w : WE} (m : MonoE w) {K : PySem.W.Frag} {σ : L2.St} {H : Hp} {Q : Bool → Hp → Prop} (h : lowT K (wTruD w) σ H Q) : lowE K w σ H fun x H' => ∃ k, TruV K x H' k ∧ Q k H' := by
  obtain ⟨g, cs, env, s, l, h⟩ := h
  refine lowE.go m s l h fun d cs1 g1 H1 v1 ⟨b, e, z, h1⟩ e1 s1 r1 => ⟨b, tru_of s1 e z r1, h1 g1 H1 e1 s1⟩
theorem dt_tru {w : WE} (ha : DE X a w) (he : ∀ whole, isTrue a X.env whole = (do let v ← whole; standAt a.pos; holding [v] (truthy v)) := by intro _; rfl) : DT X a (wTruD w) :=
  ⟨PT.imp (pt_truth ha.pe he) fun σ H Q h => low_tru ha.mo h, wTruD.mo ha.mo⟩
def wAnd (t u : WT) : WT := fun env cs Q => t env cs fun c cs1 => if c = true then u env cs1 Q else Q false cs1
def wOr (t u : WT) : WT := fun env cs Q => t env cs fun c cs1 => if c = true then Q true cs1 else u env cs1 Q
def wNotD (t : WT) : WT := fun env cs Q => t env cs fun c cs1 => Q (!c) cs1
theorem ite_mono {c : Prop} [Decidable c] {A B A' B' : Prop} (h1 : A → A') (h2 : B → B') (h : if c then A else B) : if c then A' else B' := by
  by_cases hc : c
  · rw [if_pos hc] at h ⊢
    exact h1 h
  · rw [if_neg hc] at h ⊢
    exact h2 h
section
variable {t u : WT} {rest : List Expr}
theorem dw_and1 (ha : DT X a t) : DW X (.BoolOp .And [a] pos) t := ⟨pw_and1 ha.pe, ha.mo⟩
theorem dw_or1 (ha : DT X a t) : DW X (.BoolOp .Or [a] pos) t := ⟨pw_or1 ha.pe, ha.mo⟩
theorem dw_and (ha : DT X a t) (hb : DW X (.BoolOp .And (b :: rest) pos) u) : DW X (.BoolOp .And (a :: b :: rest) pos) (wAnd t u) :=
  ⟨PW.imp (pw_and ha.pe hb.pe) fun σ H Q ⟨g, cs, env, s, l, h⟩ => lowT.go ha.mo s l h fun c cs1 g1 H1 h1 e1 s1 => ite_mono (fun h1 => lowT.go hb.mo s1 (l.mono e1) h1 fun c2 cs2 g2 H2 h2 e2 s2 => h2 g2 H2 (e1.trans e2) s2) (fun h1 => h1 g1 H1 e1 s1) h1,
    fun env cs Q Q' h q => ha.mo env cs _ _ (fun c cs1 q1 => ite_mono (fun q1 => hb.mo env cs1 _ _ h q1) (fun q1 => h _ _ q1) q1) q⟩
theorem dw_or (ha : DT X a t) (hb : DW X (.BoolOp .Or (b :: rest) pos) u) : DW X (.BoolOp .Or (a :: b :: rest) pos) (wOr t u) :=
  ⟨PW.imp (pw_or ha.pe hb.pe) fun σ H Q ⟨g, cs, env, s, l, h⟩ => lowT.go ha.mo s l h fun c cs1 g1 H1 h1 e1 s1 => ite_mono (fun h1 => h1 g1 H1 e1 s1) (fun h1 => lowT.go hb.mo s1 (l.mono e1) h1 fun c2 cs2 g2 H2 h2 e2 s2 => h2 g2 H2 (e1.trans e2) s2) h1,
    fun env cs Q Q' h q => ha.mo env cs _ _ (fun c cs1 q1 => ite_mono (fun q1 => h _ _ q1) (fun q1 => hb.mo env cs1 _ _ h q1) q1) q⟩
theorem dt_of (h : DW X a t) : DT X a t := ⟨h.pe.pt, h.mo⟩
theorem dt_not (ha : DT X a t) : DT X (.UnaryOp .Not a pos) (wNotD t) :=
  ⟨PT.imp (pt_not ha.pe) fun σ H Q ⟨g, cs, env, s, l, h⟩ => lowT.go ha.mo s l h fun c cs1 g1 H1 h1 e1 s1 => h1 g1 H1 e1 s1,
    fun env cs Q Q' h q => ha.mo env cs _ _ (fun c cs1 q1 => h _ _ q1) q⟩
/-- .. as values -/
def wAndV (wa wb : WE) : WE := fun env cs Q => wa env cs fun d cs1 => oTru d cs1 fun c cs2 => if c = true then wb env cs2 Q else Q d cs2
def wOrV (wa wb : WE) : WE := fun env cs Q => wa env cs fun d cs1 => oTru d cs1 fun c cs2 => if c = true then Q d cs2 else wb env cs2 Q
def wNotV (wa : WE) : WE := fun env cs Q => wa env cs fun d cs1 => oTru d cs1 fun c cs2 => Q (.bl (!c)) cs2
theorem de_one {op} (h : DE X a wa) : DE X (.BoolOp op [a] pos) wa := ⟨pe_one h.pe, h.mo⟩
theorem de_and (ha : DE X a wa) (hb : DE X (.BoolOp .And (b :: rest) pos) wb) : DE X (.BoolOp .And (a :: b :: rest) pos) (wAndV wa wb) :=
  ⟨PE.imp (pe_andT ha.pe hb.pe) fun σ H Q ⟨g, cs, env, s, l, h⟩ => lowE.go ha.mo s l h fun d1 cs1 g1 H1 v1 ⟨k, q1, z, h1⟩ e1 s1 r1 => ⟨k, tru_of s1 q1 z r1, ite_mono (fun h1 => lowE.go hb.mo s1 (l.mono e1) h1 fun d2 cs2 g2 H2 v2 h2 e2 s2 r2 => h2 g2 H2 v2 (e1.trans e2) s2 r2) (fun h1 => h1 g1 H1 v1 e1 s1 r1) h1⟩,
    fun env cs Q Q' h q => ha.mo env cs _ _ (fun d cs1 ⟨k, q1, z, q2⟩ => ⟨k, q1, z, ite_mono (fun q => hb.mo env cs1 _ _ h q) (fun q => h _ _ q) q2⟩) q⟩
theorem de_or (ha : DE X a wa) (hb : DE X (.BoolOp .Or (b :: rest) pos) wb) : DE X (.BoolOp .Or (a :: b :: rest) pos) (wOrV wa wb) :=
  ⟨PE.imp (pe_orT ha.pe hb.pe) fun σ H Q ⟨g, cs, env, s, l, h⟩ => lowE.go ha.mo s l h fun d1 cs1 g1 H1 v1 ⟨k, q1, z, h1⟩ e1 s1 r1 => ⟨k, tru_of s1 q1 z r1, ite_mono (fun h1 => h1 g1 H1 v1 e1 s1 r1) (fun h1 => lowE.go hb.mo s1 (l.mono e1) h1 fun d2 cs2 g2 H2 v2 h2 e2 s2 r2 => h2 g2 H2 v2 (e1.trans e2) s2 r2) h1⟩,
    fun env cs Q Q' h q => ha.mo env cs _ _ (fun d cs1 ⟨k, q1, z, q2⟩ => ⟨k, q1, z, ite_mono (fun q => h _ _ q) (fun q => hb.mo env cs1 _ _ h q) q2⟩) q⟩
theorem de_not (ha : DE X a wa) : DE X (.UnaryOp .Not a pos) (wNotV wa) :=
  ⟨PE.imp (pe_notT ha.pe) fun σ H Q ⟨g, cs, env, s, l, h⟩ => lowE.go ha.mo s l h fun d1 cs1 g1 H1 v1 ⟨k, q1, z, h1⟩ e1 s1 r1 => ⟨k, tru_of s1 q1 z r1, h1 g1 H1 _ e1 s1 rfl⟩,
    fun env cs Q Q' h q => ha.mo env cs _ _ (fun d cs1 ⟨k, q1, z, q2⟩ => ⟨k, q1, z, h _ _ q2⟩) q⟩
def wIf (t : WT) (wa wb : WE) : WE := fun env cs Q => t env cs fun c cs1 => if c = true then wa env cs1 Q else wb env cs1 Q
theorem de_if (hc : DT X c t) (ha : DE X a wa) (hb : DE X b wb) : DE X (.IfExp c a b pos) (wIf t wa wb) :=
  ⟨PE.imp (pe_ifExp hc.pe ha.pe hb.pe) fun σ H Q ⟨g, cs, env, s, l, h⟩ => lowT.go hc.mo s l h fun c cs1 g1 H1 h1 e1 s1 => ite_mono (fun h1 => lowE.go ha.mo s1 (l.mono e1) h1 fun d2 cs2 g2 H2 v2 h2 e2 s2 r2 => h2 g2 H2 v2 (e1.trans e2) s2 r2) (fun h1 => lowE.go hb.mo s1 (l.mono e1) h1 fun d2 cs2 g2 H2 v2 h2 e2 s2 r2 => h2 g2 H2 v2 (e1.trans e2) s2 r2) h1,
    fun env cs Q Q' h q => hc.mo env cs _ _ (fun c cs1 q1 => ite_mono (fun q1 => ha.mo env cs1 _ _ h q1) (fun q1 => hb.mo env cs1 _ _ h q1) q1) q⟩
end
end
end DL

/-! DStmts: statements, targets, loops, comprehensions, defs, over data. -/
namespace DL
open PySem PySem.Spec L2

section
variable {X : Cx} {a b c : Expr} {wa wb wc : WE} {pos : Pos} {st : Stmt} {rest : List Stmt} {w u : WS}
/-! ### blocks -/
def wNext : WS := fun E env cs => E.nx env cs
def wSeq (w u : WS) : WS := fun E env cs => w { E with nx := fun env' cs' => u E env' cs' } env cs
theorem wNext.mo : MonoS wNext := fun E E' env cs h q => h.nx _ _ q
theorem wSeq.mo (hw : MonoS w) (hu : MonoS u) : MonoS (wSeq w u) := fun E E' env cs h q => hw { E with nx := fun env' cs' => u E env' cs' } { E' with nx := fun env' cs' => u E' env' cs' } env cs ⟨fun env cs q => hu E E' env cs h q, h.rt, h.bk, h.ct⟩ q
theorem dss_nil : DSs X [] wNext := ⟨PSs.imp pss_nil fun D σ H ⟨g, cs, env, s, l, h⟩ => h g H σ (Ext.refl g) s l, wNext.mo⟩
theorem low_seq (hw : MonoS w) (hu : MonoS u) {K : PySem.W.Frag} {D : Ends} {σ : L2.St} {H : Hp} (h : lowS K (wSeq w u) D σ H) : lowS K w { D with nx := fun σ H => lowS K u D σ H } σ H := by
  obtain ⟨g, cs, env, s, l, h⟩ := h
  refine lowS.go hw s l h ⟨fun env' cs' q g' H' σ' e s' l' => ?_, fun _ _ q => q, fun _ _ q => q, fun _ _ q => q⟩
  exact lowS.go hu s' l' q (upN.mono e D)
theorem dss_cons (h1 : DS X st w) (h2 : DSs X rest u) : DSs X (st :: rest) (wSeq w u) := ⟨PSs.imp (pss_cons h1.pe h2.pe) fun D σ H h => low_seq h1.mo h2.mo h, wSeq.mo h1.mo h2.mo⟩
theorem dss_one (h1 : DS X st w) : DSs X [st] w := ⟨pss_one h1.pe, h1.mo⟩
def wBreak : WS := fun E env cs => E.bk env cs
def wCont : WS := fun E env cs => E.ct env cs
theorem ds_pass : DS X (.Pass pos) wNext := ⟨PS.imp ps_pass fun D σ H ⟨g, cs, env, s, l, h⟩ => h g H σ (Ext.refl g) s l, wNext.mo⟩
theorem ds_doc {x j pos'} : DS X (.Expr (.Constant (.str x) j pos) pos') wNext := ⟨PS.imp ps_doc fun D σ H ⟨g, cs, env, s, l, h⟩ => h g H σ (Ext.refl g) s l, wNext.mo⟩
theorem ds_break : DS X (.Break pos) wBreak := ⟨PS.imp ps_break fun D σ H ⟨g, cs, env, s, l, h⟩ => h g H σ (Ext.refl g) s l, fun E E' env cs h q => h.bk _ _ q⟩
theorem ds_continue : DS X (.Continue pos) wCont := ⟨PS.imp ps_continue fun D σ H ⟨g, cs, env, s, l, h⟩ => h g H σ (Ext.refl g) s l, fun E E' env cs h q => h.ct _ _ q⟩
def wDrop (we : WE) : WS := fun E env cs => we env cs fun _ cs' => E.nx env cs'
theorem ds_expr (he : DE X a wa) (hs : swapsWith a none pos.line X.env = pure false := by rfl) : DS X (.Expr a pos) (wDrop wa) :=
  ⟨PS.imp (ps_expr he.pe hs) fun D σ H ⟨g, cs, env, s, l, h⟩ => lowE.go he.mo s l h fun d cs1 g1 H1 v1 h1 e1 s1 r1 => h1 g1 H1 σ e1 s1 (l.mono e1),
    fun E E' env cs h q => he.mo env cs _ _ (fun _ _ q => h.nx _ _ q) q⟩
def wRet (we : WE) : WS := fun E env cs => we env cs E.rt
theorem ds_ret (he : DE X a wa) : DS X (.Return (some a) pos) (wRet wa) :=
  ⟨PS.imp (ps_ret he.pe) fun D σ H ⟨g, cs, env, s, l, h⟩ => lowE.go he.mo s l h fun d cs1 g1 H1 v1 h1 e1 s1 r1 => h1 g1 H1 v1 e1 s1 r1,
    fun E E' env cs h q => he.mo env cs _ _ (fun _ _ q => h.rt _ _ q) q⟩
def wRetN : WS := fun E _ cs => E.rt .non cs
theorem ds_retN : DS X (.Return none pos) wRetN := ⟨PS.imp ps_retN fun D σ H ⟨g, cs, env, s, l, h⟩ => h g H _ (Ext.refl g) s rfl, fun E E' env cs h q => h.rt _ _ q⟩
def wIfS (t : WT) (w u : WS) : WS := fun E env cs => t env cs fun b cs1 => if b = true then w E env cs1 else u E env cs1
theorem ds_if {t : WT} {p q : List Stmt} (hc : DT X c t) (hp : DSs X p w) (hq : DSs X q u) : DS X (.If c p q pos) (wIfS t w u) :=
  ⟨PS.imp (ps_if hc.pe hp.pe hq.pe) fun D σ H ⟨g, cs, env, s, l, h⟩ => lowT.go hc.mo s l h fun k cs1 g1 H1 h1 e1 s1 => ite_mono (fun h1 => lowS.go hp.mo s1 (l.mono e1) h1 (upN.mono e1 D)) (fun h1 => lowS.go hq.mo s1 (l.mono e1) h1 (upN.mono e1 D)) h1,
    fun E E' env cs h x => hc.mo env cs _ _ (fun k cs1 q1 => ite_mono (fun y => hp.mo _ _ _ _ h y) (fun y => hq.mo _ _ _ _ h y) q1) x⟩
def wNever : WS := fun _ _ _ => False
theorem ds_never : DS X st wNever := ⟨PS.imp ps_never fun D σ H ⟨g, cs, env, s, l, h⟩ => h, fun _ _ _ _ _ h => h⟩
theorem dss_never {sts : List Stmt} : DSs X sts wNever := ⟨PSs.imp pss_never fun D σ H ⟨g, cs, env, s, l, h⟩ => h, fun _ _ _ _ _ h => h⟩
/-! ### names stored -/
def wSet (i : Nat) (we : WE) : WS := fun E env cs => we env cs fun d cs' => E.nx (env.set i (some d)) cs'
theorem wSet.mo {i : Nat} (h : MonoE wa) : MonoS (wSet i wa) := fun E E' env cs hE q => h env cs _ _ (fun _ _ q => hE.nx _ _ q) q
theorem low_set {i : Nat} (m : MonoE wa) {K : PySem.W.Frag} {D : Ends} {σ : L2.St} {H : Hp} (h : lowS K (wSet i wa) D σ H) : lowE K wa σ H fun x H1 => gName i x σ H1 D.nx := by
  obtain ⟨g, cs, env, s, l, h⟩ := h
  exact lowE.go m s l h fun d cs1 g1 H1 v1 h1 e1 s1 r1 => h1 g1 H1 _ e1 s1 ((l.mono e1).set r1)
theorem ds_set {i : Nat} {x : Str} {pos' : Pos} (hN : X.N.Nodup) (he : DE X a wa) (hi : X.N[i]? = some x := by rfl) (hx : Loc X.env.scope x := by first | exact Or.inl rfl | exact Or.inr rfl) (hs : swapsWith a (some (.Name x pos')) pos.line X.env = pure false := by rfl) (hf : X.fn x = true ∨ X.env.scope.names.lookup x = some .local := by first | exact .inl rfl | exact .inr rfl | assumption) :
    DS X (.Assign [.Name x pos'] a pos) (wSet i wa) := ⟨PS.imp (ps_set hN hi hx he.pe hs hf) fun D σ H h => low_set he.mo h, wSet.mo he.mo⟩
def wPar (i j : Nat) (w : WA) : WS := fun E env cs => w env cs fun ds cs' => match ds with
  | [d, e] => E.nx ((env.set i (some d)).set j (some e)) cs'
  | _ => False
theorem ds_par {i j : Nat} {x y : Str} {wA : WA} {px py pt : Pos} {kt k2 pt2} (hc : X.calm = true) (hN : X.N.Nodup) (ha : DA X [a, b] wA) (hi : X.N[i]? = some x := by rfl) (hj : X.N[j]? = some y := by rfl) (hij : i ≠ j := by decide)
    (hx : X.env.scope.names.lookup x = some .local := by rfl) (hy : X.env.scope.names.lookup y = some .local := by rfl)
    (hw : swappedStores [.Tuple [.Name x px, .Name y py] kt pt] (.Tuple [a, b] k2 pt2) X.env = pure (some [x, y]) := by rfl)
    (hs : swapsWithSole [.Tuple [.Name x px, .Name y py] kt pt] (.Tuple [a, b] k2 pt2) pos.line X.env = pure false := by rfl) :
    DS X (.Assign [.Tuple [.Name x px, .Name y py] kt pt] (.Tuple [a, b] k2 pt2) pos) (wPar i j wA) := by
  refine ⟨PS.imp (ps_par hc hN hi hj hij hx hy ha.pe hw hs) fun D σ H ⟨g, cs, env, s, l, h⟩ => lowA.go ha.mo s l h fun ds cs1 g1 H1 vs h1 e1 s1 r1 => ?_, fun E E' env cs h q => ha.mo env cs _ _ (fun ds cs' q => ?_) q⟩
  · match ds, h1, r1 with
    | [d, e], h1, r1 =>
      obtain ⟨v, r, ev, q1, v2, r', ev2, q2, q3⟩ := r1
      have q3' : r' = [] := q3
      subst ev ev2 q3'
      exact ⟨v, v2, rfl, h1 g1 H1 _ e1 s1 (((l.mono e1).set q1).set q2)⟩
  · match ds, q with
    | [d, e], q => exact h.nx _ _ q
def wPar3 (i j k : Nat) (w : WA) : WS := fun E env cs => w env cs fun ds cs' => match ds with
  | [d, e, f] => E.nx (((env.set i (some d)).set j (some e)).set k (some f)) cs'
  | _ => False
theorem ds_par3 {i j k : Nat} {x y z : Str} {d : Expr} {wA : WA} {px py pz pt : Pos} {kt k2 pt2} (hc : X.calm = true) (hN : X.N.Nodup) (ha : DA X [a, b, d] wA) (hi : X.N[i]? = some x := by rfl) (hj : X.N[j]? = some y := by rfl) (hk : X.N[k]? = some z := by rfl) (hij : i ≠ j := by decide) (hik : i ≠ k := by decide) (hjk : j ≠ k := by decide)
    (hx : X.env.scope.names.lookup x = some .local := by rfl) (hy : X.env.scope.names.lookup y = some .local := by rfl) (hz : X.env.scope.names.lookup z = some .local := by rfl)
    (hw : swappedStores [.Tuple [.Name x px, .Name y py, .Name z pz] kt pt] (.Tuple [a, b, d] k2 pt2) X.env = pure (some [x, y, z]) := by rfl)
    (hs : swapsWithSole [.Tuple [.Name x px, .Name y py, .Name z pz] kt pt] (.Tuple [a, b, d] k2 pt2) pos.line X.env = pure false := by rfl) :
    DS X (.Assign [.Tuple [.Name x px, .Name y py, .Name z pz] kt pt] (.Tuple [a, b, d] k2 pt2) pos) (wPar3 i j k wA) := by
  refine ⟨PS.imp (ps_par3 hc hN hi hj hk hij hik hjk hx hy hz ha.pe hw hs) fun D σ H ⟨g, cs, env, s, l, h⟩ => lowA.go ha.mo s l h fun ds cs1 g1 H1 vs h1 e1 s1 r1 => ?_, fun E E' env cs h q => ha.mo env cs _ _ (fun ds cs' q => ?_) q⟩
  · match ds, h1, r1 with
    | [d, e, f], h1, r1 =>
      obtain ⟨v, r, ev, q1, v2, r', ev2, q2, v3, r'', ev3, q3, q4⟩ := r1
      have q4' : r'' = [] := q4
      subst ev ev2 ev3 q4'
      exact ⟨v, v2, v3, rfl, h1 g1 H1 _ e1 s1 ((((l.mono e1).set q1).set q2).set q3)⟩
  · match ds, q with
    | [d, e, f], q => exact h.nx _ _ q
/-! ### patterns -/
inductive Pat where
  | nm (i : Nat) | tp (ps : List Pat)
mutual
def gOf (K : PySem.W.Frag) : Pat → TG
  | .nm i => gName i
  | .tp ps => fun v σ H Q => ∃ a xs, v = .ref a ∧ (SqT K H a xs ∨ SqL K H a xs) ∧ xs.length = ps.length ∧ gsOf K ps xs σ H Q
def gsOf (K : PySem.W.Frag) : List Pat → TGs
  | [] => gNil
  | p :: ps => gCons (gOf K p) (gsOf K ps)
end
/-! what a pattern stores -/
mutual
def patSet (cs : Sto) : Pat → D → En → Option En
  | .nm i, d, env => some (env.set i (some d))
  | .tp ps, d, env => match seqOf cs d with
    | some ds => if ds.length = ps.length then patSets cs ps ds env else none
    | none => none
def patSets (cs : Sto) : List Pat → List D → En → Option En
  | [], _, env => some env
  | p :: ps, d :: ds, env => match patSet cs p d env with
    | some env' => patSets cs ps ds env'
    | none => none
  | _ :: _, [], _ => none
end
mutual
def slots : Pat → List Nat
  | .nm i => [i]
  | .tp ps => slotsAll ps
def slotsAll : List Pat → List Nat
  | [] => []
  | p :: ps => slots p ++ slotsAll ps
end
structure DG (X : Cx) (tg : Expr) (p : Pat) : Prop where
  pg : PG X tg (gOf X.K p)
structure DGs (X : Cx) (tg : List Expr) (ps : List Pat) : Prop where
  pg : PGs X tg (gsOf X.K ps)
theorem dg_nm (i : Nat) {x : Str} (hN : X.N.Nodup) (hi : X.N[i]? = some x := by rfl) (hx : Loc X.env.scope x := by first | exact Or.inl rfl | exact Or.inr rfl) (hf : X.fn x = true ∨ X.env.scope.names.lookup x = some .local := by first | exact .inl rfl | exact .inr rfl | assumption) : DG X (.Name x pos) (.nm i) := ⟨pg_name hN hi hx hf⟩
theorem dgs_nil : DGs X [] [] := ⟨pgs_nil⟩
theorem dgs_cons {e : Expr} {es : List Expr} {p : Pat} {ps : List Pat} (h1 : DG X e p) (h2 : DGs X es ps) (hs : (assignEach (e :: es) X.env).map (·.2) = assign e X.env :: (assignEach es X.env).map (·.2) := by rfl) : DGs X (e :: es) (p :: ps) := ⟨pgs_cons h1.pg h2.pg hs⟩
theorem dg_tp {es : List Expr} {k : Nat} {ps : List Pat} (hc : X.calm = true) (h : DGs X es ps) (hn : (assignEach es X.env).length = ps.length := by rfl) (hst : (assignEach es X.env).findIdx? (·.1) = none := by rfl) : DG X (.Tuple es k pos) (.tp ps) := by
  refine ⟨⟨fun pins s σ H v u Q I r hw => ?_⟩⟩
  obtain ⟨a, xs, e1, hq, hl, hw⟩ := hw
  rcases hq with hq | hq
  · exact (pg_tup (n := ps.length) hc h.pg hn hst).run pins s σ H v u Q I r ⟨a, xs, e1, hq, hl, hw⟩
  · exact (pg_unl (n := ps.length) hc h.pg hn hst).run pins s σ H v u Q I r ⟨a, xs, e1, hq, hl, hw⟩
theorem wipe_set (σ : L2.St) (i : Nat) (x : Option V) : ∀ {vs : List Nat}, i ∈ vs → wipe (σ.set i x) vs = wipe σ vs
  | [], h => by cases h
  | v :: vs, h => by
    unfold wipe
    by_cases hv : i ∈ vs
    · rw [wipe_set σ i x hv]
    · have e : i = v := by
        rcases List.mem_cons.mp h with e | e
        · exact e
        · exact absurd e hv
      subst e
      have c : ∀ us : List Nat, i ∉ us → wipe (σ.set i x) us = (wipe σ us).set i x := by
        intro us
        induction us with
        | nil => intro _; rfl
        | cons k ks ih =>
          intro hk
          unfold wipe
          rw [ih (fun z => hk (List.mem_cons_of_mem _ z))]
          rw [List.set_comm _ _ (fun z => hk (by rw [z]; exact List.mem_cons_self))]
      rw [c vs hv, List.set_set]
section
variable {K : PySem.W.Frag} {g : G} {cs : Sto} {H : Hp}
mutual
theorem gOf_ok (s : Sr K g cs H) : ∀ (p : Pat) (d : D) (v : V) (env env' : En) (σ : L2.St) (Q : L2.St → Hp → Prop), Rep K g d v → Lr K g env σ → patSet cs p d env = some env' →
    (∀ σ', Lr K g env' σ' → (∀ vs, (∀ i ∈ slots p, i ∈ vs) → wipe σ' vs = wipe σ vs) → Q σ' H) → gOf K p v σ H Q
  | .nm i, d, v, env, env', σ, Q, r, l, h, k => by
    simp only [patSet, Option.some.injEq] at h
    subst h
    exact k _ (l.set r) fun vs hv => wipe_set σ i _ (hv i (by simp [slots]))
  | .tp ps, d, v, env, env', σ, Q, r, l, h, k => by
    unfold patSet at h
    cases e : seqOf cs d with
    | none => rw [e] at h; cases h
    | some ds =>
      rw [e] at h
      simp only at h
      split at h
      · rename_i hl
        obtain ⟨a, vs, e1, h1, h2⟩ := seq_of s e r
        refine ⟨a, vs, e1, ?_, by rw [← h2.length]; exact hl, gsOf_ok s ps ds vs env env' σ Q h2 hl l h fun σ' l' hw => k σ' l' fun us hu => hw us (by simpa [slots] using hu)⟩
        rcases h1 with h1 | h1
        · exact .inr h1
        · exact .inl h1
      · cases h
theorem gsOf_ok (s : Sr K g cs H) : ∀ (ps : List Pat) (ds : List D) (vs : List V) (env env' : En) (σ : L2.St) (Q : L2.St → Hp → Prop), RepL K g ds vs → ds.length = ps.length → Lr K g env σ → patSets cs ps ds env = some env' →
    (∀ σ', Lr K g env' σ' → (∀ us, (∀ i ∈ slotsAll ps, i ∈ us) → wipe σ' us = wipe σ us) → Q σ' H) → gsOf K ps vs σ H Q
  | [], ds, vs, env, env', σ, Q, r, hl, l, h, k => by
    have e : ds = [] := by cases ds <;> simp_all
    subst e
    have e2 : vs = [] := r
    subst e2
    simp only [patSets, Option.some.injEq] at h
    subst h
    exact ⟨rfl, k σ l fun _ _ => rfl⟩
  | p :: ps, [], vs, env, env', σ, Q, r, hl, l, h, k => by simp at hl
  | p :: ps, d :: ds, vs, env, env', σ, Q, r, hl, l, h, k => by
    obtain ⟨v, vr, e1, q1, q2⟩ := r
    subst e1
    unfold patSets at h
    cases e : patSet cs p d env with
    | none => rw [e] at h; cases h
    | some env1 =>
      rw [e] at h
      simp only at h
      refine ⟨v, vr, rfl, gOf_ok s p d v env env1 σ _ q1 l e fun σ1 l1 hw1 => ?_⟩
      exact gsOf_ok s ps ds vr env1 env' σ1 Q q2 (by simpa using hl) l1 h fun σ2 l2 hw2 => k σ2 l2 fun us hu => by
        rw [hw2 us (fun i hi => hu i (by simp [slotsAll, hi])), hw1 us (fun i hi => hu i (by simp [slotsAll, hi]))]
end
end
def wPat (p : Pat) (we : WE) : WS := fun E env cs => we env cs fun d cs' => match patSet cs' p d env with
  | some env' => E.nx env' cs'
  | none => False
theorem ds_pat {tg : Expr} {p : Pat} (hg : DG X tg p) (he : DE X a wa) (hs : swapsWithSole [tg] a pos.line X.env = pure false := by rfl) (hw : swappedStores [tg] a X.env = pure none := by rfl)
    (h1 : (assignEach [tg] X.env).map (·.2) = [assign tg X.env] := by rfl) : DS X (.Assign [tg] a pos) (wPat p wa) := by
  refine ⟨PS.imp (ps_asg he.pe hg.pg hs hw h1) fun D σ H ⟨g, cs, env, s, l, h⟩ => lowE.go he.mo s l h fun d cs1 g1 H1 v1 h1 e1 s1 r1 => ?_, fun E E' env cs h q => he.mo env cs _ _ (fun d cs' q => ?_) q⟩
  · split at h1
    · rename_i env' hp
      exact gOf_ok s1 p d v1 env env' σ _ r1 (l.mono e1) hp fun σ' l' _ => h1 g1 H1 σ' e1 s1 l'
    · exact h1.elim
  · split at q
    · exact h.nx _ _ q
    · exact q.elim
/-! ### x op= e -/
def wAug (i : Nat) (o : O2) (we : WE) : WS := fun E env cs => match env[i]? with
  | some (some x) => we env cs fun d cs1 => o x d cs1 fun z cs2 => E.nx (env.set i (some z)) cs2
  | _ => False
theorem ds_aug {i : Nat} {x : Str} {op : Operator} {o : O2} {pos' : Pos} (hN : X.N.Nodup) (ho : OpD X (inplaceOp op) o) (he : DE X a wa) (hi : X.N[i]? = some x := by rfl) (hx : Loc X.env.scope x := by first | exact Or.inl rfl | exact Or.inr rfl) (hf : X.fn x = true ∨ X.env.scope.names.lookup x = some .local := by first | exact .inl rfl | exact .inr rfl | assumption) :
    DS X (.AugAssign (.Name x pos') op a pos) (wAug i o wa) := by
  refine ⟨PS.imp (ps_aug hN hi hx he.pe (ti := lowO X.K o) (fun pins s σ H x y v u Q I r1 r2 h => ho.op pins s σ H x y v u Q I r1 r2 h) hf) fun D σ H ⟨g, cs, env, s, l, h⟩ => ?_, fun E E' env cs h q => ?_⟩
  · unfold wAug at h
    split at h
    · rename_i d e
      obtain ⟨v, q1, q2⟩ := l.ok i d e
      refine ⟨v, q1, lowE.go he.mo s l h fun d1 cs1 g1 H1 v1 h1 e1 s1 r1 => ⟨g1, cs1, d, d1, s1, q2.mono e1, r1, ho.mo _ _ _ _ _ (fun z cs2 q g2 H2 v2 e2 s2 r2 => ?_) h1⟩⟩
      exact q g2 H2 _ (e1.trans e2) s2 ((l.mono (e1.trans e2)).set r2)
    · exact h.elim
  · unfold wAug at q ⊢
    split at q
    · exact he.mo env cs _ _ (fun d cs1 q => ho.mo _ _ _ _ _ (fun z cs2 q => h.nx _ _ q) q) q
    · exact q
/-! ### what is walked -/
abbrev WI := En → Sto → (List D → (Sto → Prop) → Sto → Prop) → Prop
/-- J goes through ds, while what is known stays -/
def ItD (K : PySem.W.Frag) (g : G) (W : Sto → Prop) (J : It) (ds : List D) : Prop :=
  ∀ g' cs H, Sub g g' → Sr K g' cs H → W cs → (∀ i, ds.length ≤ i → J.stop i H) ∧
    ∀ i d, ds[i]? = some d → J.go i H ∧ ∀ x H', J.yld i H x H' → ∃ g2, Ext g' g2 ∧ Sr K g2 cs H' ∧ Rep K g2 d x
def lowI (K : PySem.W.Frag) (w : WI) : TI := fun σ H R => ∃ g cs env, Sr K g cs H ∧ Lr K g env σ ∧ w env cs fun ds W cs1 => ∀ g' H' J, Ext g g' → Sr K g' cs1 H' → ItD K g' W J ds → R J H'
abbrev MonoI (w : WI) : Prop := ∀ env cs Q Q', (∀ ds W cs, Q ds W cs → Q' ds W cs) → w env cs Q → w env cs Q'
structure DI (X : Cx) (tg e : Expr) (w : WI) : Prop where
  pe : PI X tg e (lowI X.K w)
  mo : MonoI w
section
variable {K : PySem.W.Frag}
theorem lowI.go {w : WI} (m : MonoI w) {g : G} {cs : Sto} {H : Hp} {env : En} {σ : L2.St} {P : List D → (Sto → Prop) → Sto → Prop} {R : It → Hp → Prop} (s : Sr K g cs H) (l : Lr K g env σ) (h : w env cs P)
    (k : ∀ ds W cs' g' H' J, P ds W cs' → Ext g g' → Sr K g' cs' H' → ItD K g' W J ds → R J H') : lowI K w σ H R :=
  ⟨g, cs, env, s, l, m env cs P _ (fun ds W cs' p g' H' J e s' i => k ds W cs' g' H' J p e s' i) h⟩
theorem itd_list {g : G} {W : Sto → Prop} {a : Addr} {ds : List D} {vs : List V} (h : g.Z a = some (.lst vs)) (r : RepL K g ds vs) : ItD K g W (Itl K a) ds := by
  intro g' cs' H e s _
  have h' : SqL K H a vs := .of (s.le _ _ (e.z _ _ h))
  refine ⟨fun i hi => ⟨vs, h', by rw [← r.length]; exact hi⟩, fun i d hd => ?_⟩
  obtain ⟨v, q1, q2⟩ := r.get hd
  refine ⟨⟨vs, v, h', q1⟩, fun x H' ⟨e1, q⟩ => ?_⟩
  subst e1
  have := q vs h'
  rw [q1] at this
  cases this
  exact ⟨g', Ext.refl _, s, Rep.sub e _ _ q2⟩
theorem itd_tup {g : G} {W : Sto → Prop} {a : Addr} {ds : List D} {vs : List V} (h : SqT K g.Z a vs) (r : RepL K g ds vs) : ItD K g W (Itt K a) ds := by
  intro g' cs' H e s _
  have h' : SqT K H a vs := sqT_mono s.le (sqT_mono e.z h)
  refine ⟨fun i hi => ⟨vs, h', by rw [← r.length]; exact hi⟩, fun i d hd => ?_⟩
  obtain ⟨v, q1, q2⟩ := r.get hd
  refine ⟨⟨vs, v, h', q1⟩, fun x H' ⟨e1, q⟩ => ?_⟩
  subst e1
  have := q vs h'
  rw [q1] at this
  cases this
  exact ⟨g', Ext.refl _, s, Rep.sub e _ _ q2⟩
/-- a changing list, as long as it stands as it is -/
theorem itd_cell {g : G} {n : Nat} {a : Addr} {ds : List D} (h : g.as[n]? = some a) : ItD K g (fun cs => cs[n]? = some (.lst ds)) (Itl K a) ds := by
  intro g' cs' H e s hw
  obtain ⟨vs, q1, r, q3⟩ := s.ok n a _ (e.at h) hw
  have h' : SqL K H a vs := .of q1
  refine ⟨fun i hi => ⟨vs, h', by rw [← r.length]; exact hi⟩, fun i d hd => ?_⟩
  obtain ⟨v, k1, k2⟩ := r.get hd
  refine ⟨⟨vs, v, h', k1⟩, fun x H' ⟨e1, q⟩ => ?_⟩
  subst e1
  have := q vs h'
  rw [k1] at this
  cases this
  exact ⟨g', Ext.refl _, s, k2⟩
def rngD (lo : Int) (n : Nat) : List D := (List.range n).map fun i => D.int (lo + (i : Nat))
theorem itd_range {g : G} {W : Sto → Prop} {lo : Int} {n : Nat} : ItD K g W (Itr lo n) (rngD lo n) := by
  intro g' cs' H e s _
  refine ⟨fun i hi => (show n ≤ i by simpa [rngD] using hi), fun i d hd => ?_⟩
  have hi : i < n := by
    have := (List.getElem?_eq_some_iff.mp hd).1
    simpa [rngD] using this
  have hd' : d = D.int (lo + (i : Nat)) := by
    have h2 : (rngD lo n)[i]? = some (D.int (lo + (i : Nat))) := by simp [rngD, hi]
    rw [h2] at hd
    cases hd
    rfl
  subst hd'
  refine ⟨hi, fun x H' ⟨e1, e2⟩ => ?_⟩
  subst e1 e2
  exact ⟨g', Ext.refl _, s, rfl⟩
end
/-- a list, a tuple that stays -/
def wAll : Sto → Prop := fun _ => True
def wCl (n : Nat) (ds : List D) : Sto → Prop := fun cs => cs[n]? = some (.lst ds)
def wSeqI (we : WE) : WI := fun env cs Q => we env cs fun d cs' => match d with
  | .lst ds => Q ds wAll cs'
  | .tup ds => Q ds wAll cs'
  | .cell n => ∃ ds, cs'[n]? = some (.lst ds) ∧ Q ds (wCl n ds) cs'
  | _ => False
theorem di_seq {tg : Expr} (he : DE X a wa) : DI X tg a (wSeqI wa) := by
  refine ⟨⟨fun pins s σ H R I h => ?_⟩, fun env cs Q Q' hq q => he.mo env cs _ _ (fun d cs' q => ?_) q⟩
  · obtain ⟨g, cs, env, sr, l, h⟩ := h
    -- the iterator of a list at p, of a tuple at p
    have goL : ∀ {s1 : Shared} {H1 : Hp} {p : Addr} {vs : List V}, Inv X pins σ H1 s1 → SqL X.K H1 p vs → R (Itl X.K p) H1 → wpAny (model X.prog X.w) X.A (pyIter (.ref p)) (PIE X pins σ tg R) X.xe s1 := fun {s1 H1 p vs} I1 hq hR => by
      obtain ⟨its, rv, pq, hz⟩ := I1.list hq
      refine wpAny_pyIter_list pq.isList ⟨_, [s1.heap.objs.size], _, _, H1, rfl, I1.kept (t' := s1.toks) fun b o e => Heap.get?_push_of_some _ e, turn_list p _, ⟨_, Heap.get?_push_size _ rfl, rfl, rfl⟩, fun b hb => ?_, hR⟩
      rw [List.mem_singleton.mp hb]
      exact I1.fpOk (Nat.le_refl _) (I1.hok.fresh (Nat.le_refl _))
    have goT : ∀ {s1 : Shared} {H1 : Hp} {p : Addr} {vs : List V}, Inv X pins σ H1 s1 → SqT X.K H1 p vs → R (Itt X.K p) H1 → wpAny (model X.prog X.w) X.A (pyIter (.ref p)) (PIE X pins σ tg R) X.xe s1 := fun {s1 H1 p vs} I1 hq hR => by
      obtain ⟨its, rv, pq, hz⟩ := I1.tuple hq
      refine wpAny_pyIter_tuple (show s1.heap.IsTuple p its.toArray from pq) ⟨_, [s1.heap.objs.size], _, _, H1, rfl, I1.kept (t' := s1.toks) fun b o e => Heap.get?_push_of_some _ e, turn_tuple p _, ⟨_, Heap.get?_push_size _ rfl, rfl, rfl⟩, fun b hb => ?_, hR⟩
      rw [List.mem_singleton.mp hb]
      exact I1.fpOk (Nat.le_refl _) (I1.hok.fresh (Nat.le_refl _))
    refine thn (he.pe.run pins s σ H (fun v H' => ∃ g' cs' d, Ext g g' ∧ Sr X.K g' cs' H' ∧ Rep X.K g' d v ∧ (match d with
        | .lst ds => (∀ g2 H2 J, Ext g g2 → Sr X.K g2 cs' H2 → ItD X.K g2 wAll J ds → R J H2)
        | .tup ds => (∀ g2 H2 J, Ext g g2 → Sr X.K g2 cs' H2 → ItD X.K g2 wAll J ds → R J H2)
        | .cell n => ∃ ds, cs'[n]? = some (.lst ds) ∧ (∀ g2 H2 J, Ext g g2 → Sr X.K g2 cs' H2 → ItD X.K g2 (wCl n ds) J ds → R J H2)
        | _ => False)) I
      (lowE.go he.mo sr l h fun d cs1 g1 H1 v1 h1 e1 s1 r1 => ⟨g1, cs1, d, e1, s1, r1, h1⟩)) fun u s1 ⟨v, H1, I1, r1, g1, cs1, d, e1, sr1, rd, h1⟩ => ?_
    cases d with
    | lst ds =>
      obtain ⟨p, vs, ev, q1, q2⟩ := rd
      subst ev
      cases (show u = Value.ref p from r1)
      exact goL I1 (.of (sr1.le _ _ q1)) (h1 g1 H1 _ e1 sr1 (itd_list q1 q2))
    | tup ds =>
      obtain ⟨p, vs, ev, q1, q2⟩ := rd
      subst ev
      cases (show u = Value.ref p from r1)
      exact goT I1 (sqT_mono sr1.le q1) (h1 g1 H1 _ e1 sr1 (itd_tup q1 q2))
    | cell n =>
      obtain ⟨p, ev, q1⟩ := rd
      subst ev
      cases (show u = Value.ref p from r1)
      obtain ⟨ds, hc, h1⟩ := h1
      obtain ⟨vs, k1, k2, k3⟩ := sr1.ok n p _ q1 hc
      exact goL I1 (.of k1) (h1 g1 H1 _ e1 sr1 (itd_cell q1))
    | _ => exact h1.elim
  · cases d <;> first | exact hq _ _ _ q | exact q | (obtain ⟨ds, hc, q⟩ := q; exact ⟨ds, hc, hq _ _ _ q⟩)
def wRng1 (w : WA) : WI := fun env cs Q => w env cs fun ds cs' => ∃ j : Int, ds = [.int j] ∧ -(2 ^ 62) ≤ j ∧ j < 2 ^ 62 ∧ Q (rngD 0 j.toNat) wAll cs'
def wRng2 (w : WA) : WI := fun env cs Q => w env cs fun ds cs' => ∃ i j : Int, ds = [.int i, .int j] ∧ (-(2 ^ 62) ≤ i ∧ i < 2 ^ 62 ∧ -(2 ^ 62) ≤ j ∧ j < 2 ^ 62) ∧ Q (rngD i (j - i).toNat) wAll cs'
theorem di_range1 {tg : Expr} {wA : WA} {p : Pos} (hm : X.mg "range" = none) (ha : DA X [a] wA) (hg : Gl X "range" := by rfl) (hs : starEach [a] X.env = [(false, eval a X.env)] := by rfl) : DI X tg (.Call (.Name "range" p) [a] [] pos) (wRng1 wA) := by
  refine ⟨⟨fun pins s σ H R I h => (pi_range1 hg hm ha.pe hs).run pins s σ H R I ?_⟩, fun env cs Q Q' hq q => ha.mo env cs _ _ (fun ds cs' ⟨j, q1, q2, q3, q4⟩ => ⟨j, q1, q2, q3, hq _ _ _ q4⟩) q⟩
  obtain ⟨g, cs, env, sr, l, h⟩ := h
  refine lowA.go ha.mo sr l h fun ds cs1 g1 H1 vs ⟨j, q1, q2, q3, q4⟩ e1 s1 r1 => ⟨j, ?_, q2, q3, q4 g1 H1 _ e1 s1 itd_range⟩
  subst q1
  exact RepL.ints (ns := [j]) r1
theorem di_range2 {tg : Expr} {wA : WA} {p : Pos} (hm : X.mg "range" = none) (ha : DA X [a, b] wA) (hg : Gl X "range" := by rfl) (hs : starEach [a, b] X.env = [(false, eval a X.env), (false, eval b X.env)] := by rfl) (hs2 : starEach [b] X.env = [(false, eval b X.env)] := by rfl) : DI X tg (.Call (.Name "range" p) [a, b] [] pos) (wRng2 wA) := by
  refine ⟨⟨fun pins s σ H R I h => (pi_range2 hg hm ha.pe hs hs2).run pins s σ H R I ?_⟩, fun env cs Q Q' hq q => ha.mo env cs _ _ (fun ds cs' ⟨i, j, q1, q2, q4⟩ => ⟨i, j, q1, q2, hq _ _ _ q4⟩) q⟩
  obtain ⟨g, cs, env, sr, l, h⟩ := h
  refine lowA.go ha.mo sr l h fun ds cs1 g1 H1 vs ⟨i, j, q1, q2, q4⟩ e1 s1 r1 => ⟨i, j, ?_, q2, q4 g1 H1 _ e1 s1 itd_range⟩
  subst q1
  exact RepL.ints (ns := [i, j]) r1
/-! ### for -/
/-- W: what must hold at each turn, and at the end -/
def floop (p : Pat) (wb : WS) (E : DN) (W : Sto → Prop) : List D → En → Sto → Prop
  | [], env, cs => W cs ∧ E.nx env cs
  | d :: ds, env, cs => W cs ∧ match patSet cs p d env with
    | some env' => wb { E with nx := floop p wb E W ds, ct := floop p wb E W ds, bk := E.nx } env' cs
    | none => False
theorem floop.mo {p : Pat} {wb : WS} {W : Sto → Prop} (hb : MonoS wb) {E E' : DN} (h : DN.le E E') : ∀ (ds : List D) (env : En) (cs : Sto), floop p wb E W ds env cs → floop p wb E' W ds env cs
  | [], env, cs, q => ⟨q.1, h.nx _ _ q.2⟩
  | d :: ds, env, cs, q => by
    unfold floop at q ⊢
    obtain ⟨q0, q⟩ := q
    refine ⟨q0, ?_⟩
    split at q
    · exact hb { E with nx := floop p wb E W ds, ct := floop p wb E W ds, bk := E.nx } { E' with nx := floop p wb E' W ds, ct := floop p wb E' W ds, bk := E'.nx } _ _ ⟨fun env cs q => floop.mo hb h ds env cs q, h.rt, h.nx, fun env cs q => floop.mo hb h ds env cs q⟩ q
    · exact q
def wFor (wi : WI) (p : Pat) (wb : WS) : WS := fun E env cs => wi env cs fun ds W cs1 => floop p wb E W ds env cs1
theorem ds_for {tg : Expr} {body : List Stmt} {wi : WI} {p : Pat} {wb : WS} (hp : PassesOwn (model X.prog X.w) X.A X.env X.xe) (hc : X.calm = true) (hi : DI X tg a wi) (hg : DG X tg p) (hb : DSs X body wb)
    (hs : ∀ x, foldedSetIterable a X.env x = pure x := by intro _; rfl) : DS X (.For tg a body [] pos) (wFor wi p wb) := by
  refine ⟨PS.imp (ps_for hp hc hi.pe hg.pg hb.pe hs) fun D σ H ⟨g, cs, env, s, l, h⟩ => lowI.go hi.mo s l h fun ds W cs1 g1 H1 J h1 e1 s1 hJ => ?_, fun E E' env cs h q => hi.mo env cs _ _ (fun ds W cs1 q => floop.mo hb.mo h ds env cs1 q) q⟩
  refine ⟨fun i m σ H => m = ds.length - i ∧ i ≤ ds.length ∧ ∃ g2 cs2 env2, Ext g1 g2 ∧ Sr X.K g2 cs2 H ∧ Lr X.K g2 env2 σ ∧ floop p wb (upN X.K g D) W (ds.drop i) env2 cs2,
    ⟨ds.length, by simp, Nat.zero_le _, g1, cs1, env, Ext.refl _, s1, l.mono e1, by simpa using h1⟩, ?_⟩
  rintro i m σ2 H2 ⟨rfl, hi', g2, cs2, env2, e2, s2, l2, hf⟩
  by_cases hlt : i < ds.length
  · rw [List.drop_eq_getElem_cons hlt] at hf
    unfold floop at hf
    obtain ⟨hw, hf⟩ := hf
    obtain ⟨stop, go⟩ := hJ g2 cs2 H2 e2.sub s2 hw
    obtain ⟨hgo, hy⟩ := go i ds[i] (by simp [hlt])
    refine .inr ⟨hgo, fun σ' H' => ∃ g3 cs3 env3, Ext g1 g3 ∧ Sr X.K g3 cs3 H' ∧ Lr X.K g3 env3 σ' ∧ floop p wb (upN X.K g D) W (ds.drop (i + 1)) env3 cs3,
      fun σ' H' ⟨g3, cs3, env3, e3, s3, l3, q3⟩ => ⟨ds.length - (i + 1), by omega, rfl, hlt, g3, cs3, env3, e3, s3, l3, q3⟩, fun x H' y => ?_⟩
    obtain ⟨g3, e3, s3, r3⟩ := hy x H' y
    split at hf
    · rename_i env' hp'
      refine gOf_ok s3 p _ x env2 env' σ2 _ r3 (l2.mono e3) hp' fun σ' l' _ => lowS.go hb.mo s3 l' hf ⟨?_, ?_, ?_, ?_⟩
      · intro env4 cs4 q g4 H4 σ4 e4 s4 l4
        exact ⟨g4, cs4, env4, (e2.trans e3).trans e4, s4, l4, q⟩
      · exact fun _ _ q => upV.mono ((e1.trans e2).trans e3) q
      · exact fun _ _ q => upE.mono ((e1.trans e2).trans e3) q
      · intro env4 cs4 q g4 H4 σ4 e4 s4 l4
        exact ⟨g4, cs4, env4, (e2.trans e3).trans e4, s4, l4, q⟩
    · exact hf.elim
  · have e : i = ds.length := by omega
    subst e
    rw [List.drop_length] at hf
    obtain ⟨hw, hf⟩ := hf
    obtain ⟨stop, go⟩ := hJ g2 cs2 H2 e2.sub s2 hw
    exact .inl ⟨stop _ (Nat.le_refl _), hf g2 H2 σ2 (e1.trans e2) s2 l2⟩
/-! ### while: some turns suffice -/
def wloop (t : WT) (wb : WS) (E : DN) : Nat → En → Sto → Prop
  | 0, _, _ => False
  | n + 1, env, cs => t env cs fun b cs1 => if b = true then wb { E with nx := wloop t wb E n, ct := wloop t wb E n, bk := E.nx } env cs1 else E.nx env cs1
theorem wloop.mo {t : WT} {wb : WS} (ht : MonoT t) (hb : MonoS wb) {E E' : DN} (h : DN.le E E') : ∀ (n : Nat) (env : En) (cs : Sto), wloop t wb E n env cs → wloop t wb E' n env cs
  | 0, env, cs, q => q
  | n + 1, env, cs, q => ht env cs _ _ (fun b cs1 q1 => ite_mono (fun q => hb { E with nx := wloop t wb E n, ct := wloop t wb E n, bk := E.nx } { E' with nx := wloop t wb E' n, ct := wloop t wb E' n, bk := E'.nx } _ _ ⟨fun env cs q => wloop.mo ht hb h n env cs q, h.rt, h.nx, fun env cs q => wloop.mo ht hb h n env cs q⟩ q) (fun q => h.nx _ _ q) q1) q
def wWhile (t : WT) (wb : WS) : WS := fun E env cs => ∃ n, wloop t wb E n env cs
theorem ds_while {body : List Stmt} {t : WT} {wb : WS} (hp : PassesOwn (model X.prog X.w) X.A X.env X.xe) (ht : DT X c t) (hb : DSs X body wb) : DS X (.While c body [] pos) (wWhile t wb) := by
  refine ⟨PS.imp (ps_while hp ht.pe hb.pe) fun D σ H ⟨g, cs, env, s, l, n, h⟩ => ?_, fun E E' env cs h ⟨n, q⟩ => ⟨n, wloop.mo ht.mo hb.mo h n env cs q⟩⟩
  refine ⟨fun m σ H => ∃ g2 cs2 env2, Ext g g2 ∧ Sr X.K g2 cs2 H ∧ Lr X.K g2 env2 σ ∧ wloop t wb (upN X.K g D) m env2 cs2, ⟨n, g, cs, env, Ext.refl _, s, l, h⟩, ?_⟩
  rintro m σ2 H2 ⟨g2, cs2, env2, e2, s2, l2, q⟩
  cases m with
  | zero => exact q.elim
  | succ m =>
    refine lowT.go ht.mo s2 l2 q fun b cs3 g3 H3 h3 e3 s3 => ite_mono (fun h3 => ?_) (fun h3 => ?_) h3
    · refine ⟨fun σ' H' => ∃ g4 cs4 env4, Ext g g4 ∧ Sr X.K g4 cs4 H' ∧ Lr X.K g4 env4 σ' ∧ wloop t wb (upN X.K g D) m env4 cs4, fun σ' H' q => ⟨m, Nat.lt_succ_self _, q⟩, lowS.go hb.mo s3 (l2.mono e3) h3 ⟨?_, ?_, ?_, ?_⟩⟩
      · intro env4 cs4 q g4 H4 σ4 e4 s4 l4
        exact ⟨g4, cs4, env4, (e2.trans e3).trans e4, s4, l4, q⟩
      · exact fun _ _ q => upV.mono (e2.trans e3) q
      · exact fun _ _ q => upE.mono (e2.trans e3) q
      · intro env4 cs4 q g4 H4 σ4 e4 s4 l4
        exact ⟨g4, cs4, env4, (e2.trans e3).trans e4, s4, l4, q⟩
    · exact h3 g3 H3 σ2 (e2.trans e3) s3 (l2.mono e3)
end
end DL

/-! DCalls: comprehensions, defs and their contracts, calls. -/
namespace DL
open PySem PySem.Spec L2
open PyProof.Rows (envOfC)

section
variable {X : Cx} {a b c : Expr} {wa wb wc : WE} {pos : Pos}
/-! ### comprehensions -/
structure DTs (X : Cx) (ifs : List Expr) (w : WT) : Prop where
  pe : PTs X ifs (lowT X.K w)
  mo : MonoT w
def wYes : WT := fun _ cs Q => Q true cs
theorem dts_nil : DTs X [] wYes := ⟨⟨fun pins s σ H Q I ⟨g, cs, env, sr, l, h⟩ => pts_nil.run pins s σ H Q I (h g H (Ext.refl g) sr)⟩, fun _ _ _ _ h q => h _ _ q⟩
theorem dts_one {t : WT} (h : DT X c t) : DTs X [c] t := ⟨pts_one h.pe, h.mo⟩
def wipeE (env : En) : List Nat → En
  | [] => env
  | v :: vs => (wipeE env vs).set v none
theorem Lr.wiped {K : PySem.W.Frag} {g : G} {env : En} {σ : L2.St} (l : Lr K g env σ) : ∀ vs : List Nat, Lr K g (wipeE env vs) (wipe σ vs)
  | [] => l
  | v :: vs => by
    have h := Lr.wiped l vs
    unfold wipeE L2.wipe
    refine ⟨by simp [h.len], fun i d e => ?_⟩
    by_cases hv : v = i
    · subst hv
      by_cases hl : v < (wipeE env vs).length
      · rw [List.getElem?_set_self hl] at e
        cases e
      · rw [List.getElem?_eq_none (by simpa using hl)] at e
        cases e
    · rw [List.getElem?_set_ne hv] at e
      obtain ⟨u, q1, q2⟩ := h.ok i d e
      exact ⟨u, by rw [List.getElem?_set_ne hv]; exact q1, q2⟩
theorem wipe_wipe (σ : L2.St) : ∀ {us vs : List Nat}, (∀ i ∈ us, i ∈ vs) → wipe (wipe σ us) vs = wipe σ vs
  | [], _, _ => rfl
  | u :: us, vs, h => by
    show wipe ((wipe σ us).set u none) vs = wipe σ vs
    rw [wipe_set _ _ _ (h u (by simp)), wipe_wipe σ (fun i hi => h i (List.mem_cons_of_mem _ hi))]
def lcloop (p : Pat) (tt : WT) (we : WE) (env : En) (W : Sto → Prop) (Q : PD) : List D → List D → Sto → Prop
  | [], acc, cs => W cs ∧ Q (.lst acc) cs
  | d :: ds, acc, cs => W cs ∧ match patSet cs p d env with
    | some env' => tt env' cs fun b cs2 => if b = true then we env' cs2 fun y cs3 => lcloop p tt we env W Q ds (acc ++ [y]) cs3 else lcloop p tt we env W Q ds acc cs2
    | none => False
theorem lcloop.mo {p : Pat} {tt : WT} {we : WE} {env : En} {W : Sto → Prop} {Q Q' : PD} (mt : MonoT tt) (me : MonoE we) (h : ∀ d cs, Q d cs → Q' d cs) : ∀ (ds acc : List D) (cs : Sto), lcloop p tt we env W Q ds acc cs → lcloop p tt we env W Q' ds acc cs
  | [], acc, cs, q => ⟨q.1, h _ _ q.2⟩
  | d :: ds, acc, cs, q => by
    unfold lcloop at q ⊢
    obtain ⟨q0, q⟩ := q
    refine ⟨q0, ?_⟩
    split at q
    · exact mt _ _ _ _ (fun b cs2 q => ite_mono (fun q => me _ _ _ _ (fun y cs3 q => lcloop.mo mt me h ds _ cs3 q) q) (fun q => lcloop.mo mt me h ds _ cs2 q) q) q
    · exact q
def wLc (wi : WI) (p : Pat) (tt : WT) (we : WE) (vs : List Nat) : WE := fun env cs Q => wi env cs fun ds W cs1 => ds.length ≤ sizeLine ∧ lcloop p tt we (wipeE env vs) W Q ds [] cs1
theorem wLc.mo {wi : WI} {p : Pat} {tt : WT} {we : WE} {vs : List Nat} (mi : MonoI wi) (mt : MonoT tt) (me : MonoE we) : MonoE (wLc wi p tt we vs) := fun env cs Q Q' h q =>
  mi env cs _ _ (fun ds W cs1 ⟨z, q⟩ => ⟨z, lcloop.mo mt me h ds [] cs1 q⟩) q
theorem low_lc {K : PySem.W.Frag} {wi : WI} {p : Pat} {tt : WT} {we : WE} {vs : List Nat} (mi : MonoI wi) (mt : MonoT tt) (me : MonoE we) (hsl : ∀ i ∈ slots p, i ∈ vs) {σ : L2.St} {H : Hp} {Q : VK}
    (h : lowE K (wLc wi p tt we vs) σ H Q) : tLc (lowI K wi) (gOf K p) (lowT K tt) (lowE K we) vs σ H Q := by
  obtain ⟨g, cs, env, s, l, h⟩ := h
  refine lowI.go mi s l h fun ds W cs1 g1 H1 J ⟨hz, h1⟩ e1 s1 hJ => ?_
  intro Dd hD
  refine ⟨fun i m H => m = ds.length - i ∧ i ≤ ds.length ∧ ∃ g2 cs2 acc vacc, Sub g1 g2 ∧ g2.rs = (Dd, .lst vacc) :: g1.rs ∧ Sr K g2 cs2 H ∧ RepL K g2 acc vacc ∧ acc.length ≤ i ∧ lcloop p tt we (wipeE env vs) W (upV K g Q) (ds.drop i) acc cs2,
    ⟨ds.length, by simp, Nat.zero_le _, g1.hold Dd (.lst []), cs1, [], [], ⟨fun _ _ h => h, ⟨[], by simp [G.hold]⟩⟩, rfl, s1.hold hD _, rfl, Nat.le_refl _, by simpa using h1⟩, ?_⟩
  rintro i m H2 ⟨rfl, hi', g2, cs2, acc, vacc, sb, er, s2, ra, hla, hf⟩
  by_cases hlt : i < ds.length
  · rw [List.drop_eq_getElem_cons hlt] at hf
    unfold lcloop at hf
    obtain ⟨hw, hf⟩ := hf
    obtain ⟨stop, go⟩ := hJ g2 cs2 H2 sb s2 hw
    obtain ⟨hgo, hy⟩ := go i ds[i] (by simp [hlt])
    refine .inr ⟨hgo, fun H' => ∃ g3 cs3 acc3 vacc3, Sub g1 g3 ∧ g3.rs = (Dd, .lst vacc3) :: g1.rs ∧ Sr K g3 cs3 H' ∧ RepL K g3 acc3 vacc3 ∧ acc3.length ≤ i + 1 ∧ lcloop p tt we (wipeE env vs) W (upV K g Q) (ds.drop (i + 1)) acc3 cs3,
      fun H' ⟨g3, cs3, acc3, vacc3, q⟩ => ⟨ds.length - (i + 1), by omega, rfl, hlt, g3, cs3, acc3, vacc3, q⟩, fun x H' y => ?_⟩
    obtain ⟨g3, e3, s3, r3⟩ := hy x H' y
    split at hf
    · rename_i env' hp'
      have lw : Lr K g3 (wipeE env vs) (wipe σ vs) := ⟨((l.mono e1).wiped vs).len, fun i d h => by
        obtain ⟨v, q1, q2⟩ := ((l.mono e1).wiped vs).ok i d h
        exact ⟨v, q1, Rep.sub e3.sub _ _ (Rep.sub sb _ _ q2)⟩⟩
      refine gOf_ok s3 p _ x (wipeE env vs) env' (wipe σ vs) _ r3 lw hp' fun σ' l' hwp => ⟨(hwp vs hsl).trans (wipe_wipe σ (fun i h => h)), ?_⟩
      refine lowT.go mt s3 l' hf fun b cs4 g4 H4 h4 e4 s4 => ?_
      have sb4 : Sub g1 g4 := ⟨fun a o h => e4.z _ _ (e3.z _ _ (sb.z a o h)), by
        obtain ⟨t, q⟩ := sb.a
        obtain ⟨t3, q3⟩ := e3.a
        obtain ⟨t4, q4⟩ := e4.a
        exact ⟨t ++ (t3 ++ t4), by rw [q4, q3, q]; simp⟩⟩
      have er4 : g4.rs = (Dd, .lst vacc) :: g1.rs := by rw [e4.r, e3.r, er]
      refine ite_mono (fun h4 => ?_) (fun h4 => ?_) h4
      · refine lowE.go me s4 (l'.mono e4) h4 fun y' cs5 g5 H5 v5 h5 e5 s5 r5 => ?_
        have er5 : g5.rs = (Dd, .lst vacc) :: g1.rs := by rw [e5.r, er4]
        obtain ⟨q1, q2, q3⟩ := s5.rs (Dd, .lst vacc) (by rw [er5]; exact List.mem_cons_self)
        have ra5 : RepL K g5 acc vacc := ((ra.mono e3).mono e4).mono e5
        have l5 : vacc.length = acc.length := ra.length.symm
        have sb5 : Sub g5 { g5 with rs := (Dd, .lst (vacc ++ [v5])) :: g1.rs } := ⟨fun _ _ h => h, ⟨[], by simp⟩⟩
        refine ⟨vacc, q1, by omega, { g5 with rs := (Dd, .lst (vacc ++ [v5])) :: g1.rs }, cs5, acc ++ [y'], vacc ++ [v5], ⟨fun a o h => e5.z _ _ (sb4.z a o h), ?_⟩, rfl, s5.rehold er5, (ra5.append (.cons r5 .nil)).sub' sb5, by simp; omega, h5⟩
        obtain ⟨t, q⟩ := sb4.a
        obtain ⟨t3, q3⟩ := e5.a
        exact ⟨t ++ t3, by show g5.as = _; rw [q3, q]; simp⟩
      · exact ⟨g4, cs4, acc, vacc, sb4, er4, s4, (ra.mono e3).mono e4, by omega, h4⟩
    · exact hf.elim
  · have e : i = ds.length := by omega
    subst e
    rw [List.drop_length] at hf
    obtain ⟨hw, hf⟩ := hf
    obtain ⟨stop, go⟩ := hJ g2 cs2 H2 sb s2 hw
    refine .inl ⟨stop _ (Nat.le_refl _), ?_⟩
    have s3 := s2.unhold er
    have e3 : Ext g1 { g2 with Z := upd g2.Z Dd (.lst vacc), rs := g1.rs } := by
      obtain ⟨q1, q2, q3⟩ := s2.rs (Dd, .lst vacc) (by rw [er]; exact List.mem_cons_self)
      refine ⟨fun a o h => ?_, sb.a, rfl⟩
      show upd g2.Z Dd _ a = some o
      rw [upd_ne (ne_of_none (sb.z a o h) q2)]
      exact sb.z a o h
    have sb3 : Sub g2 { g2 with Z := upd g2.Z Dd (.lst vacc), rs := g1.rs } := by
      obtain ⟨q1, q2, q3⟩ := s2.rs (Dd, .lst vacc) (by rw [er]; exact List.mem_cons_self)
      refine ⟨fun a o h => ?_, ⟨[], by simp⟩⟩
      show upd g2.Z Dd _ a = some o
      rw [upd_ne (ne_of_none h q2)]
      exact h
    exact hf _ H2 _ (e1.trans e3) s3 ⟨Dd, vacc, rfl, upd_same, ra.sub' sb3⟩
theorem de_lc {elt tg iter : Expr} {ifs : List Expr} {scope : Scope} {own : List (Str × Nat)} {wi : WI} {p : Pat} {tt : WT} {we : WE} (hc : X.calm = true) (hN : X.N.Nodup) (hi : DI X tg iter wi) (ok : BlkOk X.N X.env.scope scope own)
    (hg : ∀ (s : Shared) (H : Hp) (C : Addr) (cl : List (Str × Addr)) (fp : List Addr), DG (X.blk s H scope (compEnvC scope cl C X.env) fp) tg p) (ht : ∀ (s : Shared) (H : Hp) (C : Addr) (cl : List (Str × Addr)) (fp : List Addr), DTs (X.blk s H scope (compEnvC scope cl C X.env) fp) ifs tt)
    (he : ∀ (s : Shared) (H : Hp) (C : Addr) (cl : List (Str × Addr)) (fp : List Addr), DE (X.blk s H scope (compEnvC scope cl C X.env) fp) elt we) (hs : ∀ x, foldedSetIterable iter X.env x = pure x := by intro _; rfl) (hsl : ∀ i ∈ slots p, i ∈ own.map (·.2) := by decide) :
    DE X (.ListComp elt [⟨tg, iter, ifs, 0⟩] scope pos) (wLc wi p tt we (own.map (·.2))) := by
  have mt : MonoT tt := (ht {} (fun _ => none) 0 [] []).mo
  have me : MonoE we := (he {} (fun _ => none) 0 [] []).mo
  exact ⟨PE.imp (pe_lc (wi := lowI X.K wi) (g := gOf X.K p) (tt := lowT X.K tt) (te := lowE X.K we) hc hN hi.pe ok (fun s H C cl fp => (hg s H C cl fp).pg) (fun s H C cl fp => (ht s H C cl fp).pe) (fun s H C cl fp => (he s H C cl fp).pe) hs) fun σ H Q h => low_lc hi.mo mt me hsl h, wLc.mo hi.mo mt me⟩
theorem ds_setLc {i : Nat} {y : Str} {py : Pos} {spos : Pos} {elt tg iter : Expr} {ifs : List Expr} {scope : Scope} {own : List (Str × Nat)} {wi : WI} {p : Pat} {tt : WT} {we : WE} (hc : X.calm = true) (hN : X.N.Nodup)
    (hsw : swapsWith (.ListComp elt [⟨tg, iter, ifs, 0⟩] scope pos) (some (.Name y py)) spos.line X.env = pure true) (hi : DI X tg iter wi) (ok : BlkOk X.N X.env.scope scope own)
    (hg : ∀ (s : Shared) (H : Hp) (C : Addr) (cl : List (Str × Addr)) (fp : List Addr), DG (X.blk s H scope (compEnvC scope cl C X.env) fp) tg p) (ht : ∀ (s : Shared) (H : Hp) (C : Addr) (cl : List (Str × Addr)) (fp : List Addr), DTs (X.blk s H scope (compEnvC scope cl C X.env) fp) ifs tt)
    (he : ∀ (s : Shared) (H : Hp) (C : Addr) (cl : List (Str × Addr)) (fp : List Addr), DE (X.blk s H scope (compEnvC scope cl C X.env) fp) elt we) (hy : X.N[i]? = some y := by rfl) (hyl : X.env.scope.names.lookup y = some .local := by rfl) (hs : ∀ x, foldedSetIterable iter X.env x = pure x := by intro _; rfl) (hsl : ∀ i ∈ slots p, i ∈ own.map (·.2) := by decide) :
    DS X (.Assign [.Name y py] (.ListComp elt [⟨tg, iter, ifs, 0⟩] scope pos) spos) (wSet i (wLc wi p tt we (own.map (·.2)))) := by
  have mt : MonoT tt := (ht {} (fun _ => none) 0 [] []).mo
  have me : MonoE we := (he {} (fun _ => none) 0 [] []).mo
  refine ⟨PS.imp (ps_setLc (wi := lowI X.K wi) (g := gOf X.K p) (tt := lowT X.K tt) (te := lowE X.K we) hc hN hy hyl hsw hi.pe ok (fun s H C cl fp => (hg s H C cl fp).pg) (fun s H C cl fp => (ht s H C cl fp).pe) (fun s H C cl fp => (he s H C cl fp).pe) hs) fun D σ H h => ?_, wSet.mo (wLc.mo hi.mo mt me)⟩
  obtain ⟨g, cs, env, s, l, h⟩ := h
  refine low_lc hi.mo mt me hsl ⟨g, cs, env, s, l, wLc.mo hi.mo mt me _ _ _ _ (fun d cs1 q => ?_) h⟩
  exact fun g1 H1 v e1 s1 r1 => q g1 H1 _ e1 s1 ((l.mono e1).set r1)
end

/-! ### defs: room on the stack, and no display under way -/
structure RoomG (k : Nat) (A : Around) : Prop where
  r : Room k A
  gd : A.guards = some []
theorem RoomG.mono {j k : Nat} {A : Around} (h : RoomG k A) (l : j ≤ k) : RoomG j A := ⟨h.r.mono l, h.gd⟩
/-- a def keeps a promise, wherever no display is under way -/
structure FnG (P : Program) (w : World) (K : PySem.W.Frag) (mg : Str → Option Value) (base : Heap) (CX : CXT) (k : Nat) (f : Addr) (fd : FuncData) (ps : List Str) (sp : Sp) : Prop where
  len : ∀ vs H Q E, sp vs H Q E → vs.length = ps.length
  run : ∀ (A : Around) (outer : List PySem.Env) (s : Shared) (H : Hp) (args : Args) (us : List Value) (vs : List V) (Q : VK) (E : XK),
    RoomG k A → Env0 P w K mg base A outer s H → BindsTo s fd args (ps.zip us) → Vals vs us → sp vs H Q E → codeAny (model P w) A (.call (.ref f) args) (CR CX outer P w H s Q E) s
theorem FnG.mono {P : Program} {w : World} {K : PySem.W.Frag} {mg : Str → Option Value} {base : Heap} {CX : CXT} {j k : Nat} {f : Addr} {fd : FuncData} {ps : List Str} {sp : Sp} (F : FnG P w K mg base CX j f fd ps sp) (h : j ≤ k) : FnG P w K mg base CX k f fd ps sp :=
  ⟨F.len, fun A outer s H args us vs Q E hr e0 => F.run A outer s H args us vs Q E (hr.mono h) e0⟩
section
variable {P : Program} {w : World} {K : PySem.W.Frag} {mg : Str → Option Value} {base : Heap} {CX : CXT}
/-- by its body -/
theorem fnG_of {k : Nat} {f : Addr} {name qual : Str} {st : Stmt} {fd : FuncData} {N ps : List Str} {sp : Sp} (F : Fun K name qual st f fd) (S : FnScope N ps (defScope st)) (len : ∀ vs H Q E, sp vs H Q E → vs.length = ps.length)
    (hbody : ∀ (cdv : Value) (A : Around) (outer : List PySem.Env) (s : Shared) (H : Hp) (vs : List V) (Q : VK) (E : XK), RoomG k (A.deeper (envOfC qual (defScope st) s.heap.objs.size f cdv)) → sp vs H Q E →
      ∃ t, PSs (cxOf CX P w K mg base N qual (defScope st) f cdv A outer s H E) (defBody st) t ∧ t { nx := fun _ H' => Q .non H', rt := Q } (start N vs) H) : FnG P w K mg base CX (k + 1) f fd ps sp := by
  obtain ⟨oc, od, kV, doc, pm, an, cdv, ct, osl, rfl, lk, hcd⟩ := F.ex
  refine ⟨len, ?_⟩
  intro A outer s H args us vs Q E hr e0 hb r hsp
  have stays : ∀ b o, base.get? b = some o → s.heap.get? b = some o := fun b o e => (e0.bs b o e).1
  have KX : K.In s.heap := e0.mod.kin.keeps stays
  refine codeAny_call_function hr.r.depth (KX _ _ lk) rfl S.co S.gen rfl (PySem.W.codeRec_of KX hcd) (hb _ _ _ _ ?_)
  have kinds : ∀ y ∈ ps.zip us, (defScope st).names.lookup y.1 = some .local ∨ ((defScope st).names.lookup y.1 = some .cell ∧ ((cellsFrom (s.heap.objs.size + 1) (defScope st).names []).lookup y.1).isSome = true) := by
    intro y hy
    cases S.par y.1 (List.of_mem_zip hy).1 with
    | inl q => exact .inl q
    | inr q => exact .inr ⟨q, PySem.W.cellsFrom_some _ _ _ (.inl q)⟩
  refine wpAny_newFunctionEnv_cells S.kind kinds fun env he s1 x => ?_
  subst he
  refine ⟨(e0.mod.nolimit.keeps stays).keeps x.toInCall.keep, codeAny_func ?_⟩
  obtain ⟨t, ht, hq⟩ := hbody cdv A outer s H vs Q E ⟨hr.r.deeper _, hr.gd⟩ hsp
  refine wpAny_mono (ht.run [] s1 (start N vs) H _ (inv_start S hr.r.hd e0 (len _ _ _ _ hsp) r x) hq) ?_ (fun _ _ z => z)
  intro fl s' hs
  cases fl with
  | ret u => obtain ⟨v, σ', H', J, rv, q⟩ := hs; exact ⟨v, H', J.os, J.bare, J.base, J.hok, rv, q⟩
  | next => obtain ⟨σ', H', J, q⟩ := hs; exact ⟨.non, H', J.os, J.bare, J.base, J.hok, rfl, q⟩
  | brk => obtain ⟨_, _, _, q⟩ := hs; exact q.elim
  | cont => obtain ⟨_, _, _, q⟩ := hs; exact q.elim
variable {X : Cx}
/-- a call of it, however its arguments are bound -/
theorem run_G {k : Nat} {f : Addr} {fd : FuncData} {ps : List Str} {sp : Sp} {E : XK} {pins : List (Addr × Obj)} {σ : L2.St} {H : Hp} {s : Shared} {Q : VK} {us ws : List Value} {kw : List (Str × Value)} {vs : List V}
    (F : FnG X.prog X.w X.K X.mg X.base CX k f fd ps sp) (hr : RoomG k X.A) (hb : BindsTo s fd ⟨us, kw⟩ (ps.zip ws)) (hx : Passes CX X E) (I : Inv X pins σ H s) (r : Vals vs ws) (h : sp vs H Q E) : wpAny (model X.prog X.w) X.A (call (.ref f) us kw) (EP X pins σ Q) X.xe s := by
  refine wpAny_call (codeAny_mono (F.run X.A X.stack s H ⟨us, kw⟩ ws vs Q E hr I.env0 hb r h) ?_)
  intro res s' hq
  cases res with
  | error e => exact hx pins σ H s e s' I hq
  | ok fl =>
    cases fl with
    | ret u => exact I.after hq
    | next => exact hq.elim
    | brk => exact hq.elim
    | cont => exact hq.elim
theorem peG_call {k : Nat} {f : Addr} {fd : FuncData} {ps : List Str} {sp : Sp} {E : XK} {x : Str} {p pos : Pos} {e : Expr} {es : List Expr} {t : TA} (F : FnG X.prog X.w X.K X.mg X.base CX k f fd ps sp) (hr : RoomG k X.A) (hg : Gl X x) (hm : X.mg x = some (.ref f)) (hk : PySem.W.keepIn X.K (.ref f) = true) (hb : Binds X.K fd ps []) (hx : Passes CX X E)
    (ha : PA X (e :: es) t) (hdb : (x == ("__debug__" : Str)) = false := by decide) (he : starEach (e :: es) X.env = (false, eval e X.env) :: starEach es X.env := by rfl) (hpl : (backTo pos (starEach es X.env)).any (·.1) = false := by rfl) :
    PE X (.Call (.Name x p) (e :: es) [] pos) (tCall sp [] E t) := by
  refine ⟨fun pins s σ H Q I h => ?_⟩
  refine wpAny_Call_Name_kw (ld_glob I hg hm (PySem.W.callWith_K (h₀ := X.base) I.ok.mod.kin hk (thn (ha.run pos pins s σ H _ I h) fun us s1 ⟨vs, H1, I1, r, q⟩ => ⟨I1.kIn, ?_⟩) he hpl) hdb)
  have q' : sp vs H1 Q E := by simpa using q
  have hl : us.length = ps.length := r.length.symm.trans (F.len _ _ _ _ q')
  have hb' := hb s1 us I1.kIn (by simpa using hl)
  rw [List.append_nil] at hb'
  exact run_G F hr hb' hx I1 r q'
theorem peG_call0 {k : Nat} {f : Addr} {fd : FuncData} {ps : List Str} {sp : Sp} {E : XK} {x : Str} {p pos : Pos} (F : FnG X.prog X.w X.K X.mg X.base CX k f fd ps sp) (hr : RoomG k X.A) (hg : Gl X x) (hm : X.mg x = some (.ref f)) (hk : PySem.W.keepIn X.K (.ref f) = true) (hb : Binds X.K fd ps []) (hx : Passes CX X E)
    (hdb : (x == ("__debug__" : Str)) = false := by decide) : PE X (.Call (.Name x p) [] [] pos) (tCall sp [] E tNil) := by
  refine ⟨fun pins s σ H Q I h => ?_⟩
  refine wpAny_Call_Name_kw (ld_glob I hg hm (PySem.W.callWith_K0 I.kIn hk ?_) hdb)
  have q' : sp [] H Q E := h
  have hl : ([] : List Value).length = ps.length := F.len _ _ _ _ q'
  have hb' := hb s [] I.kIn (by simpa using hl)
  exact run_G F hr hb' hx I .nil q'
/-- how keywords bind: all values, positional ones first, taken in the order perm -/
def gP {α : Type} (perm : List Nat) (l : List α) : List α := perm.filterMap fun i => l[i]?
theorem gP_rel {vs : List V} {us : List Value} (r : Vals vs us) : ∀ perm : List Nat, Vals (gP perm vs) (gP perm us)
  | [] => .nil
  | i :: perm => by
    unfold gP
    rw [List.filterMap_cons, List.filterMap_cons]
    cases e : vs[i]? with
    | none =>
      rw [r.none_of e]
      exact gP_rel r perm
    | some v =>
      obtain ⟨u, h1, h2⟩ := r.get e
      rw [h1]
      exact .cons h2 (gP_rel r perm)
theorem gP_repl {g : G} {ds : List D} {vs : List V} (r : RepL K g ds vs) : ∀ perm : List Nat, RepL K g (gP perm ds) (gP perm vs)
  | [] => .nil
  | i :: perm => by
    unfold gP
    rw [List.filterMap_cons, List.filterMap_cons]
    cases e : ds[i]? with
    | none =>
      have h2 : vs[i]? = none := by
        rw [List.getElem?_eq_none_iff] at e ⊢
        rw [← r.length]
        exact e
      rw [h2]
      exact gP_repl r perm
    | some d =>
      obtain ⟨v, h1, h2⟩ := r.get e
      rw [h1]
      exact .cons h2 (gP_repl r perm)
/-- a call with n values and the keywords ks -/
def KwB (K : PySem.W.Frag) (fd : FuncData) (ps : List Str) (n : Nat) (ks : List Str) (perm : List Nat) : Prop :=
  ∀ (s : Shared) (us ws : List Value), K.In s.heap → us.length = n → ws.length = ks.length → BindsTo s fd ⟨us, ks.zip ws⟩ (ps.zip (gP perm (us ++ ws)))
theorem Fun.kwb {x qual : Str} {st : Stmt} {f : Addr} {fd : FuncData} {ps : List Str} (F : Fun K x qual st f fd) (n : Nat) (ks : List Str) (perm : List Nat)
    (h : ∀ (kV doc pm : Value) (an : Option Addr) (cdv ct : Value) (us ws : List Value), us.length = n → ws.length = ks.length → bindArgs (PySem.W.fnOf x qual (defArgs st) (defBody st) (defScope st) .none kV doc pm an cdv ct) ⟨us, ks.zip ws⟩ = pure (ps.zip (gP perm (us ++ ws)))) : KwB K fd ps n ks perm := by
  obtain ⟨oc, od, kV, doc, pm, an, cdv, ct, osl, rfl, lk, hcd⟩ := F.ex
  exact fun s us ws _ h1 h2 => .of_eq (h kV doc pm an cdv ct us ws h1 h2)
def tCallG (n m : Nat) (perm : List Nat) (sp : Sp) (E : XK) (t tk : TA) : TE := fun σ H Q => t σ H fun vs H1 => tk σ H1 fun zs H2 => vs.length = n ∧ zs.length = m ∧ sp (gP perm (vs ++ zs)) H2 Q E
theorem peG_callK {k n : Nat} {perm : List Nat} {f : Addr} {fd : FuncData} {ps ks : List Str} {sp : Sp} {E : XK} {x : Str} {p pos : Pos} {e : Expr} {es : List Expr} {kws : List Keyword} {t tk : TA} (F : FnG X.prog X.w X.K X.mg X.base CX k f fd ps sp) (hr : RoomG k X.A) (hg : Gl X x) (hm : X.mg x = some (.ref f)) (hk : PySem.W.keepIn X.K (.ref f) = true) (hb : KwB X.K fd ps n ks perm) (hx : Passes CX X E)
    (ha : PA X (e :: es) t) (hkw : PK X kws tk) (hall : (backToKw pos (keywordEach kws X.env)).all (·.1.isSome) = true := by rfl) (hks : (backToKw pos (keywordEach kws X.env)).filterMap (·.1) = ks := by rfl)
    (hdb : (x == ("__debug__" : Str)) = false := by decide) (he : starEach (e :: es) X.env = (false, eval e X.env) :: starEach es X.env := by rfl)
    (hpl : ((backTo pos (starEach (e :: es) X.env)).any (·.1) || (backToKw pos (keywordEach kws X.env)).any (·.1.isNone)) = false := by rfl) :
    PE X (.Call (.Name x p) (e :: es) kws pos) (tCallG n ks.length perm sp E t tk) := by
  refine ⟨fun pins s σ H Q I h => wpAny_Call_Name_kw (ld_glob I hg hm ?_ hdb)⟩
  refine PySem.W.callWith_KW (h₀ := X.base) I.ok.mod.kin hk hall (thn (ha.run pos pins s σ H _ I h) fun us s1 ⟨vs, H1, I1, r, q⟩ => thn (hkw.run pos pins s1 σ H1 _ I1 q) fun ws s2 ⟨zs, H2, I2, rz, l1, l2, q2⟩ => ⟨I2.kIn, ?_⟩) hpl he
  rw [hks]
  exact run_G F hr (hb s2 us ws I2.kIn (r.length.symm.trans l1) (rz.length.symm.trans l2)) hx I2 (gP_rel (r.append rz) perm) q2
theorem peG_callK0 {k : Nat} {perm : List Nat} {f : Addr} {fd : FuncData} {ps ks : List Str} {sp : Sp} {E : XK} {x : Str} {p pos : Pos} {kws : List Keyword} {tk : TA} (F : FnG X.prog X.w X.K X.mg X.base CX k f fd ps sp) (hr : RoomG k X.A) (hg : Gl X x) (hm : X.mg x = some (.ref f)) (hk : PySem.W.keepIn X.K (.ref f) = true) (hb : KwB X.K fd ps 0 ks perm) (hx : Passes CX X E)
    (hkw : PK X kws tk) (hall : (backToKw pos (keywordEach kws X.env)).all (·.1.isSome) = true := by rfl) (hks : (backToKw pos (keywordEach kws X.env)).filterMap (·.1) = ks := by rfl)
    (hdb : (x == ("__debug__" : Str)) = false := by decide)
    (hpl : ((backTo pos (starEach [] X.env)).any (·.1) || (backToKw pos (keywordEach kws X.env)).any (·.1.isNone)) = false := by rfl) :
    PE X (.Call (.Name x p) [] kws pos) (tCallG 0 ks.length perm sp E tNil tk) := by
  refine ⟨fun pins s σ H Q I h => wpAny_Call_Name_kw (ld_glob I hg hm ?_ hdb)⟩
  refine PySem.W.callWith_KW0 (h₀ := X.base) I.ok.mod.kin hk hall (thn (hkw.run pos pins s σ H _ I h) fun ws s2 ⟨zs, H2, I2, rz, l1, l2, q2⟩ => ⟨I2.kIn, ?_⟩) hpl
  rw [hks]
  exact run_G F hr (hb s2 [] ws I2.kIn rfl (rz.length.symm.trans l2)) hx I2 (gP_rel rz perm) q2
end

/-! ### contracts over data -/
/-- an error: its class, its fields -/
structure XD where
  C : Addr
  fs : List (Str × D)
/-- what a def is worth: for each case i its arguments, what must hold ahead, what may come back -/
structure FSpec where
  ι : Type
  args : ι → List D
  pre : ι → Sto → Prop
  res : ι → Sto → D → Sto → Prop
  exc : ι → Sto → XD → Sto → Prop := fun _ _ _ _ => False
def upX (K : PySem.W.Frag) (g : G) (E : XK) : XD → Sto → Prop := fun x cs => ∀ g' H d ws, Ext g g' → Sr K g' cs H → g'.Z d = some (.xd ws) → RepF K g' x.fs ws → E (.ref x.C) (some d) H
def dSp (K : PySem.W.Frag) (s : FSpec) : Sp := fun vs H Q E => ∃ g cs i, Sr K g cs H ∧ RepL K g (s.args i) vs ∧ s.pre i cs ∧ (∀ d cs', s.res i cs d cs' → upV K g Q d cs') ∧ ∀ x cs', s.exc i cs x cs' → upX K g E x cs'
/-- a def that never raises -/
structure Calm (s : FSpec) : Prop where
  no : ∀ i cs x cs', ¬ s.exc i cs x cs'
def startE (n : Nat) (ds : List D) : En := ds.map some ++ List.replicate (n - ds.length) none
theorem Lr.start {K : PySem.W.Frag} {g : G} {N : List Str} {ds : List D} {vs : List V} (r : RepL K g ds vs) : Lr K g (startE N.length ds) (start N vs) := by
  have hl := r.length
  refine ⟨by simp [startE, L2.start, hl], fun i d h => ?_⟩
  unfold startE at h
  unfold L2.start
  by_cases hi : i < ds.length
  · rw [List.getElem?_append_left (by simpa using hi), List.getElem?_map] at h
    cases e : ds[i]? with
    | none => rw [e] at h; cases h
    | some d' =>
      rw [e] at h
      cases h
      obtain ⟨v, h1, h2⟩ := r.get e
      exact ⟨v, by rw [List.getElem?_append_left (by simpa [← hl] using hi), List.getElem?_map, h1]; rfl, h2⟩
  · rw [List.getElem?_append_right (by simpa using hi), List.getElem?_replicate] at h
    split at h <;> cases h
section
variable {P : Program} {w : World} {K : PySem.W.Frag} {mg : Str → Option Value} {base : Heap}
/-- the contract of a def by its body over data -/
theorem dfun {k : Nat} {f : Addr} {name qual : Str} {st : Stmt} {fd : FuncData} {N ps : List Str} {sp : FSpec} (F : Fun K name qual st f fd) (S : FnScope N ps (defScope st)) (len : ∀ i, (sp.args i).length = ps.length)
    (h : ∀ (cdv : Value) (A : Around) (outer : List PySem.Env) (s : Shared) (H : Hp) (E : XK), RoomG k (A.deeper (envOfC qual (defScope st) s.heap.objs.size f cdv)) → ∃ wS, DSs (cxOf CX0 P w K mg base N qual (defScope st) f cdv A outer s H E).nox (defBody st) wS ∧
      ∀ i cs, sp.pre i cs → wS { nx := fun _ cs' => sp.res i cs .non cs', rt := fun d cs' => sp.res i cs d cs' } (startE N.length (sp.args i)) cs) : FnG P w K mg base CX0 (k + 1) f fd ps (dSp K sp) := by
  refine fnG_of F S (fun vs H Q E ⟨g, cs, i, _, r, _⟩ => r.length.symm.trans (len i)) fun cdv A outer s H vs Q E hr ⟨g, cs, i, sr, r, hp, hq, _⟩ => ?_
  obtain ⟨wS, hd, hw⟩ := h cdv A outer s H E hr
  refine ⟨_, hd.pe.nox, g, cs, startE N.length (sp.args i), sr, Lr.start r, hd.mo { nx := fun _ cs' => sp.res i cs .non cs', rt := fun d cs' => sp.res i cs d cs' } _ _ _ ⟨fun env cs' q g' H' σ e s' l => ?_, fun d cs' q => hq d cs' q, fun _ _ z => (show False from z).elim, fun _ _ z => (show False from z).elim⟩ (hw i cs hp)⟩
  exact hq .non cs' q g' H' .non e s' rfl
end
section
variable {X : Cx} {a : Expr} {pos : Pos}
def wCall (s : FSpec) (wa : WA) : WE := fun env cs Q => wa env cs fun ds cs1 => ∃ i, ds = s.args i ∧ s.pre i cs1 ∧ ∀ d cs', s.res i cs1 d cs' → Q d cs'
theorem wCall.mo {s : FSpec} {wa : WA} (h : MonoA wa) : MonoE (wCall s wa) := fun env cs Q Q' hq q => h env cs _ _ (fun ds cs1 ⟨i, e, p, q⟩ => ⟨i, e, p, fun d cs' z => hq _ _ (q d cs' z)⟩) q
theorem low_spec {K : PySem.W.Frag} {s : FSpec} (c : Calm s) {g g1 : G} {cs1 : Sto} {H1 : Hp} {vs : List V} {Q : VK} {i : s.ι} (e1 : Ext g g1) (s1 : Sr K g1 cs1 H1) (r1 : RepL K g1 (s.args i) vs) (hp : s.pre i cs1) (q : ∀ d cs', s.res i cs1 d cs' → upV K g Q d cs') : dSp K s vs H1 Q E0 :=
  ⟨g1, cs1, i, s1, r1, hp, fun d cs' z => upV.mono e1 (q d cs' z), fun x cs' z => (c.no _ _ _ _ z).elim⟩
theorem de_call {k : Nat} {f : Addr} {fd : FuncData} {ps : List Str} {s : FSpec} {x : Str} {p : Pos} {e : Expr} {es : List Expr} {wa : WA} (c : Calm s) (F : FnG X.prog X.w X.K X.mg X.base CX0 k f fd ps (dSp X.K s)) (hr : RoomG k X.A) (hm : X.mg x = some (.ref f)) (hk : PySem.W.keepIn X.K (.ref f) = true) (hb : Binds X.K fd ps []) (ha : DA X (e :: es) wa)
    (hg : Gl X x := by rfl) (hdb : (x == ("__debug__" : Str)) = false := by decide) (he : starEach (e :: es) X.env = (false, eval e X.env) :: starEach es X.env := by rfl) (hpl : (backTo pos (starEach es X.env)).any (·.1) = false := by rfl) : DE X (.Call (.Name x p) (e :: es) [] pos) (wCall s wa) :=
  ⟨PE.imp (peG_call F hr hg hm hk hb pass0 ha.pe hdb he hpl) fun σ H Q ⟨g, cs, env, sr, l, h⟩ => lowA.go ha.mo sr l h fun ds cs1 g1 H1 vs ⟨i, e2, hp, q⟩ e1 s1 r1 => by
    subst e2
    show dSp X.K s (vs ++ []) H1 Q E0
    rw [List.append_nil]
    exact low_spec c e1 s1 r1 hp q, wCall.mo ha.mo⟩
def wCall0 (s : FSpec) : WE := fun env cs Q => ∃ i, s.args i = [] ∧ s.pre i cs ∧ ∀ d cs', s.res i cs d cs' → Q d cs'
theorem de_call0 {k : Nat} {f : Addr} {fd : FuncData} {ps : List Str} {s : FSpec} {x : Str} {p : Pos} (c : Calm s) (F : FnG X.prog X.w X.K X.mg X.base CX0 k f fd ps (dSp X.K s)) (hr : RoomG k X.A) (hm : X.mg x = some (.ref f)) (hk : PySem.W.keepIn X.K (.ref f) = true) (hb : Binds X.K fd ps []) (hg : Gl X x := by rfl) (hdb : (x == ("__debug__" : Str)) = false := by decide) : DE X (.Call (.Name x p) [] [] pos) (wCall0 s) :=
  ⟨PE.imp (peG_call0 F hr hg hm hk hb pass0 hdb) fun σ H Q ⟨g, cs, env, sr, l, i, e2, hp, q⟩ => by
    show dSp X.K s ([] ++ []) H Q E0
    exact low_spec c (Ext.refl g) sr (by rw [e2]; exact .nil) hp q, fun env cs Q Q' hq ⟨i, e, p, q⟩ => ⟨i, e, p, fun d cs' z => hq _ _ (q d cs' z)⟩⟩
/-- keywords -/
structure DK (X : Cx) (kws : List Keyword) (w : WA) : Prop where
  pe : PK X kws (lowA X.K w)
  mo : MonoA w
theorem dk_nil : DK X [] wNil := ⟨⟨fun pos pins s σ H Q I ⟨g, cs, env, sr, l, h⟩ => pk_nil.run pos pins s σ H Q I (h g H [] (Ext.refl g) sr rfl)⟩, fun _ cs _ _ h q => h _ _ q⟩
theorem dk_cons {nm : Option Str} {kpos : Pos} {kws : List Keyword} {wa : WE} {wr : WA} (ha : DE X a wa) (hr : DK X kws wr) : DK X (⟨nm, a, kpos⟩ :: kws) (wCons wa wr) :=
  ⟨⟨fun pos pins s σ H Q I ⟨g, cs, env, sr, l, h⟩ => (pk_cons ha.pe hr.pe).run pos pins s σ H Q I (lowE.go ha.mo sr l h fun d1 cs1 g1 H1 v1 h1 e1 s1 r1 => lowA.go hr.mo s1 (l.mono e1) h1 fun ds cs2 g2 H2 vs h2 e2 s2 r2 => h2 g2 H2 _ (e1.trans e2) s2 (.cons (r1.mono e2) r2))⟩,
    fun env cs Q Q' h q => ha.mo env cs _ _ (fun d1 cs1 q1 => hr.mo env cs1 _ _ (fun _ _ q2 => h _ _ q2) q1) q⟩
def wCallK (s : FSpec) (n m : Nat) (perm : List Nat) (wa wk : WA) : WE := fun env cs Q => wa env cs fun ds cs1 => wk env cs1 fun es cs2 => ds.length = n ∧ es.length = m ∧ ∃ i, gP perm (ds ++ es) = s.args i ∧ s.pre i cs2 ∧ ∀ d cs', s.res i cs2 d cs' → Q d cs'
theorem wCallK.mo {s : FSpec} {n m : Nat} {perm : List Nat} {wa wk : WA} (h : MonoA wa) (h2 : MonoA wk) : MonoE (wCallK s n m perm wa wk) := fun env cs Q Q' hq q =>
  h env cs _ _ (fun ds cs1 q => h2 env cs1 _ _ (fun es cs2 ⟨l1, l2, i, e, p, q⟩ => ⟨l1, l2, i, e, p, fun d cs' z => hq _ _ (q d cs' z)⟩) q) q
theorem low_callK {s : FSpec} (c : Calm s) {n m : Nat} {perm : List Nat} {wa wk : WA} {ta tk : TA} {K : PySem.W.Frag} (ma : MonoA wa) (mk : MonoA wk) {σ : L2.St} {H : Hp} {Q : VK} (h : lowE K (wCallK s n m perm wa wk) σ H Q) : tCallG n m perm (dSp K s) E0 (lowA K wa) (lowA K wk) σ H Q := by
  obtain ⟨g, cs, env, sr, l, h⟩ := h
  refine lowA.go ma sr l h fun ds cs1 g1 H1 vs h1 e1 s1 r1 => lowA.go mk s1 (l.mono e1) h1 fun es cs2 g2 H2 zs ⟨l1, l2, i, e, hp, q⟩ e2 s2 r2 => ⟨by rw [← r1.length]; exact l1, by rw [← r2.length]; exact l2, ?_⟩
  have r3 := gP_repl ((r1.mono e2).append r2) perm
  rw [e] at r3
  exact low_spec c (e1.trans e2) s2 r3 hp q
theorem de_callK {k n : Nat} {perm : List Nat} {f : Addr} {fd : FuncData} {ps ks : List Str} {s : FSpec} {x : Str} {p : Pos} {e : Expr} {es : List Expr} {kws : List Keyword} {wa wk : WA} (c : Calm s) (F : FnG X.prog X.w X.K X.mg X.base CX0 k f fd ps (dSp X.K s)) (hr : RoomG k X.A) (hm : X.mg x = some (.ref f)) (hk : PySem.W.keepIn X.K (.ref f) = true) (hb : KwB X.K fd ps n ks perm)
    (ha : DA X (e :: es) wa) (hkw : DK X kws wk) (hg : Gl X x := by rfl) (hall : (backToKw pos (keywordEach kws X.env)).all (·.1.isSome) = true := by rfl) (hks : (backToKw pos (keywordEach kws X.env)).filterMap (·.1) = ks := by rfl)
    (hdb : (x == ("__debug__" : Str)) = false := by decide) (he : starEach (e :: es) X.env = (false, eval e X.env) :: starEach es X.env := by rfl)
    (hpl : ((backTo pos (starEach (e :: es) X.env)).any (·.1) || (backToKw pos (keywordEach kws X.env)).any (·.1.isNone)) = false := by rfl) : DE X (.Call (.Name x p) (e :: es) kws pos) (wCallK s n ks.length perm wa wk) :=
  ⟨PE.imp (peG_callK F hr hg hm hk hb pass0 ha.pe hkw.pe hall hks hdb he hpl) fun σ H Q h => low_callK (ta := lowA X.K wa) (tk := lowA X.K wk) c ha.mo hkw.mo h, wCallK.mo ha.mo hkw.mo⟩
theorem de_callK0 {k : Nat} {perm : List Nat} {f : Addr} {fd : FuncData} {ps ks : List Str} {s : FSpec} {x : Str} {p : Pos} {kws : List Keyword} {wk : WA} (c : Calm s) (F : FnG X.prog X.w X.K X.mg X.base CX0 k f fd ps (dSp X.K s)) (hr : RoomG k X.A) (hm : X.mg x = some (.ref f)) (hk : PySem.W.keepIn X.K (.ref f) = true) (hb : KwB X.K fd ps 0 ks perm)
    (hkw : DK X kws wk) (hg : Gl X x := by rfl) (hall : (backToKw pos (keywordEach kws X.env)).all (·.1.isSome) = true := by rfl) (hks : (backToKw pos (keywordEach kws X.env)).filterMap (·.1) = ks := by rfl)
    (hdb : (x == ("__debug__" : Str)) = false := by decide)
    (hpl : ((backTo pos (starEach [] X.env)).any (·.1) || (backToKw pos (keywordEach kws X.env)).any (·.1.isNone)) = false := by rfl) : DE X (.Call (.Name x p) [] kws pos) (wCallK s 0 ks.length perm wNil wk) := by
  refine ⟨PE.imp (peG_callK0 F hr hg hm hk hb pass0 hkw.pe hall hks hdb hpl) fun σ H Q h => ?_, wCallK.mo (fun _ cs _ _ h q => h _ _ q) hkw.mo⟩
  obtain ⟨g, cs, env, sr, l, h⟩ := h
  show lowA X.K wk σ H fun zs H2 => ([] : List V).length = 0 ∧ zs.length = ks.length ∧ dSp X.K s (gP perm ([] ++ zs)) H2 Q E0
  refine lowA.go hkw.mo sr l h fun es cs2 g2 H2 zs ⟨l1, l2, i, e, hp, q⟩ e2 s2 r2 => ⟨rfl, by rw [← r2.length]; exact l2, ?_⟩
  have r3 := gP_repl r2 perm
  rw [show es = [] ++ es from rfl, e] at r3
  exact low_spec c e2 s2 r3 hp q
end
end DL

/-! DOps: operators, built-ins, subscripts, methods, over data. -/
namespace DL
open PySem PySem.Spec L2
open PyProof.Rows (b2i)

section
variable {X : Cx} {a b c : Expr} {wa wb wc : WE} {pos : Pos}
/-- an operator's rule over data, from rules by values -/
theorem OpD.mk' {f : Value → Value → Sem Value} {o : O2} (mo : ∀ d1 d2 cs Q Q', (∀ d cs, Q d cs → Q' d cs) → o d1 d2 cs Q → o d1 d2 cs Q')
    (h : ∀ (pins : List (Addr × Obj)) (s : Shared) (σ : L2.St) (H : Hp) (x y : V) (v u : Value) (Q : VK) (g : G) (cs : Sto) (d1 d2 : D), Inv X pins σ H s → RelV x v → RelV y u → Sr X.K g cs H → Rep X.K g d1 x → Rep X.K g d2 y → o d1 d2 cs (upV X.K g Q) →
      wpAny (model X.prog X.w) X.A (f v u) (EP X pins σ Q) X.xe s) : OpD X f o :=
  ⟨fun pins s σ H x y v u Q I rx ry ⟨g, cs, d1, d2, sr, r1, r2, q⟩ => h pins s σ H x y v u Q g cs d1 d2 I rx ry sr r1 r2 q, mo⟩
/-! ### ints -/
def oI (C : Int → Int → Prop) (f : Int → Int → D) : O2 := fun d1 d2 cs Q => match d1, d2 with
  | .int i, .int j => C i j ∧ Q (f i j) cs
  | _, _ => False
theorem oI.mo {C : Int → Int → Prop} {f : Int → Int → D} : ∀ d1 d2 cs Q Q', (∀ d cs, Q d cs → Q' d cs) → oI C f d1 d2 cs Q → oI C f d1 d2 cs Q' := by
  intro d1 d2 cs Q Q' h q
  unfold oI at q ⊢
  split at q
  · exact ⟨q.1, h _ _ q.2⟩
  · exact q
theorem opd_int {f : Value → Value → Sem Value} {C : Int → Int → Prop} {k : Int → Int → D} {kv : Int → Int → V} (rk : ∀ i j g, Rep X.K g (k i j) (kv i j)) (h : OpR X f (rI C kv)) : OpD X f (oI C k) :=
  .mk' oI.mo fun pins s σ H x y v u Q g cs d1 d2 I rx ry sr r1 r2 q => by
    unfold oI at q
    split at q
    · cases r1
      cases r2
      exact h pins s σ H _ _ v u Q I rx ry ⟨_, _, rfl, rfl, q.1, q.2 g H _ (Ext.refl g) sr (rk _ _ _)⟩
    · exact q.elim
theorem rI_of0 {f : Value → Value → Sem Value} {kv : Int → Int → V} (h : OpR X f (rI0 kv)) : OpR X f (rI (fun _ _ => True) kv) := fun pins s σ H x y v u Q I rx ry ⟨i, j, e1, e2, _, q⟩ => h pins s σ H x y v u Q I rx ry ⟨i, j, e1, e2, q⟩
def cT : Int → Int → Prop := fun _ _ => True
def cMul (i j : Int) : Prop := CMul i j ∨ CMulW i j
theorem opd_sub : OpD X (binaryOp .Sub) (oI cT fun i j => .int (i - j)) := opd_int (fun _ _ _ => rfl) (rI_of0 op_sub)
theorem opd_fdiv : OpD X (binaryOp .FloorDiv) (oI CDivW fun i j => .int (i / j)) := opd_int (fun _ _ _ => rfl) op_fdivW
theorem opd_mod : OpD X (binaryOp .Mod) (oI (fun _ j => 0 < j) fun i j => .int (i % j)) := opd_int (fun _ _ _ => rfl) op_mod
theorem opd_pow : OpD X (binaryOp .Pow) (oI CPow fun i j => .int (i ^ j.toNat)) := opd_int (fun _ _ _ => rfl) op_pow
theorem opd_shl : OpD X (binaryOp .LShift) (oI CPow fun i j => .int (i * 2 ^ j.toNat)) := opd_int (fun _ _ _ => rfl) op_shl
theorem opd_shr : OpD X (binaryOp .RShift) (oI (fun _ j => 0 ≤ j) fun i j => .int (i / 2 ^ j.toNat)) := opd_int (fun _ _ _ => rfl) op_shr
theorem opd_band : OpD X (binaryOp .BitAnd) (oI cT fun i j => .int (Builtin.bitAnd i j)) := opd_int (fun _ _ _ => rfl) (rI_of0 op_and)
theorem opd_bor : OpD X (binaryOp .BitOr) (oI cT fun i j => .int (Builtin.bitOr i j)) := opd_int (fun _ _ _ => rfl) (rI_of0 op_or)
theorem opd_bxor : OpD X (binaryOp .BitXor) (oI cT fun i j => .int (Builtin.bitXor i j)) := opd_int (fun _ _ _ => rfl) (rI_of0 op_xor)
theorem opd_lt : OpD X (compareOp .Lt) (oI cT fun i j => .bl (decide (i < j))) := opd_int (fun _ _ _ => rfl) (rI_of0 op_lt)
theorem opd_le : OpD X (compareOp .LtE) (oI cT fun i j => .bl (decide (i ≤ j))) := opd_int (fun _ _ _ => rfl) (rI_of0 op_le)
theorem opd_gt : OpD X (compareOp .Gt) (oI cT fun i j => .bl (decide (j < i))) := opd_int (fun _ _ _ => rfl) (rI_of0 op_gt)
theorem opd_ge : OpD X (compareOp .GtE) (oI cT fun i j => .bl (decide (j ≤ i))) := opd_int (fun _ _ _ => rfl) (rI_of0 op_ge)
theorem opd_isub : OpD X (inplaceOp .Sub) (oI cT fun i j => .int (i - j)) := opd_int (fun _ _ _ => rfl) (rI_of0 iop_sub)
/-- a + b: ints, an int and a bool, texts, lists, tuples -/
def oAdd : O2 := fun d1 d2 cs Q => match d1, d2 with
  | .int i, .int j => Q (.int (i + j)) cs
  | .int i, .bl k => Q (.int (i + b2i k)) cs
  | .str x, .str y => x.length + y.length ≤ sizeLine ∧ Q (.str (x ++ y)) cs
  | .tup xs, .tup ys => xs.length + ys.length ≤ sizeLine ∧ Q (.tup (xs ++ ys)) cs
  | d1, d2 => ∃ xs ys, lstOf cs d1 = some xs ∧ lstOf cs d2 = some ys ∧ xs.length + ys.length ≤ sizeLine ∧ Q (.lst (xs ++ ys)) cs
theorem opd_add : OpD X (binaryOp .Add) oAdd := by
  refine .mk' (fun d1 d2 cs Q Q' h q => ?_) fun pins s σ H x y v u Q g cs d1 d2 I rx ry sr r1 r2 q => ?_
  · unfold oAdd at q ⊢
    split at q
    · exact h _ _ q
    · exact h _ _ q
    · exact ⟨q.1, h _ _ q.2⟩
    · exact ⟨q.1, h _ _ q.2⟩
    · obtain ⟨xs, ys, e1, e2, z, q⟩ := q
      exact ⟨xs, ys, e1, e2, z, h _ _ q⟩
  · unfold oAdd at q
    split at q
    · cases r1; cases r2
      exact op_add pins s σ H _ _ v u Q I rx ry ⟨_, _, rfl, rfl, q g H _ (Ext.refl g) sr rfl⟩
    · cases r1; cases r2
      exact op_add_ib pins s σ H _ _ v u Q I rx ry ⟨_, _, rfl, rfl, q g H _ (Ext.refl g) sr rfl⟩
    · cases r1; cases r2
      exact op_add_str pins s σ H _ _ v u Q I rx ry ⟨_, _, rfl, rfl, q.1, q.2 g H _ (Ext.refl g) sr rfl⟩
    · rename_i xs ys
      obtain ⟨p, vs, e1, h1, h2⟩ := r1
      obtain ⟨p', us, e2, h3, h4⟩ := r2
      subst e1 e2
      have l1 := h2.length
      have l2 := h4.length
      refine op_catA pins s σ H _ _ v u Q I rx ry ⟨p, p', vs, us, rfl, rfl, sqT_mono sr.le h1, sqT_mono sr.le h3, by omega, fun e => ?_, fun e e' => ?_, fun _ _ => new_tup sr (h2.append h4) q.2⟩
      · subst e
        have : xs = [] := List.length_eq_zero_iff.mp (by simpa using l1)
        subst this
        exact q.2 g H _ (Ext.refl g) sr ⟨p', us, rfl, h3, h4⟩
      · subst e'
        have : ys = [] := List.length_eq_zero_iff.mp (by simpa using l2)
        subst this
        refine q.2 g H _ (Ext.refl g) sr ⟨p, vs, rfl, h1, ?_⟩
        rw [List.append_nil]
        exact h2
    · obtain ⟨xs, ys, e1, e2, z, q⟩ := q
      obtain ⟨p, vs, f1, h1, h2⟩ := rd_of sr e1 r1
      obtain ⟨p', us, f2, h3, h4⟩ := rd_of sr e2 r2
      subst f1 f2
      cases (show v = Value.ref p from rx)
      cases (show u = Value.ref p' from ry)
      obtain ⟨z1, its, n, rv, hl⟩ := I.hok _ _ h1
      obtain ⟨z2, its2, n2, rv2, hl2⟩ := I.hok _ _ h3
      have ez : vs.length + us.length ≤ sizeLine := by rw [← h2.length, ← h4.length]; exact z
      have k1 := rv.length
      have k2 := rv2.length
      refine PySem.P.add_list hl hl2 ?_ (by simp only [List.size_toArray]; omega)
      rw [show its.toArray ++ its2.toArray = (its ++ its2).toArray by simp]
      exact ⟨.ref _, _, I.lnew (t' := s.toks) (rv.append rv2) (by rw [List.length_append]; exact ez), rfl, new_lst sr (h2.append h4) q _ I.fresh⟩
def oMul : O2 := fun d1 d2 cs Q => match d1, d2 with
  | .int i, .int j => cMul i j ∧ Q (.int (i * j)) cs
  | d1, .int k => ∃ xs, lstOf cs d1 = some xs ∧ -(2 ^ 63) ≤ k ∧ k < 2 ^ 63 ∧ xs.length * k.toNat ≤ sizeLine ∧ Q (.lst (List.replicate k.toNat xs).flatten) cs
  | _, _ => False
theorem RepL.rep {K : PySem.W.Frag} {g : G} {ds : List D} {vs : List V} (r : RepL K g ds vs) : ∀ n : Nat, RepL K g (List.replicate n ds).flatten (List.replicate n vs).flatten
  | 0 => rfl
  | n + 1 => by
    rw [List.replicate_succ, List.replicate_succ, List.flatten_cons, List.flatten_cons]
    exact r.append (RepL.rep r n)
theorem opd_mul : OpD X (binaryOp .Mult) oMul := by
  refine .mk' (fun d1 d2 cs Q Q' h q => ?_) fun pins s σ H x y v u Q g cs d1 d2 I rx ry sr r1 r2 q => ?_
  · unfold oMul at q ⊢
    split at q
    · exact ⟨q.1, h _ _ q.2⟩
    · obtain ⟨xs, e1, z1, z2, z3, q⟩ := q
      exact ⟨xs, e1, z1, z2, z3, h _ _ q⟩
    · exact q
  · unfold oMul at q
    split at q
    · cases r1; cases r2
      obtain ⟨c, q⟩ := q
      rcases c with c | c
      · exact op_mul pins s σ H _ _ v u Q I rx ry ⟨_, _, rfl, rfl, c, q g H _ (Ext.refl g) sr rfl⟩
      · exact op_mulW pins s σ H _ _ v u Q I rx ry ⟨_, _, rfl, rfl, c, q g H _ (Ext.refl g) sr rfl⟩
    · obtain ⟨xs, e1, z1, z2, z3, q⟩ := q
      cases r2
      obtain ⟨p, vs, f1, h1, h2⟩ := rd_of sr e1 r1
      subst f1
      exact op_rep pins s σ H _ _ v u Q I rx ry ⟨p, _, vs, rfl, rfl, h1, z1, z2, by rw [← h2.length]; exact z3, new_lst sr (h2.rep _) q⟩
    · exact q.elim
theorem opd_iadd_i : OpD X (inplaceOp .Add) (oI cT fun i j => .int (i + j)) := opd_int (fun _ _ _ => rfl) (rI_of0 iop_add)
/-! ### one value -/
def oU (f : Int → D) : O1 := fun d cs Q => match d with
  | .int i => Q (f i) cs
  | _ => False
theorem und_int {f : Value → Sem Value} {k : Int → D} {kv : Int → V} (rk : ∀ i g, Rep X.K g (k i) (kv i)) (h : UnR X f (rU kv)) : UnD X f (oU k) := by
  refine ⟨fun pins s σ H x v Q I rx ⟨g, cs, d, sr, r, q⟩ => ?_, fun d cs Q Q' hq q => ?_⟩
  · unfold oU at q
    split at q
    · cases r
      exact h pins s σ H _ v Q I rx ⟨_, rfl, q g H _ (Ext.refl g) sr (rk _ _)⟩
    · exact q.elim
  · unfold oU at q ⊢
    split at q
    · exact hq _ _ q
    · exact q
theorem und_neg : UnD X (unaryOp .USub) (oU fun i => .int (-i)) := und_int (fun _ _ => rfl) un_neg
theorem und_inv : UnD X (unaryOp .Invert) (oU fun i => .int (Builtin.bitNot i)) := und_int (fun _ _ => rfl) un_inv
/-! ### data compared -/
mutual
def toPy : D → Option PyData
  | .non => some .none
  | .bl b => some (.bool b)
  | .int i => some (.int i)
  | .str x => some (.str x)
  | .tup ds => match toPyL ds with
    | some ps => some (.tuple ps)
    | none => none
  | .lst ds => match toPyL ds with
    | some ps => some (.list ps)
    | none => none
  | _ => none
def toPyL : List D → Option (List PyData)
  | [] => some []
  | d :: ds => match toPy d with
    | some p => match toPyL ds with
      | some ps => some (p :: ps)
      | none => none
    | none => none
end
def pyOf (cs : Sto) : D → Option PyData
  | .cell i => match cs[i]? with
    | some (.lst ds) => match toPyL ds with
      | some ps => some (.list ps)
      | none => none
    | _ => none
  | d => toPy d
section
variable {K : PySem.W.Frag} {g : G} {cs : Sto} {H : Hp}
mutual
theorem dp_toPy (s : Sr K g cs H) : ∀ (d : D) (v : V) (p : PyData), toPy d = some p → Rep K g d v → Dp K H v p
  | .non, v, p, e, r => by cases r; simp only [toPy, Option.some.injEq] at e; subst e; exact .non
  | .bl b, v, p, e, r => by cases r; simp only [toPy, Option.some.injEq] at e; subst e; exact .bl b
  | .int i, v, p, e, r => by cases r; simp only [toPy, Option.some.injEq] at e; subst e; exact .int i
  | .str x, v, p, e, r => by cases r; simp only [toPy, Option.some.injEq] at e; subst e; exact .str x
  | .tup ds, v, p, e, r => by
    unfold toPy at e
    split at e
    · rename_i ps hp
      cases e
      obtain ⟨a, vs, e1, h1, h2⟩ := r
      subst e1
      exact .tup (sqT_mono s.le h1) (dp_toPyL s ds vs ps hp h2)
    · cases e
  | .lst ds, v, p, e, r => by
    unfold toPy at e
    split at e
    · rename_i ps hp
      cases e
      obtain ⟨a, vs, e1, h1, h2⟩ := r
      subst e1
      exact .lst (.of (s.le _ _ h1)) (dp_toPyL s ds vs ps hp h2)
    · cases e
  | .ty _, _, _, e, _ => by simp [toPy] at e
  | .ref _, _, _, e, _ => by simp [toPy] at e
  | .dic _, _, _, e, _ => by simp [toPy] at e
  | .obj _ _, _, _, e, _ => by simp [toPy] at e
  | .cell _, _, _, e, _ => by simp [toPy] at e
  | .scr _, _, _, e, _ => by simp [toPy] at e
theorem dp_toPyL (s : Sr K g cs H) : ∀ (ds : List D) (vs : List V) (ps : List PyData), toPyL ds = some ps → RepL K g ds vs → DpAll K H vs ps
  | [], vs, ps, e, r => by
    have r' : vs = [] := r
    subst r'
    simp only [toPyL, Option.some.injEq] at e
    subst e
    exact .nil
  | d :: ds, vs, ps, e, r => by
    obtain ⟨v, vr, e1, h1, h2⟩ := r
    subst e1
    unfold toPyL at e
    split at e
    · rename_i p hp
      split at e
      · rename_i qs hq
        cases e
        exact .cons (dp_toPy s d v p hp h1) (dp_toPyL s ds vr qs hq h2)
      · cases e
    · cases e
end
theorem dp_pyOf (s : Sr K g cs H) {d : D} {v : V} {p : PyData} (e : pyOf cs d = some p) (r : Rep K g d v) : Dp K H v p := by
  unfold pyOf at e
  split at e
  · rename_i i
    split at e
    · rename_i ds hc
      split at e
      · rename_i ps hp
        cases e
        obtain ⟨a, vs, e1, h1, h2⟩ := lst_of s (d := .cell i) (ds := ds) (by simp [lstOf, hc]) r
        subst e1
        exact .lst h1 (dp_toPyL s ds vs ps hp h2)
      · cases e
    · cases e
  · exact dp_toPy s _ v p e r
end
def oEq (neg : Bool) : O2 := fun d1 d2 cs Q => match d1, d2 with
  | .str x, .str y => Q (.bl (if neg = true then !decide (x = y) else decide (x = y))) cs
  | d1, d2 => ∃ p q, pyOf cs d1 = some p ∧ pyOf cs d2 = some q ∧ SeqAt.shaped p = true ∧ SeqAt.shaped q = true ∧ Q (.bl (if neg = true then !PyData.eqv p q else PyData.eqv p q)) cs
theorem oEq.mo {neg : Bool} : ∀ d1 d2 cs Q Q', (∀ d cs, Q d cs → Q' d cs) → oEq neg d1 d2 cs Q → oEq neg d1 d2 cs Q' := fun d1 d2 cs Q Q' h z => by
  unfold oEq at z ⊢
  split at z
  · exact h _ _ z
  · obtain ⟨p, q, e1, e2, e3, e4, z⟩ := z
    exact ⟨p, q, e1, e2, e3, e4, h _ _ z⟩
theorem dec_strV {x y : Str} : decide (V.str x = V.str y) = decide (x = y) := by
  rw [Bool.eq_iff_iff]
  simp
theorem opd_eq (hu : X.A.units + 64 < cLine) : OpD X (compareOp .Eq) (oEq false) := .mk' oEq.mo fun pins s σ H x y v u Q g cs d1 d2 I rx ry sr r1 r2 z => by
  unfold oEq at z
  split at z
  · cases r1
    cases r2
    exact op_eq pins s σ H _ _ v u Q I rx ry ⟨rfl, by rw [dec_strV]; exact z g H _ (Ext.refl g) sr rfl⟩
  · obtain ⟨p, q, e1, e2, e3, e4, z⟩ := z
    exact op_eqD hu pins s σ H x y v u Q I rx ry ⟨p, q, dp_pyOf sr e1 r1, dp_pyOf sr e2 r2, e3, e4, z g H _ (Ext.refl g) sr rfl⟩
theorem opd_ne (hu : X.A.units + 64 < cLine) : OpD X (compareOp .NotEq) (oEq true) := .mk' oEq.mo fun pins s σ H x y v u Q g cs d1 d2 I rx ry sr r1 r2 z => by
  unfold oEq at z
  split at z
  · cases r1
    cases r2
    exact op_ne pins s σ H _ _ v u Q I rx ry ⟨rfl, by rw [dec_strV]; exact z g H _ (Ext.refl g) sr rfl⟩
  · obtain ⟨p, q, e1, e2, e3, e4, z⟩ := z
    exact op_neD hu pins s σ H x y v u Q I rx ry ⟨p, q, dp_pyOf sr e1 r1, dp_pyOf sr e2 r2, e3, e4, z g H _ (Ext.refl g) sr rfl⟩
/-- is None -/
def isNon : D → Bool
  | .non => true
  | _ => false
def oIsN (neg : Bool) : O2 := fun d1 d2 cs Q => match d2 with
  | .non => Q (.bl (if neg = true then !isNon d1 else isNon d1)) cs
  | _ => False
theorem isNon_rep {K : PySem.W.Frag} {g : G} : ∀ {d : D} {v : V}, Rep K g d v → decide (v = .non) = isNon d
  | .non, _, r => by cases r; rfl
  | .bl _, _, r => by cases r; rfl
  | .int _, _, r => by cases r; rfl
  | .str _, _, r => by cases r; rfl
  | .ty _, _, r => by cases r; rfl
  | .ref _, _, r => by cases r; rfl
  | .tup _, _, r => by obtain ⟨a, vs, e, _⟩ := r; subst e; rfl
  | .lst _, _, r => by obtain ⟨a, vs, e, _⟩ := r; subst e; rfl
  | .dic _, _, r => by obtain ⟨a, vs, e, _⟩ := r; subst e; rfl
  | .obj _ _, _, r => by obtain ⟨a, dx, vs, e, _⟩ := r; subst e; rfl
  | .cell _, _, r => by obtain ⟨a, e, _⟩ := r; subst e; rfl
  | .scr _, _, r => by obtain ⟨a, e, _⟩ := r; subst e; rfl
theorem oIsN.mo {neg : Bool} : ∀ d1 d2 cs Q Q', (∀ d cs, Q d cs → Q' d cs) → oIsN neg d1 d2 cs Q → oIsN neg d1 d2 cs Q' := fun d1 d2 cs Q Q' h q => by
  unfold oIsN at q ⊢
  split at q
  · exact h _ _ q
  · exact q
theorem opd_is : OpD X (compareOp .Is) (oIsN false) := .mk' oIsN.mo fun pins s σ H x y v u Q g cs d1 d2 I rx ry sr r1 r2 q => by
  unfold oIsN at q
  split at q
  · cases r2
    exact op_isN pins s σ H _ _ v u Q I rx ry ⟨rfl, by rw [isNon_rep r1]; exact q g H _ (Ext.refl g) sr rfl⟩
  · exact q.elim
theorem opd_isnot : OpD X (compareOp .IsNot) (oIsN true) := .mk' oIsN.mo fun pins s σ H x y v u Q g cs d1 d2 I rx ry sr r1 r2 q => by
  unfold oIsN at q
  split at q
  · cases r2
    exact op_notN pins s σ H _ _ v u Q I rx ry ⟨rfl, by rw [isNon_rep r1]; exact q g H _ (Ext.refl g) sr rfl⟩
  · exact q.elim
/-! ### subscripts -/
theorem atI_rep {K : PySem.W.Frag} {g : G} {ds : List D} {vs : List V} {i : Int} {d : D} (r : RepL K g ds vs) (h : atI ds i = some d) : ∃ v, atI vs i = some v ∧ Rep K g d v := by
  unfold atI at h ⊢
  rw [← r.length]
  cases e : ixN ds.length i with
  | none => rw [e] at h; cases h
  | some j =>
    rw [e] at h
    exact r.get h
def oIx : O2 := fun d1 d2 cs Q => match d2 with
  | .int i => match d1 with
    | .str z => ∃ c, z.length ≤ sizeLine ∧ atI z.cps.toList i = some c ∧ Q (.str ⟨#[c]⟩) cs
    | d1 => ∃ ds d, seqOf cs d1 = some ds ∧ atI ds i = some d ∧ Q d cs
  | _ => False
theorem oIx.mo : ∀ d1 d2 cs Q Q', (∀ d cs, Q d cs → Q' d cs) → oIx d1 d2 cs Q → oIx d1 d2 cs Q' := fun d1 d2 cs Q Q' h q => by
  unfold oIx at q ⊢
  split at q
  · split at q
    · obtain ⟨c, e, e2, q⟩ := q
      exact ⟨c, e, e2, h _ _ q⟩
    · obtain ⟨ds, d, e, e2, q⟩ := q
      exact ⟨ds, d, e, e2, h _ _ q⟩
  · exact q
theorem de_ix (ha : DE X a wa) (hb : DE X b wb) (hs : PlainIx b := by exact fun _ _ => rfl) : DE X (.Subscript a b pos) (wOp oIx wa wb) := by
  refine ⟨⟨fun pins s σ H Q I h => ?_⟩, wOp.mo oIx.mo ha.mo hb.mo⟩
  refine (pe_ix (r := lowO X.K oIx) (fun value slice pins s σ H x y v u Q I rx ry ⟨g, cs, d1, d2, sr, r1, r2, q⟩ hsub => ?_) ha.pe hb.pe hs).run pins s σ H Q I (low_op oIx.mo ha hb h)
  unfold oIx at q
  split at q
  · cases r2
    split at q
    · obtain ⟨c, e, e2, q⟩ := q
      cases r1
      exact ix_seq value slice pins s σ H _ _ v u Q I rx ry (.inr (.inr ⟨_, _, c, rfl, rfl, e, e2, q g H _ (Ext.refl g) sr rfl⟩)) hsub
    · obtain ⟨ds, d, e, e2, q⟩ := q
      obtain ⟨p, vs, f1, h1, h2⟩ := seq_of sr e r1
      subst f1
      obtain ⟨w', q1, q2⟩ := atI_rep h2 e2
      rcases h1 with h1 | h1
      · exact ix_seq value slice pins s σ H _ _ v u Q I rx ry (.inl ⟨p, vs, _, w', rfl, rfl, h1, q1, q g H _ (Ext.refl g) sr q2⟩) hsub
      · exact ix_seq value slice pins s σ H _ _ v u Q I rx ry (.inr (.inl ⟨p, vs, _, w', rfl, rfl, h1, q1, q g H _ (Ext.refl g) sr q2⟩)) hsub
  · exact q.elim
/-- a part of a slice -/
abbrev WO := En → Sto → (Option Int → Sto → Prop) → Prop
def lowP (K : PySem.W.Frag) (w : WO) : TO := fun σ H Q => ∃ g cs env, Sr K g cs H ∧ Lr K g env σ ∧ w env cs fun o cs' => ∀ g' H', Ext g g' → Sr K g' cs' H' → Q o H'
structure DP (X : Cx) (e : Option Expr) (w : WO) : Prop where
  pe : PO X e (lowP X.K w)
  mo : ∀ env cs Q Q', (∀ o cs, Q o cs → Q' o cs) → w env cs Q → w env cs Q'
def wPn : WO := fun _ cs Q => Q none cs
def wPs (we : WE) : WO := fun env cs Q => we env cs fun d cs' => match d with
  | .int i => Q (some i) cs'
  | _ => False
theorem dp_none : DP X none wPn := ⟨⟨fun pins s σ H Q I ⟨g, cs, env, sr, l, h⟩ => po_none.run pins s σ H Q I (h g H (Ext.refl g) sr)⟩, fun _ _ _ _ h q => h _ _ q⟩
theorem dp_some (ha : DE X a wa) : DP X (some a) (wPs wa) := by
  refine ⟨⟨fun pins s σ H Q I ⟨g, cs, env, sr, l, h⟩ => (po_some ha.pe).run pins s σ H Q I (lowE.go ha.mo sr l h fun d cs1 g1 H1 v1 h1 e1 s1 r1 => ?_)⟩, fun env cs Q Q' h q => ha.mo env cs _ _ (fun d cs' q => ?_) q⟩
  · cases d with
    | int i => exact ⟨i, r1, h1 g1 H1 e1 s1⟩
    | _ => exact False.elim h1
  · cases d <;> first | exact h _ _ q | exact q
def cutD (ds : List D) (lo hi : Option Int) : List D := (ds.drop (HT.sIx ds.length 0 lo)).take (HT.sIx ds.length ds.length hi - HT.sIx ds.length 0 lo)
theorem cutD_rep {K : PySem.W.Frag} {g : G} {ds : List D} {vs : List V} (r : RepL K g ds vs) (lo hi : Option Int) : RepL K g (cutD ds lo hi) (cutV vs lo hi) := by
  unfold cutD cutV
  rw [r.length]
  exact (r.drop _).take _
def oSl (d : D) (lo hi : Option Int) (cs : Sto) (Q : PD) : Prop := match d with
  | .scr ns => Q (.lst (cutD (ns.map .int) lo hi)) cs
  | .tup ds => Q (.tup (cutD ds lo hi)) cs
  | .str z => z.length ≤ sizeLine ∧ Q (.str (cutS z lo hi)) cs
  | d => ∃ ds, lstOf cs d = some ds ∧ Q (.lst (cutD ds lo hi)) cs
theorem oSl.mo {d : D} {lo hi : Option Int} {cs : Sto} {Q Q' : PD} (h : ∀ d cs, Q d cs → Q' d cs) (q : oSl d lo hi cs Q) : oSl d lo hi cs Q' := by
  unfold oSl at q ⊢
  split at q
  · exact h _ _ q
  · exact h _ _ q
  · exact ⟨q.1, h _ _ q.2⟩
  · obtain ⟨ds, e, q⟩ := q
    exact ⟨ds, e, h _ _ q⟩
def wSl (we : WE) (wl wh : WO) : WE := fun env cs Q => we env cs fun d cs1 => wl env cs1 fun lo cs2 => wh env cs2 fun hi cs3 => oSl d lo hi cs3 Q
def lowSl (K : PySem.W.Frag) : V → Option Int → Option Int → Hp → VK → Prop := fun x lo hi H Q => ∃ g cs d, Sr K g cs H ∧ Rep K g d x ∧ oSl d lo hi cs (upV K g Q)
theorem slr_d : SlR X (lowSl X.K) := by
  intro pins s σ H x v vl vu lo hi sl Q I rx hs pl pu ⟨g, cs, d, sr, r, q⟩
  unfold oSl at q
  split at q
  · obtain ⟨p, e1, h1⟩ := r
    subst e1
    exact sl_list pins s σ H _ v vl vu lo hi sl Q I rx hs pl pu ⟨p, _, rfl, sqL_mono sr.le h1, new_lst sr (cutD_rep (.of_ints _) lo hi) q⟩
  · rename_i ds
    obtain ⟨p, vs, e1, h1, h2⟩ := r
    subst e1
    refine sl_tupA pins s σ H _ v vl vu lo hi sl Q I rx hs pl pu ⟨p, vs, rfl, sqT_mono sr.le h1, fun ⟨z1, z2⟩ => ?_, fun _ => new_tup sr (cutD_rep h2 lo hi) q⟩
    refine q g H _ (Ext.refl g) sr ⟨p, vs, rfl, h1, ?_⟩
    unfold cutD
    rw [h2.length, z1, z2]
    have : (List.take (vs.length - 0) (List.drop 0 ds)) = ds := by
      rw [List.drop_zero, Nat.sub_zero, ← h2.length, List.take_length]
    rw [this]
    exact h2
  · cases r
    exact sl_str pins s σ H _ v vl vu lo hi sl Q I rx hs pl pu ⟨_, rfl, q.1, q.2 g H _ (Ext.refl g) sr rfl⟩
  · obtain ⟨ds, e, q⟩ := q
    obtain ⟨p, vs, e1, h1, h2⟩ := lst_of sr e r
    subst e1
    exact sl_list pins s σ H _ v vl vu lo hi sl Q I rx hs pl pu ⟨p, vs, rfl, h1, new_lst sr (cutD_rep h2 lo hi) q⟩
theorem de_slice {lo hi : Option Expr} {wl wh : WO} {p2 : Pos} (ha : DE X a wa) (hl : DP X lo wl) (hh : DP X hi wh) : DE X (.Subscript a (.Slice lo hi none p2) pos) (wSl wa wl wh) := by
  refine ⟨PE.imp (pe_slice slr_d ha.pe hl.pe hh.pe) fun σ H Q ⟨g, cs, env, sr, l, h⟩ => ?_, fun env cs Q Q' h q => ha.mo env cs _ _ (fun d cs1 q => hl.mo env cs1 _ _ (fun o cs2 q => hh.mo env cs2 _ _ (fun o2 cs3 q => oSl.mo h q) q) q) q⟩
  refine lowE.go ha.mo sr l h fun d cs1 g1 H1 v1 h1 e1 s1 r1 => ?_
  refine ⟨g1, cs1, env, s1, l.mono e1, hl.mo _ _ _ _ (fun o cs2 h2 g2 H2 e2 s2 => ?_) h1⟩
  refine ⟨g2, cs2, env, s2, (l.mono e1).mono e2, hh.mo _ _ _ _ (fun o2 cs3 h3 g3 H3 e3 s3 => ?_) h2⟩
  exact ⟨g3, cs3, d, s3, (r1.mono e2).mono e3, oSl.mo (fun _ _ q => upV.mono ((e1.trans e2).trans e3) q) h3⟩
/-- xs[i] = e -/
def wStore (we wo wi : WE) : WS := fun E env cs => we env cs fun d cs1 => wo env cs1 fun o cs2 => wi env cs2 fun k cs3 => match o, k with
  | .cell n, .int i => ∃ ds j, cs3[n]? = some (.lst ds) ∧ ixN ds.length i = some j ∧ E.nx env (cs3.set n (.lst (ds.set j d)))
  | _, _ => False
theorem ds_store {e o i : Expr} {we wo wi : WE} {tpos : Pos} (he : DE X e we) (ho : DE X o wo) (hi : DE X i wi)
    (ha : ∀ v, assign (.Subscript o i tpos) X.env v = (do
      let ov ← holding [v] (eval o X.env)
      let iv ← holding [v, ov] (eval i X.env)
      standAt tpos
      holding [v, ov, iv] (setItem ov iv v)
      release [v, ov, iv] []) := by intro _; rfl)
    (hs : swapsWithSole [.Subscript o i tpos] e pos.line X.env = pure false := by rfl) (hw : swappedStores [.Subscript o i tpos] e X.env = pure none := by rfl) (h1 : (assignEach [.Subscript o i tpos] X.env).map (·.2) = [assign (.Subscript o i tpos) X.env] := by rfl) :
    DS X (.Assign [.Subscript o i tpos] e pos) (wStore we wo wi) := by
  refine ⟨PS.imp (ps_asg he.pe (pg_sub ho.pe hi.pe set_list ha) hs hw h1) fun D σ H ⟨g, cs, env, sr, l, h⟩ => ?_, fun E E' env cs h q => he.mo _ _ _ _ (fun d cs1 q => ho.mo _ _ _ _ (fun o cs2 q => hi.mo _ _ _ _ (fun k cs3 q => ?_) q) q) q⟩
  · refine lowE.go he.mo sr l h fun d cs1 g1 H1 v1 h1 e1 s1 r1 => ?_
    refine lowE.go ho.mo s1 (l.mono e1) h1 fun od cs2 g2 H2 v2 h2 e2 s2 r2 => ?_
    refine lowE.go hi.mo s2 ((l.mono e1).mono e2) h2 fun kd cs3 g3 H3 v3 h3 e3 s3 r3 => ?_
    split at h3
    · rename_i n i
      obtain ⟨ds, j, hc, hj, q⟩ := h3
      cases r3
      obtain ⟨p, e4, h4⟩ := r2.mono e3
      subst e4
      obtain ⟨vs, q1, q2, q3⟩ := s3.ok n p _ h4 hc
      refine ⟨p, vs, _, j, rfl, rfl, q1, by rw [← q2.length]; exact hj, ?_⟩
      exact q g3 _ σ ((e1.trans e2).trans e3) (s3.put h4 hc (by simp) ⟨_, upd_same, q2.set ((r1.mono e2).mono e3) j, q3⟩) (l.mono ((e1.trans e2).trans e3))
    · exact h3.elim
  · split at q
    · obtain ⟨ds, j, hc, hj, q⟩ := q
      exact ⟨ds, j, hc, hj, h.nx _ _ q⟩
    · exact q
end
end DL

/-! DBlt: built-in functions and types, walks of pairs, methods of lists, over data. -/
namespace DL
open PySem PySem.Spec L2
abbrev OC := List D → Sto → PD → Prop
def lowC (K : PySem.W.Frag) (o : OC) : List V → Hp → VK → Prop := fun xs H Q => ∃ g cs ds, Sr K g cs H ∧ RepL K g ds xs ∧ o ds cs (upV K g Q)
structure CallD (X : Cx) (f : Value) (o : OC) : Prop where
  op : CallR X f (lowC X.K o)
  mo : ∀ ds cs Q Q', (∀ d cs, Q d cs → Q' d cs) → o ds cs Q → o ds cs Q'
section
variable {X : Cx} {a b c : Expr} {wa wb wc : WE} {pos : Pos}
theorem CallD.mk' {f : Value} {o : OC} (mo : ∀ ds cs Q Q', (∀ d cs, Q d cs → Q' d cs) → o ds cs Q → o ds cs Q')
    (h : ∀ (pins : List (Addr × Obj)) (s : Shared) (σ : L2.St) (H : Hp) (xs : List V) (us : List Value) (Q : VK) (g : G) (cs : Sto) (ds : List D), Inv X pins σ H s → Vals xs us → Sr X.K g cs H → RepL X.K g ds xs → o ds cs (upV X.K g Q) →
      wpAny (model X.prog X.w) X.A (call f us) (EP X pins σ Q) X.xe s) : CallD X f o :=
  ⟨fun pins s σ H xs us Q I r ⟨g, cs, ds, sr, r1, q⟩ => h pins s σ H xs us Q g cs ds I r sr r1 q, mo⟩
def wB (o : OC) (w : WA) : WE := fun env cs Q => w env cs fun ds cs1 => o ds cs1 Q
theorem wB.mo {o : OC} {w : WA} (mo : ∀ ds cs Q Q', (∀ d cs, Q d cs → Q' d cs) → o ds cs Q → o ds cs Q') (h : MonoA w) : MonoE (wB o w) := fun env cs Q Q' hq q => h _ _ _ _ (fun ds cs1 q => mo _ _ _ _ hq q) q
theorem de_callB {id : String} {o : OC} {x : Str} {p : Pos} {e : Expr} {es : List Expr} {w : WA} (hc : CallD X (.builtin id) o) (hm : X.mg x = none) (hv : bootBuiltins x = some (.builtin id)) (ha : DA X (e :: es) w) (hg : Gl X x := by rfl) (hn : x ≠ "__name__" := by decide) (hdb : (x == ("__debug__" : Str)) = false := by decide)
    (he : starEach (e :: es) X.env = (false, eval e X.env) :: starEach es X.env := by rfl) (hpl : (backTo pos (starEach es X.env)).any (·.1) = false := by rfl) : DE X (.Call (.Name x p) (e :: es) [] pos) (wB o w) :=
  ⟨PE.imp (pe_callB hc.op hg hm hv ha.pe hn hdb he hpl) fun σ H Q ⟨g, cs, env, sr, l, h⟩ => lowA.go ha.mo sr l h fun ds cs1 g1 H1 vs h1 e1 s1 r1 => ⟨g1, cs1, ds, s1, r1, hc.mo _ _ _ _ (fun _ _ q => upV.mono e1 q) h1⟩, wB.mo hc.mo ha.mo⟩
theorem de_callT {T : String} {o : OC} {x : Str} {p : Pos} {e : Expr} {es : List Expr} {w : WA} (hc : CallD X (.type T) o) (hm : X.mg x = none) (hv : bootBuiltins x = some (.type T)) (ha : DA X (e :: es) w) (hg : Gl X x := by rfl) (hn : x ≠ "__name__" := by decide) (hdb : (x == ("__debug__" : Str)) = false := by decide)
    (he : starEach (e :: es) X.env = (false, eval e X.env) :: starEach es X.env := by rfl) (hpl : (backTo pos (starEach es X.env)).any (·.1) = false := by rfl) : DE X (.Call (.Name x p) (e :: es) [] pos) (wB o w) :=
  ⟨PE.imp (pe_callTy hc.op hg hm hv ha.pe hn hdb he hpl) fun σ H Q ⟨g, cs, env, sr, l, h⟩ => lowA.go ha.mo sr l h fun ds cs1 g1 H1 vs h1 e1 s1 r1 => ⟨g1, cs1, ds, s1, r1, hc.mo _ _ _ _ (fun _ _ q => upV.mono e1 q) h1⟩, wB.mo hc.mo ha.mo⟩
/-- one argument -/
def o1 (o : O1) : OC := fun ds cs Q => match ds with
  | [d] => o d cs Q
  | _ => False
theorem o1.mo {o : O1} (mo : ∀ d cs Q Q', (∀ d cs, Q d cs → Q' d cs) → o d cs Q → o d cs Q') : ∀ ds cs Q Q', (∀ d cs, Q d cs → Q' d cs) → o1 o ds cs Q → o1 o ds cs Q' := fun ds cs Q Q' h q => by
  unfold o1 at q ⊢
  split at q
  · exact mo _ _ _ _ h q
  · exact q
theorem cd1 {f : Value} {o : O1} (mo : ∀ d cs Q Q', (∀ d cs, Q d cs → Q' d cs) → o d cs Q → o d cs Q')
    (h : ∀ (pins : List (Addr × Obj)) (s : Shared) (σ : L2.St) (H : Hp) (x : V) (u : Value) (Q : VK) (g : G) (cs : Sto) (d : D), Inv X pins σ H s → RelV x u → Vals [x] [u] → Sr X.K g cs H → Rep X.K g d x → o d cs (upV X.K g Q) →
      wpAny (model X.prog X.w) X.A (call f [u]) (EP X pins σ Q) X.xe s) : CallD X f (o1 o) :=
  .mk' (o1.mo mo) fun pins s σ H xs us Q g cs ds I r sr r1 q => by
    unfold o1 at q
    split at q
    · obtain ⟨v, vr, e1, h1, h2⟩ := r1
      have h2' : vr = [] := h2
      subst e1 h2'
      obtain ⟨u, rfl, ru⟩ := vals1 r
      exact h pins s σ H v u Q g cs _ I ru r sr h1 q
    · exact q.elim
/-! ### len, int, bool, abs, list, tuple, all, any, sum -/
def oLen : O1 := fun d cs Q => match d with
  | .str y => y.length ≤ sizeLine ∧ Q (.int y.length) cs
  | d => ∃ ds, seqOf cs d = some ds ∧ Q (.int ds.length) cs
theorem cd_len : CallD X (.builtin "len") (o1 oLen) := cd1 (fun d cs Q Q' h q => by
    unfold oLen at q ⊢
    split at q
    · exact ⟨q.1, h _ _ q.2⟩
    · obtain ⟨ds, e, q⟩ := q
      exact ⟨ds, e, h _ _ q⟩) fun pins s σ H x u Q g cs d I ru rv sr r q => by
  unfold oLen at q
  split at q
  · cases r
    exact call_len pins s σ H _ _ Q I rv ⟨_, _, rfl, ⟨q.1, rfl⟩, q.2 g H _ (Ext.refl g) sr rfl⟩
  · obtain ⟨ds, e, q⟩ := q
    obtain ⟨p, vs, e1, h1, h2⟩ := seq_of sr e r
    subst e1
    refine call_len pins s σ H _ _ Q I rv ⟨_, vs.length, rfl, ?_, ?_⟩
    · rcases h1 with h1 | h1
      · exact .inl ⟨vs, h1, rfl⟩
      · exact .inr ⟨vs, h1, rfl⟩
    · have := q g H (.int ds.length) (Ext.refl g) sr rfl
      rw [h2.length] at this
      exact this
def oInt : O1 := fun d cs Q => match d with
  | .int i => Q (.int i) cs
  | .bl k => Q (.int (if k = true then 1 else 0)) cs
  | _ => False
theorem cd_int : CallD X (.type "int") (o1 oInt) := cd1 (fun d cs Q Q' h q => by
    unfold oInt at q ⊢
    split at q
    · exact h _ _ q
    · exact h _ _ q
    · exact q) fun pins s σ H x u Q g cs d I ru rv sr r q => by
  unfold oInt at q
  split at q
  · cases r
    exact call_int1 pins s σ H _ _ Q I rv (.inl ⟨_, rfl, q g H _ (Ext.refl g) sr rfl⟩)
  · cases r
    exact call_int1 pins s σ H _ _ Q I rv (.inr ⟨_, rfl, q g H _ (Ext.refl g) sr rfl⟩)
  · exact q.elim
def oAbs : O1 := fun d cs Q => match d with
  | .int i => Q (.int (if i < 0 then -i else i)) cs
  | _ => False
theorem cd_abs : CallD X (.builtin "abs") (o1 oAbs) := cd1 (fun d cs Q Q' h q => by
    unfold oAbs at q ⊢
    split at q
    · exact h _ _ q
    · exact q) fun pins s σ H x u Q g cs d I ru rv sr r q => by
  unfold oAbs at q
  split at q
  · cases r
    exact call_abs pins s σ H _ _ Q I rv ⟨_, rfl, q g H _ (Ext.refl g) sr rfl⟩
  · exact q.elim
def oTup : O1 := fun d cs Q => ∃ ds, seqOf cs d = some ds ∧ Q (.tup ds) cs
theorem cd_tup : CallD X (.type "tuple") (o1 oTup) := cd1 (fun d cs Q Q' h ⟨ds, e, q⟩ => ⟨ds, e, h _ _ q⟩) fun pins s σ H x u Q g cs d I ru rv sr r ⟨ds, e, q⟩ => by
  cases d with
  | tup es =>
    cases e
    obtain ⟨p, vs, e1, h1, h2⟩ := r
    subst e1
    exact call_tuple_of pins s σ H _ _ Q I rv ⟨p, vs, rfl, .inr ⟨sqT_mono sr.le h1, q g H _ (Ext.refl g) sr ⟨p, vs, rfl, h1, h2⟩⟩⟩
  | lst es =>
    obtain ⟨p, vs, e1, h1, h2⟩ := lst_of (d := .lst es) (ds := ds) sr e r
    subst e1
    exact call_tuple_of pins s σ H _ _ Q I rv ⟨p, vs, rfl, .inl ⟨h1, new_tup sr h2 q⟩⟩
  | cell i =>
    obtain ⟨p, vs, e1, h1, h2⟩ := lst_of (d := .cell i) (ds := ds) sr e r
    subst e1
    exact call_tuple_of pins s σ H _ _ Q I rv ⟨p, vs, rfl, .inl ⟨h1, new_tup sr h2 q⟩⟩
  | _ => cases e
def oList : O1 := fun d cs Q => ∃ ds, seqOf cs d = some ds ∧ Q (.lst ds) cs
theorem cd_list : CallD X (.type "list") (o1 oList) := cd1 (fun d cs Q Q' h ⟨ds, e, q⟩ => ⟨ds, e, h _ _ q⟩) fun pins s σ H x u Q g cs d I ru rv sr r ⟨ds, e, q⟩ => by
  obtain ⟨p, vs, e1, h1, h2⟩ := seq_of sr e r
  subst e1
  exact call_list_of pins s σ H _ _ Q I rv ⟨p, vs, rfl, h1, new_lst sr h2 q⟩
/-- a list of truths, of ints -/
def bls : List D → Option (List Bool)
  | [] => some []
  | .bl b :: ds => match bls ds with
    | some bs => some (b :: bs)
    | none => none
  | _ :: _ => none
def nums : List D → Option (List Int)
  | [] => some []
  | .int b :: ds => match nums ds with
    | some bs => some (b :: bs)
    | none => none
  | _ :: _ => none
theorem bls_rep {K : PySem.W.Frag} {g : G} : ∀ {ds : List D} {vs : List V} {bs : List Bool}, RepL K g ds vs → bls ds = some bs → vs = bs.map V.bl
  | [], vs, bs, r, e => by
    have r' : vs = [] := r
    simp only [bls, Option.some.injEq] at e
    subst r' e
    rfl
  | d :: ds, vs, bs, r, e => by
    obtain ⟨v, vr, e1, h1, h2⟩ := r
    subst e1
    unfold bls at e
    split at e
    · cases ‹_ :: _ = []›
    · rename_i b ds' he
      cases he
      split at e
      · rename_i bs' hb
        cases e
        have h1' : v = .bl b := h1
        rw [h1', bls_rep h2 hb]
        rfl
      · cases e
    · cases e
theorem nums_rep {K : PySem.W.Frag} {g : G} : ∀ {ds : List D} {vs : List V} {bs : List Int}, RepL K g ds vs → nums ds = some bs → vs = bs.map V.int
  | [], vs, bs, r, e => by
    have r' : vs = [] := r
    simp only [nums, Option.some.injEq] at e
    subst r' e
    rfl
  | d :: ds, vs, bs, r, e => by
    obtain ⟨v, vr, e1, h1, h2⟩ := r
    subst e1
    unfold nums at e
    split at e
    · cases ‹_ :: _ = []›
    · rename_i b ds' he
      cases he
      split at e
      · rename_i bs' hb
        cases e
        have h1' : v = .int b := h1
        rw [h1', nums_rep h2 hb]
        rfl
      · cases e
    · cases e
theorem bls_map : ∀ bs : List Bool, bls (bs.map .bl) = some bs
  | [] => rfl
  | b :: bs => by simp only [List.map_cons, bls, bls_map bs]
theorem nums_map : ∀ bs : List Int, nums (bs.map .int) = some bs
  | [] => rfl
  | b :: bs => by simp only [List.map_cons, nums, nums_map bs]
def oAll : O1 := fun d cs Q => ∃ ds bs, lstOf cs d = some ds ∧ bls ds = some bs ∧ Q (.bl (bs.all id)) cs
def oAny : O1 := fun d cs Q => ∃ ds bs, lstOf cs d = some ds ∧ bls ds = some bs ∧ Q (.bl (bs.any id)) cs
def oSum : O1 := fun d cs Q => ∃ ds ns, lstOf cs d = some ds ∧ nums ds = some ns ∧ Q (.int ns.sum) cs
theorem cd_all (hc : X.calm = true) : CallD X (.builtin "all") (o1 oAll) := cd1 (fun d cs Q Q' h ⟨ds, bs, e, e2, q⟩ => ⟨ds, bs, e, e2, h _ _ q⟩) fun pins s σ H x u Q g cs d I ru rv sr r ⟨ds, bs, e, e2, q⟩ => by
  obtain ⟨p, vs, e1, h1, h2⟩ := lst_of sr e r
  subst e1
  rw [bls_rep h2 e2] at h1
  exact cr_all hc pins s σ H _ _ Q I rv ⟨p, bs, rfl, h1, q g H _ (Ext.refl g) sr rfl⟩
theorem cd_any (hc : X.calm = true) : CallD X (.builtin "any") (o1 oAny) := cd1 (fun d cs Q Q' h ⟨ds, bs, e, e2, q⟩ => ⟨ds, bs, e, e2, h _ _ q⟩) fun pins s σ H x u Q g cs d I ru rv sr r ⟨ds, bs, e, e2, q⟩ => by
  obtain ⟨p, vs, e1, h1, h2⟩ := lst_of sr e r
  subst e1
  rw [bls_rep h2 e2] at h1
  exact cr_any hc pins s σ H _ _ Q I rv ⟨p, bs, rfl, h1, q g H _ (Ext.refl g) sr rfl⟩
theorem cd_sum (hc : X.calm = true) : CallD X (.builtin "sum") (o1 oSum) := cd1 (fun d cs Q Q' h ⟨ds, bs, e, e2, q⟩ => ⟨ds, bs, e, e2, h _ _ q⟩) fun pins s σ H x u Q g cs d I ru rv sr r ⟨ds, bs, e, e2, q⟩ => by
  obtain ⟨p, vs, e1, h1, h2⟩ := lst_of sr e r
  subst e1
  rw [nums_rep h2 e2] at h1
  exact cr_sum hc pins s σ H _ _ Q I rv ⟨p, bs, rfl, h1, q g H _ (Ext.refl g) sr rfl⟩
/-! ### isinstance -/
def tyD (cs : Sto) : D → Option String
  | .non => some "NoneType"
  | .bl _ => some "bool"
  | .int _ => some "int"
  | .str _ => some "str"
  | .tup _ => some "tuple"
  | .lst _ => some "list"
  | .dic _ => some "dict"
  | .cell i => match cs[i]? with
    | some (.lst _) => some "list"
    | some (.dic _) => some "dict"
    | _ => none
  | _ => none
theorem ty_rep {K : PySem.W.Frag} {g : G} {cs : Sto} {H : Hp} (s : Sr K g cs H) {d : D} {v : V} {T : String} (e : tyD cs d = some T) (r : Rep K g d v) : TyX K H v (.type T) := by
  unfold tyD at e
  split at e
  · cases e; cases r; exact .base .non
  · cases e; cases r; exact .base (.bl _)
  · cases e; cases r; exact .base (.int _)
  · cases e; cases r; exact .base (.str _)
  · cases e
    obtain ⟨p, vs, e1, h1, h2⟩ := r
    subst e1
    rcases sqT_mono s.le h1 with (h | ⟨o, h⟩) | ⟨o, its, n, h, hc, _⟩
    · exact .base (.tup h)
    · exact .fTuple h
    · exact .kTuple h hc
  · cases e
    obtain ⟨p, vs, e1, h1, h2⟩ := r
    subst e1
    exact .base (.lst (s.le _ _ h1))
  · cases e
    obtain ⟨p, vs, e1, h1, h2⟩ := r
    subst e1
    exact .base (.dK (s.le _ _ h1))
  · split at e
    · rename_i i ds hc
      cases e
      obtain ⟨p, e1, h1⟩ := r
      subst e1
      obtain ⟨vs, q1, q2, q3⟩ := s.ok _ p _ h1 hc
      exact .base (.lst q1)
    · rename_i i ds hc
      cases e
      obtain ⟨p, e1, h1⟩ := r
      subst e1
      obtain ⟨vs, q1, q2, q3⟩ := s.ok _ p _ h1 hc
      exact .base (.dK q1)
    · cases e
  · cases e
/-- isinstance(x, t), t any tuple that stands -/
theorem isi_any (pins : List (Addr × Obj)) (s : Shared) (σ : L2.St) (H : Hp) (us : List Value) (Q : VK) {x : V} {p : Addr} {vs : List V} {ws : List Value} {t : Value} {b : Bool} (I : Inv X pins σ H s) (r : Vals [x, .ref p] us) (hT : SqT X.K H p vs) (hw : Paired ClsV vs ws) (ty : TyX X.K H x t)
    (e : PySem.W.kitAny X.K t ws = some b) (q : Q (.bl b) H) : wpAny (model X.prog X.w) X.A (call (.builtin "isinstance") us) (EP X pins σ Q) X.xe s := by
  obtain ⟨u1, u2, rfl, r1, r2⟩ := vals2 r
  cases (show u2 = Value.ref p from r2)
  obtain ⟨P, Z, pz, hx⟩ := kit_of I r1 ty
  obtain ⟨its, rv, ⟨o, h1, h2, n, h3⟩, _⟩ := I.tuple hT
  have e3 := ClsV.all hw rv
  subst e3
  obtain ⟨oc, od, dt, sl⟩ := o
  simp only at h2 h3
  subst h2 h3
  exact PySem.W.kia_tup Z I.kIn pz h1 e hx fun tk => ⟨.bl b, H, I.tok tk, rfl, q⟩
/-- some of several built-in types -/
def kitAnyB (T : String) : List D → Option Bool
  | [] => some false
  | .ty n :: ds => match kitB T n with
    | some b => match kitAnyB T ds with
      | some r => some (b || r)
      | none => none
    | none => none
  | _ :: _ => none
theorem kitAnyB_rep {K : PySem.W.Frag} {g : G} {T : String} : ∀ {ds : List D} {vs : List V} {b : Bool}, kitAnyB T ds = some b → RepL K g ds vs → ∃ us, Paired ClsV vs us ∧ PySem.W.kitAny K (.type T) us = some b
  | [], vs, b, e, r => by
    have r' : vs = [] := r
    subst r'
    simp only [kitAnyB, Option.some.injEq] at e
    subst e
    exact ⟨[], .nil, rfl⟩
  | d :: ds, vs, b, e, r => by
    obtain ⟨v, vr, e1, h1, h2⟩ := r
    subst e1
    unfold kitAnyB at e
    split at e
    · cases ‹_ :: _ = []›
    · rename_i n ds' he
      cases he
      have h1' : v = .ty n := h1
      subst h1'
      split at e
      · rename_i k hk
        split at e
        · rename_i r hr
          cases e
          obtain ⟨us, hu, hq⟩ := kitAnyB_rep hr h2
          refine ⟨_, .cons (.ty n) hu, kitAny_cons (kit_ty hk) (fun hb => ?_) (fun hb => by rw [hb]; rfl)⟩
          rw [hb]
          exact hq
        · cases e
      · cases e
    · cases e
def oIsi : OC := fun ds cs Q => match ds with
  | [d, .ty n] => ∃ T b, tyD cs d = some T ∧ kitB T n = some b ∧ Q (.bl b) cs
  | [d, .tup ns] => ∃ T b, tyD cs d = some T ∧ kitAnyB T ns = some b ∧ Q (.bl b) cs
  | _ => False
theorem cd_isi : CallD X (.builtin "isinstance") oIsi := .mk' (fun ds cs Q Q' h q => by
    unfold oIsi at q ⊢
    split at q
    · obtain ⟨T, b, e1, e2, q⟩ := q
      exact ⟨T, b, e1, e2, h _ _ q⟩
    · obtain ⟨T, b, e1, e2, q⟩ := q
      exact ⟨T, b, e1, e2, h _ _ q⟩
    · exact q) fun pins s σ H xs us Q g cs ds I r sr r1 q => by
  unfold oIsi at q
  split at q
  · obtain ⟨T, b, e1, e2, q⟩ := q
    obtain ⟨v, vr, f1, h1, v2, vr2, f2, h2, h3⟩ := r1
    have h3' : vr2 = [] := h3
    subst f1 f2 h3'
    have h2' : v2 = .ty _ := h2
    subst h2'
    exact call_isi pins s σ H _ us Q I r ⟨_, _, _, _, b, rfl, .ty _, ty_rep sr e1 h1, kit_ty e2, q g H _ (Ext.refl g) sr rfl⟩
  · obtain ⟨T, b, e1, e2, q⟩ := q
    obtain ⟨v, vr, f1, h1, v2, vr2, f2, h2, h3⟩ := r1
    have h3' : vr2 = [] := h3
    subst f1 f2 h3'
    obtain ⟨p, vs, f3, h4, h5⟩ := h2
    subst f3
    obtain ⟨ws, hw, hq⟩ := kitAnyB_rep (K := X.K) e2 h5
    exact isi_any pins s σ H us Q I r (sqT_mono sr.le h4) hw (ty_rep sr e1 h1) hq (q g H _ (Ext.refl g) sr rfl)
  · exact q.elim
end
end DL

/-! DIter: enumerate and zip over data, repr. -/
namespace DL
open PySem PySem.Spec L2
open RZ (ItzT pi_zipA)

theorem en_make {v : Value} {o : Obj} {S : Heap → Prop} (B : Begins v o S) :
    Meets (Builtin.«enumerate.__new__» ⟨[.type "enumerate", v], []⟩) (fun _ R s => S s.heap ∧
      R (.ok (.ret (.ref (s.heap.push o).objs.size))) { s with heap := (s.heap.push o).push { cls := .type "enumerate", data := .fields #[.none, .bool false, .ref s.heap.objs.size, rawInt 0, .none, .none] } }) :=
  .of_wp fun prog w A R s h => by
    obtain ⟨hp, g, d, tk, os⟩ := s
    obtain ⟨h1, h⟩ := h
    have isub := sub_enumerate
    have begin_ : ∀ {A' : Around} {E : Value → Shared → Prop} {Q : Value → Shared → Prop}, Q (.ref hp.objs.size) ⟨hp.push o, g, d, tk, os⟩ → wpAny (model prog w) A' (pyIter v) Q E ⟨hp, g, d, tk, os⟩ := fun q => B.iter prog w _ _ ⟨hp, g, d, tk, os⟩ _ h1 q
    wp_walk using begin_
    refine wpAny_stack_any fun st => wpAny_pure ?_
    split
    · rename_i c _ _ _ _ _
      cases (c == Value.type "enumerate") <;> (wp_walk using begin_; exact ⟨_, rfl, h⟩)
    · wp_walk using begin_
      exact ⟨_, rfl, h⟩
theorem en_call {prog : Program} {w : World} {A : Around} {E : Value → Shared → Prop} {s : Shared} {v : Value} {o : Obj} {S : Heap → Prop} {Q : Value → Shared → Prop} (B : Begins v o S) (h1 : S s.heap)
    (h : ∀ h', IsEnum h' (s.heap.objs.size + 1) s.heap.objs.size 0 .none → h'.get? s.heap.objs.size = some o → (∀ b u, s.heap.get? b = some u → h'.get? b = some u) → Q (.ref (s.heap.objs.size + 1)) { s with heap := h' }) :
    wpAny (model prog w) A (call (.type "enumerate") [v]) Q E s := by
  refine callType_new F.called_enumerate (by decide) (F.typeCall_enumerate_1 _) (F.newCall_enumerate_1 _) (fun obj => F.args_object_init_2 obj _) F.entry_enumerate_new (en_make B) ⟨h1, ?_⟩
  have sz : (s.heap.push o).objs.size = s.heap.objs.size + 1 := Heap.size_push ..
  show _ ∧ _
  rw [sz]
  have last := Heap.get?_push_size (s.heap.push o) (o := { cls := .type "enumerate", data := .fields #[.none, .bool false, .ref s.heap.objs.size, rawInt 0, .none, .none] }) rfl
  rw [sz] at last
  exact ⟨⟨_, last, rfl⟩, h _ last (Heap.get?_push_of_some _ (Heap.get?_push_size _ B.free)) fun b u x => Heap.get?_push_of_some _ (Heap.get?_push_of_some _ x)⟩
theorem en_end {prog : Program} {w : World} {A : Around} {E : Value → Shared → Prop} {s : Shared} {e it t : Addr} {i : Nat} {items : Array Value} {old : Value} {Q : Option Value → Shared → Prop} (hh : A.handled = none)
    (he : IsEnum s.heap e it i old) (hit : s.heap.IsTupleIter it t i) (ht : s.heap.IsTuple t items) (hx : items[i]? = none) (hQ : ∀ h', Heap.ExtBut it s.heap h' → Q none { s with heap := h' }) : wpAny (model prog w) A (pyNext (.ref e)) Q E s := by
  have T : s.TypeIs (.ref e) "enumerate" := ⟨_, he, rfl⟩
  unfold pyNext
  refine wpAny_bind (wpAny_attempt (wpAny_callSpecial?_slot (name := Str.ofString "__next__") T F.slot_enumerate_next (wpAny_call_entry F.slot_enumerate_next T F.entry_enumerate_next ?_ (F.args_enumerate_next_1 _))))
  show wpAny _ _ (field (.ref e) 2 >>= _) _ _ _
  refine wpAny_bind (wpAny_field he rfl (x := .ref it) rfl (wpAny_bind (wpAny_nextOf_tuple_end hh hit ht hx fun h' x eb hx' => ?_)))
  obtain ⟨o, ho, hc⟩ := hx'
  exact wpAny_bind (wpAny_isInstance (T := "StopIteration") (b := true) ⟨o, ho, hc⟩ isSubtype_stop (wpAny_pure (hQ _ eb)))
/-- the tuple at a, its items in new pairs behind their numbers -/
def ItenT (K : PySem.W.Frag) (a : Addr) : It :=
  ⟨fun i H => ∃ (xs : List V) (x : V), SqT K H a xs ∧ xs[i]? = some x, fun i H v H' => ∃ T x, v = .ref T ∧ H T = none ∧ H' = upd H T (.tup [.int (i : Nat), x]) ∧ ∀ xs, SqT K H a xs → xs[i]? = some x, fun i H => ∃ xs : List V, SqT K H a xs ∧ xs.length ≤ i⟩
theorem turn_enT {P : Program} {w : World} {K : PySem.W.Frag} {elts : List Expr} {kk : Nat} {tpos : Pos} (a e it : Addr) :
    Turn P w K (.Tuple elts kk tpos) (ItenT K a) [e, it] e (fun i h => (∃ old, IsEnum h e it ((i : Nat) : Int) old) ∧ h.IsTupleIter it a i ∧ e ≠ it ∧ a ≠ it ∧ e ≠ a) where
  mem := List.mem_cons_self
  obj := by
    intro i h ⟨⟨old, he⟩, ⟨o, ho, hc, hd⟩, _⟩ b hb
    rcases List.mem_cons.mp hb with z | z
    · rw [z]
      exact ⟨_, he, fun v q => nomatch q⟩
    · exact ⟨o, by rw [List.mem_singleton.mp z]; exact ho, fun v q => by rw [hd] at q; cases q⟩
  keep := by
    intro i h h' ⟨⟨old, he⟩, hi, hne⟩ k
    exact ⟨⟨old, k e (by simp) _ he⟩, hi.at fun o q => k it (by simp) o q, hne⟩
  item := by
    intro X hP hw hK hc i pins s σ H E I hf ⟨⟨old, he⟩, hit, hne, hai, hea⟩ ⟨xs, x, hq, hx⟩
    subst hP hw hK
    obtain ⟨its, rv, p, hz⟩ := I.tuple hq
    obtain ⟨u, hu, ru⟩ := rv.get hx
    have hu' : its.toArray[i]? = some u := by simpa using hu
    have elt : e < s.heap.objs.size := Heap.lt_size he
    have ilt : it < s.heap.objs.size := by obtain ⟨_, q, _⟩ := hit; exact Heap.lt_size q
    have D := Draws.tuple (prog := X.prog) (w := X.w) (A := X.A.in1) (I.ok.hd hc) it a hai its.toArray
    refine wpAny_pyNext_enum_itemD (i := i) D he ⟨hit, show s.heap.IsTuple a its.toArray from p⟩ (by have := (Array.getElem?_eq_some_iff.mp hu').1; exact this) hne (by simp [hne, hea]) fun x' h' tk hx' ho hst hT hsz hk => ?_
    rw [hu'] at hx'
    cases hx'
    refine ⟨_, rfl, wpAny_letOwnedTupleGo_enum (s := { s with heap := h', toks := tk + 1 }) ho fun h'' he' sb => ?_⟩
    have hT2 : h''.get? s.heap.objs.size = some { cls := .type "tuple", data := .seq #[.int i tk, u] } := (sb.2 _ (Nat.ne_of_gt elt)).trans hT
    have made : ObjOk X.prog X.w (upd H s.heap.objs.size (.tup [.int (i : Nat), x])) h'' s.heap.objs.size (.tup [.int (i : Nat), x]) :=
      ⟨by show 2 ≤ sizeLine; decide, [.int i tk, u], .cons ⟨_, rfl⟩ (.cons ru .nil), ⟨_, hT2, rfl, _, rfl⟩⟩
    have I1 : Inv X pins σ (upd H s.heap.objs.size (.tup [.int (i : Nat), x])) { s with heap := h'', toks := tk + 1 } :=
      I.turnedNew (ch := [e, it]) (fun b ob hb q => (sb.2 b (fun z => hb (by simp [z]))).trans (hk b ob (fun z => hb (by simp [z])) (fun z => hb (by simp [z])) q)) hf (Nat.le_refl _) made
    refine ⟨.ref s.heap.objs.size, _, I1, rfl, ⟨_, x, rfl, I.hok.fresh (Nat.le_refl _), rfl, fun ys hy => by rw [I.tuple_inj hy hq]; exact hx⟩, ⟨⟨u, ?_⟩, ?_, hne, hai, hea⟩, fun b hb => ?_⟩
    · rw [show ((i + 1 : Nat) : Int) = (i : Int) + 1 by omega]
      exact he'
    · exact hst.1.at fun o q => (sb.2 it (Ne.symm hne)).trans q
    · have hb' : b < s.heap.objs.size := by
        rcases List.mem_cons.mp hb with z | z
        · rw [z]; exact elt
        · rw [List.mem_singleton.mp z]; exact ilt
      rw [upd_ne (Nat.ne_of_lt hb')]
      exact (hf b hb).1
  done := by
    intro X hP hw hK hc i pins s σ H E I hf ⟨⟨old, he⟩, hit, hne, hai, hea⟩ ⟨xs, hq, hx⟩
    subst hP hw hK
    obtain ⟨its, rv, p, hz⟩ := I.tuple hq
    obtain ⟨f0, f1, f2, f3, f4, f5⟩ := hf it (by simp)
    have hl := rv.length
    refine en_end (I.ok.hd hc) he hit (show s.heap.IsTuple a its.toArray from p) (by simp; omega) fun h' eb => ⟨rfl, I.turned (t' := s.toks) (fun b o hb q => eb b o hb q) f0 f1 f3 f4 f5⟩
  self := fun A i s Q E st h => let ⟨⟨_, he⟩, _⟩ := st; wpAny_pyIter_enum he h

section
variable {X : Cx} {a b : Expr} {wa wb : WE} {pos : Pos}
/-- the iterator of enumerate over a list or a tuple -/
def iEnA (K : PySem.W.Frag) (ta : TA) : TI := fun σ H R => ta σ H fun vs H1 => ∃ p xs, vs = [.ref p] ∧ ((SqL K H1 p xs ∧ R (Ite K p) H1) ∨ (SqT K H1 p xs ∧ R (ItenT K p) H1))
theorem pi_enA {e : Expr} {ta : TA} {p tpos : Pos} {elts : List Expr} {kk : Nat} (hg : Gl X "enumerate") (hm : X.mg "enumerate" = none) (ha : PA X [e] ta) (hs : starEach [e] X.env = [(false, eval e X.env)] := by rfl) :
    PI X (.Tuple elts kk tpos) (.Call (.Name "enumerate" p) [e] [] pos) (iEnA X.K ta) := by
  refine ⟨fun pins s σ H R I h => PyProof.Rows.Call_ (ld_blt I hg hm PyProof.Rows.boot_enumerate (PyProof.Rows.callWith_type1 (thn (ha.run pos pins s σ H _ I h) fun us s1 ⟨vs, H1, I1, r1, q1⟩ => ?_) hs rfl))⟩
  obtain ⟨q, xs, ex, hq⟩ := q1
  subst ex
  obtain ⟨u, rfl, ru⟩ := vals1 r1
  cases (show u = Value.ref q from ru)
  -- the two new cells are young
  have young : ∀ b, b ∈ [s1.heap.objs.size + 1, s1.heap.objs.size] → s1.heap.objs.size ≤ b := fun b hb => by
    rcases List.mem_cons.mp hb with z | z
    · rw [z]; exact Nat.le_add_right _ _
    · rw [List.mem_singleton.mp z]; exact Nat.le_refl _
  rcases hq with ⟨hq, hR⟩ | ⟨hq, hR⟩
  · obtain ⟨its, rv, pl, hz⟩ := I1.list hq
    refine en_call (begins_list q its.toArray) pl.isList fun h' he hit hk => wpAny_pyIter_enum he ?_
    exact ⟨_, [s1.heap.objs.size + 1, s1.heap.objs.size], _, _, H1, rfl, I1.kept (t' := s1.toks) hk, turn_enum q _ s1.heap.objs.size, ⟨⟨.none, he⟩, ⟨_, hit, rfl, rfl⟩, Nat.succ_ne_self _⟩, fun b hb => I1.fpOk (young b hb) (I1.hok.fresh (young b hb)), hR⟩
  · obtain ⟨its, rv, pt, hz⟩ := I1.tuple hq
    have lt := pt.lt
    refine en_call (begins_tuple q its.toArray) (show s1.heap.IsTuple q its.toArray from pt) fun h' he hit hk => wpAny_pyIter_enum he ?_
    exact ⟨_, [s1.heap.objs.size + 1, s1.heap.objs.size], _, _, H1, rfl, I1.kept (t' := s1.toks) hk, turn_enT q _ s1.heap.objs.size, ⟨⟨.none, he⟩, ⟨_, hit, rfl, rfl⟩, Nat.succ_ne_self _, Nat.ne_of_lt lt, Nat.ne_of_gt (Nat.lt_succ_of_lt lt)⟩, fun b hb => I1.fpOk (young b hb) (I1.hok.fresh (young b hb)), hR⟩
/-- pairs of a number and an item -/
def enD : Nat → List D → List D
  | _, [] => []
  | n, d :: ds => .tup [.int (n : Nat), d] :: enD (n + 1) ds
theorem enD_len : ∀ (n : Nat) (ds : List D), (enD n ds).length = ds.length
  | _, [] => rfl
  | n, d :: ds => by simp [enD, enD_len (n + 1) ds]
theorem enD_get : ∀ (n : Nat) (ds : List D) (i : Nat) (d : D), (enD n ds)[i]? = some d → ∃ x, ds[i]? = some x ∧ d = .tup [.int ((n + i : Nat) : Int), x]
  | _, [], i, d, h => by simp [enD] at h
  | n, x :: ds, 0, d, h => by
    simp [enD] at h
    exact ⟨x, rfl, by rw [← h]; rfl⟩
  | n, x :: ds, i + 1, d, h => by
    obtain ⟨y, h1, h2⟩ := enD_get (n + 1) ds i d (by simpa [enD] using h)
    exact ⟨y, by simpa using h1, by rw [h2, show n + 1 + i = n + (i + 1) by omega]⟩
theorem pair_new {K : PySem.W.Frag} {g : G} {cs : Sto} {H : Hp} {d1 d2 : D} {v1 v2 : V} {T : Addr} (s : Sr K g cs H) (h1 : Rep K g d1 v1) (h2 : Rep K g d2 v2) (hn : H T = none) : ∃ g2, Ext g g2 ∧ Sr K g2 cs (upd H T (.tup [v1, v2])) ∧ Rep K g2 (.tup [d1, d2]) (.ref T) :=
  ⟨g.add T _, Ext.add s hn _, s.add hn _, T, [v1, v2], rfl, .of add_at, .cons (h1.mono (Ext.add s hn _)) (.cons (h2.mono (Ext.add s hn _)) .nil)⟩
theorem itd_enL {K : PySem.W.Frag} {g : G} {W : Sto → Prop} {p : Addr} {ds : List D} {vs : List V} (h : g.Z p = some (.lst vs)) (r : RepL K g ds vs) : ItD K g W (Ite K p) (enD 0 ds) := by
  intro g' cs' H e s _
  have h' : SqL K H p vs := .of (s.le _ _ (e.z _ _ h))
  refine ⟨fun i hi => ⟨vs, h', by rw [enD_len] at hi; rw [← r.length]; exact hi⟩, fun i d hd => ?_⟩
  obtain ⟨x, q1, q2⟩ := enD_get 0 ds i d hd
  obtain ⟨v, q3, q4⟩ := r.get q1
  refine ⟨⟨vs, v, h', q3⟩, fun y H' ⟨T, v', e1, hT, e2, q⟩ => ?_⟩
  have := q vs h'
  rw [q3] at this
  cases this
  subst e1 e2 q2
  have e0 : ((0 + i : Nat) : Int) = ((i : Nat) : Int) := by simp
  rw [e0]
  exact pair_new s rfl (Rep.sub e _ _ q4) hT
theorem itd_enT {K : PySem.W.Frag} {g : G} {W : Sto → Prop} {p : Addr} {ds : List D} {vs : List V} (h : SqT K g.Z p vs) (r : RepL K g ds vs) : ItD K g W (ItenT K p) (enD 0 ds) := by
  intro g' cs' H e s _
  have h' : SqT K H p vs := sqT_mono s.le (sqT_mono e.z h)
  refine ⟨fun i hi => ⟨vs, h', by rw [enD_len] at hi; rw [← r.length]; exact hi⟩, fun i d hd => ?_⟩
  obtain ⟨x, q1, q2⟩ := enD_get 0 ds i d hd
  obtain ⟨v, q3, q4⟩ := r.get q1
  refine ⟨⟨vs, v, h', q3⟩, fun y H' ⟨T, v', e1, hT, e2, q⟩ => ?_⟩
  have := q vs h'
  rw [q3] at this
  cases this
  subst e1 e2 q2
  have e0 : ((0 + i : Nat) : Int) = ((i : Nat) : Int) := by simp
  rw [e0]
  exact pair_new s rfl (Rep.sub e _ _ q4) hT
/-- what a list or tuple that stays holds -/
def stay : D → Option (List D)
  | .lst ds => some ds
  | .tup ds => some ds
  | _ => none
def wEnum (w : WA) : WI := fun env cs Q => w env cs fun ds cs' => ∃ d xs, ds = [d] ∧ stay d = some xs ∧ Q (enD 0 xs) wAll cs'
theorem di_enum {e : Expr} {p tpos : Pos} {elts : List Expr} {kk : Nat} {w : WA} (hm : X.mg "enumerate" = none) (ha : DA X [e] w) (hg : Gl X "enumerate" := by rfl) (hs : starEach [e] X.env = [(false, eval e X.env)] := by rfl) :
    DI X (.Tuple elts kk tpos) (.Call (.Name "enumerate" p) [e] [] pos) (wEnum w) := by
  refine ⟨⟨fun pins s σ H R I ⟨g, cs, env, sr, l, h⟩ => (pi_enA hg hm ha.pe hs).run pins s σ H R I ?_⟩, fun env cs Q Q' hq q => ha.mo _ _ _ _ (fun ds cs' ⟨d, xs, e1, e2, q⟩ => ⟨d, xs, e1, e2, hq _ _ _ q⟩) q⟩
  refine lowA.go ha.mo sr l h fun ds cs1 g1 H1 vs ⟨d, xs, e1, e2, q⟩ ex s1 r1 => ?_
  subst e1
  obtain ⟨v, vr, f1, h1, h2⟩ := r1
  have h2' : vr = [] := h2
  subst f1 h2'
  cases d with
  | lst es =>
    cases e2
    obtain ⟨p, us, f2, h3, h4⟩ := h1
    subst f2
    exact ⟨p, us, rfl, .inl ⟨.of (s1.le _ _ h3), q g1 H1 _ ex s1 (itd_enL h3 h4)⟩⟩
  | tup es =>
    cases e2
    obtain ⟨p, us, f2, h3, h4⟩ := h1
    subst f2
    exact ⟨p, us, rfl, .inr ⟨sqT_mono s1.le h3, q g1 H1 _ ex s1 (itd_enT h3 h4)⟩⟩
  | _ => cases e2
/-! ### zip of two lists, of two tuples -/
def zipD : List D → List D → List D
  | d :: ds, e :: es => .tup [d, e] :: zipD ds es
  | _, _ => []
theorem zipD_get : ∀ (ds es : List D) (i : Nat) (d : D), (zipD ds es)[i]? = some d → ∃ x y, ds[i]? = some x ∧ es[i]? = some y ∧ d = .tup [x, y]
  | [], es, i, d, h => by simp [zipD] at h
  | x :: ds, [], i, d, h => by simp [zipD] at h
  | x :: ds, y :: es, 0, d, h => by
    simp [zipD] at h
    exact ⟨x, y, rfl, rfl, h.symm⟩
  | x :: ds, y :: es, i + 1, d, h => by
    obtain ⟨x', y', h1, h2, h3⟩ := zipD_get ds es i d (by simpa [zipD] using h)
    exact ⟨x', y', by simpa using h1, by simpa using h2, h3⟩
theorem zipD_len : ∀ (ds es : List D), (zipD ds es).length = min ds.length es.length
  | [], es => by simp [zipD]
  | x :: ds, [] => by simp [zipD]
  | x :: ds, y :: es => by
    simp only [zipD, List.length_cons, zipD_len ds es]
    omega
theorem itd_zipL {K : PySem.W.Frag} {g : G} {W : Sto → Prop} {p q : Addr} {ds es : List D} {vs us : List V} (h : g.Z p = some (.lst vs)) (h2 : g.Z q = some (.lst us)) (r : RepL K g ds vs) (r2 : RepL K g es us) : ItD K g W (Itz K p q) (zipD ds es) := by
  intro g' cs' H e s _
  have h' : SqL K H p vs := .of (s.le _ _ (e.z _ _ h))
  have h2' : SqL K H q us := .of (s.le _ _ (e.z _ _ h2))
  refine ⟨fun i hi => ⟨vs, us, h', h2', by rw [zipD_len] at hi; rw [← r.length, ← r2.length]; omega⟩, fun i d hd => ?_⟩
  obtain ⟨x, y, q1, q2, q3⟩ := zipD_get ds es i d hd
  obtain ⟨v, k1, k2⟩ := r.get q1
  obtain ⟨u, k3, k4⟩ := r2.get q2
  refine ⟨⟨vs, us, v, u, h', h2', k1, k3⟩, fun z H' ⟨T, v', u', e1, hT, e2, m1, m2⟩ => ?_⟩
  have n1 := m1 vs h'
  have n2 := m2 us h2'
  rw [k1] at n1
  rw [k3] at n2
  cases n1
  cases n2
  subst e1 e2 q3
  exact pair_new s (Rep.sub e _ _ k2) (Rep.sub e _ _ k4) hT
theorem itd_zipT {K : PySem.W.Frag} {g : G} {W : Sto → Prop} {p q : Addr} {ds es : List D} {vs us : List V} (h : SqT K g.Z p vs) (h2 : SqT K g.Z q us) (r : RepL K g ds vs) (r2 : RepL K g es us) : ItD K g W (ItzT K p q) (zipD ds es) := by
  intro g' cs' H e s _
  have h' : SqT K H p vs := sqT_mono s.le (sqT_mono e.z h)
  have h2' : SqT K H q us := sqT_mono s.le (sqT_mono e.z h2)
  refine ⟨fun i hi => ⟨vs, us, h', h2', by rw [zipD_len] at hi; rw [← r.length, ← r2.length]; omega⟩, fun i d hd => ?_⟩
  obtain ⟨x, y, q1, q2, q3⟩ := zipD_get ds es i d hd
  obtain ⟨v, k1, k2⟩ := r.get q1
  obtain ⟨u, k3, k4⟩ := r2.get q2
  refine ⟨⟨vs, us, v, u, h', h2', k1, k3⟩, fun z H' ⟨T, v', u', e1, hT, e2, m1, m2⟩ => ?_⟩
  have n1 := m1 vs h'
  have n2 := m2 us h2'
  rw [k1] at n1
  rw [k3] at n2
  cases n1
  cases n2
  subst e1 e2 q3
  exact pair_new s (Rep.sub e _ _ k2) (Rep.sub e _ _ k4) hT
def wZip (w : WA) : WI := fun env cs Q => w env cs fun ds cs' => ∃ xs ys, (ds = [.lst xs, .lst ys] ∨ ds = [.tup xs, .tup ys]) ∧ Q (zipD xs ys) wAll cs'
theorem di_zip {e e2 : Expr} {p tpos : Pos} {elts : List Expr} {kk : Nat} {w : WA} (hm : X.mg "zip" = none) (ha : DA X [e, e2] w) (hg : Gl X "zip" := by rfl) (he : starEach (e :: [e2]) X.env = (false, eval e X.env) :: starEach [e2] X.env := by rfl) (hpl : (backTo pos (starEach [e2] X.env)).any (·.1) = false := by rfl) :
    DI X (.Tuple elts kk tpos) (.Call (.Name "zip" p) [e, e2] [] pos) (wZip w) := by
  refine ⟨⟨fun pins s σ H R I ⟨g, cs, env, sr, l, h⟩ => (pi_zipA (hg := hg) (hm := hm) (ha := ha.pe) he hpl).run pins s σ H R I ?_⟩, fun env cs Q Q' hq q => ha.mo _ _ _ _ (fun ds cs' ⟨xs, ys, e1, q⟩ => ⟨xs, ys, e1, hq _ _ _ q⟩) q⟩
  refine lowA.go ha.mo sr l h fun ds cs1 g1 H1 vs ⟨xs, ys, e1, q⟩ ex s1 r1 => ?_
  rcases e1 with e1 | e1
  · subst e1
    obtain ⟨v, vr, f1, h1, v2, vr2, f2, h2, h3⟩ := r1
    have h3' : vr2 = [] := h3
    subst f1 f2 h3'
    obtain ⟨p, us, f3, h4, h5⟩ := h1
    obtain ⟨p2, us2, f4, h6, h7⟩ := h2
    subst f3 f4
    exact ⟨p, p2, us, us2, rfl, .inl ⟨.of (s1.le _ _ h4), .of (s1.le _ _ h6), q g1 H1 _ ex s1 (itd_zipL h4 h6 h5 h7)⟩⟩
  · subst e1
    obtain ⟨v, vr, f1, h1, v2, vr2, f2, h2, h3⟩ := r1
    have h3' : vr2 = [] := h3
    subst f1 f2 h3'
    obtain ⟨p, us, f3, h4, h5⟩ := h1
    obtain ⟨p2, us2, f4, h6, h7⟩ := h2
    subst f3 f4
    exact ⟨p, p2, us, us2, rfl, .inr ⟨sqT_mono s1.le h4, sqT_mono s1.le h6, q g1 H1 _ ex s1 (itd_zipT h4 h6 h5 h7)⟩⟩
/-! ### repr -/
mutual
theorem noDict_toPy : ∀ (d : D) (p : PyData), toPy d = some p → p.hasDict = false
  | .non, p, e => by simp only [toPy, Option.some.injEq] at e; subst e; simp only [PyData.hasDict]
  | .bl b, p, e => by simp only [toPy, Option.some.injEq] at e; subst e; simp only [PyData.hasDict]
  | .int i, p, e => by simp only [toPy, Option.some.injEq] at e; subst e; simp only [PyData.hasDict]
  | .str x, p, e => by simp only [toPy, Option.some.injEq] at e; subst e; simp only [PyData.hasDict]
  | .tup ds, p, e => by
    unfold toPy at e
    split at e
    · rename_i ps hp
      cases e
      simp only [PyData.hasDict]
      exact noDict_toPyL ds ps hp
    · cases e
  | .lst ds, p, e => by
    unfold toPy at e
    split at e
    · rename_i ps hp
      cases e
      simp only [PyData.hasDict]
      exact noDict_toPyL ds ps hp
    · cases e
  | .ty _, _, e => by simp [toPy] at e
  | .ref _, _, e => by simp [toPy] at e
  | .dic _, _, e => by simp [toPy] at e
  | .obj _ _, _, e => by simp [toPy] at e
  | .cell _, _, e => by simp [toPy] at e
  | .scr _, _, e => by simp [toPy] at e
theorem noDict_toPyL : ∀ (ds : List D) (ps : List PyData), toPyL ds = some ps → PyData.hasDictAll ps = false
  | [], ps, e => by simp only [toPyL, Option.some.injEq] at e; subst e; simp only [PyData.hasDictAll]
  | d :: ds, ps, e => by
    unfold toPyL at e
    split at e
    · rename_i p hp
      split at e
      · rename_i qs hq
        cases e
        simp only [PyData.hasDictAll, noDict_toPy d p hp, noDict_toPyL ds qs hq, Bool.or_self]
      · cases e
    · cases e
end
theorem noDict_pyOf {cs : Sto} {d : D} {p : PyData} (e : pyOf cs d = some p) : p.hasDict = false := by
  unfold pyOf at e
  split at e
  · split at e
    · split at e
      · cases e
        simp only [PyData.hasDict]
        exact noDict_toPyL _ _ ‹_›
      · cases e
    · cases e
  · exact noDict_toPy _ p e
def oRepr : O1 := fun d cs Q => ∃ p, pyOf cs d = some p ∧ p.showable = true ∧ p.shown.length ≤ sizeLine ∧ p.depth ≤ 60 ∧ Q (.str p.shown) cs
theorem cd_repr (hg : X.A.guards = some []) (hu : X.A.units + 64 < cLine) : CallD X (.builtin "repr") (o1 oRepr) := cd1 (fun d cs Q Q' h ⟨p, e1, e2, e3, e4, q⟩ => ⟨p, e1, e2, e3, e4, h _ _ q⟩) fun pins s σ H x u Q g cs d I ru rv sr r ⟨p, e1, e2, e3, e4, q⟩ => by
  obtain ⟨as, rd⟩ := Dp.reads I p x u (dp_pyOf sr e1 r) ru
  have fin : ∀ h' t tk, (∀ b o, s.heap.get? b = some o → h'.get? b = some o) → EP X pins σ Q (.str p.shown t) { s with heap := h', toks := tk } := fun h' t tk hk => ⟨.str p.shown, H, I.kept hk, ⟨t, rfl⟩, q g H _ (Ext.refl g) sr rfl⟩
  cases x with
  | ref a =>
    cases (show u = Value.ref a from ru)
    exact repr_of_reads' rd e2 (fun h => by rw [noDict_pyOf e1] at h; cases h) hg (by omega) (fun _ _ e => e) (fun h' t tk hk => fin h' t tk hk) e3
  | int i =>
    obtain ⟨t, rfl⟩ := ru
    have hp : p = .int i := by
      cases rd
      rfl
    subst hp
    exact PySem.P.repr_of_int (by simpa [PyData.showable] using e2) (by simpa only [PyData.shown] using fin s.heap s.toks (s.toks + 1) fun _ _ e => e)
  | bl b =>
    cases (show u = Value.bool b from ru)
    have hp : p = .bool b := by
      cases rd
      rfl
    subst hp
    exact PySem.P.repr_of_bool (by simpa only [PyData.shown] using fin s.heap s.toks (s.toks + 1) fun _ _ e => e)
  | non =>
    cases (show u = Value.none from ru)
    have hp : p = .none := by
      cases rd
      rfl
    subst hp
    exact PySem.P.repr_of_none (by simpa only [PyData.shown] using fin s.heap s.toks (s.toks + 1) fun _ _ e => e)
  | str y =>
    obtain ⟨t, rfl⟩ := ru
    have hp : p = .str y := by
      cases rd
      rfl
    subst hp
    exact PySem.P.repr_of_str (by simpa only [PyData.shown] using fin s.heap s.toks (s.toks + 1) fun _ _ e => e) (by simpa only [PyData.shown] using e3)
  | byt y => obtain ⟨t, rfl⟩ := ru; cases rd
  | flt y => obtain ⟨t, rfl⟩ := ru; cases rd
  | ty n => cases (show u = Value.type n from ru); cases rd
end
end DL

/-! DEnd: a changing list that stays from a statement on; methods of lists; the end of a law. -/
namespace DL
open PySem PySem.Spec L2
open PyProof.Rows (IntsAre)

/-- from here on the list in slot i stays -/
def wFrz (i : Nat) (u : WS) : WS := fun E env cs => ∃ n ds, env[i]? = some (some (.cell n)) ∧ cs[n]? = some (.lst ds) ∧ u E (env.set i (some (.lst ds))) (cs.set n .dead)
theorem dss_frz {X : Cx} {sts : List Stmt} {u : WS} (i : Nat) (h : DSs X sts u) : DSs X sts (wFrz i u) := by
  refine ⟨PSs.imp h.pe fun D σ H ⟨g, cs, env, s, l, n, ds, e1, e2, hu⟩ => ?_, fun E E' env cs hE ⟨n, ds, e1, e2, hu⟩ => ⟨n, ds, e1, e2, h.mo _ _ _ _ hE hu⟩⟩
  obtain ⟨v, q1, a, ev, q2⟩ := l.ok i _ e1
  subst ev
  obtain ⟨vs, r1, r2, r3⟩ := s.ok n a _ q2 e2
  obtain ⟨s2, ex⟩ := s.freeze q2 e2 r1 r3
  refine ⟨_, _, _, s2, ?_, h.mo _ _ _ _ (upN.mono ex D) hu⟩
  have l2 := (l.mono ex).set (i := i) (d := .lst ds) (v := .ref a) ⟨a, vs, rfl, add_at, r2.mono ex⟩
  have es : σ.set i (some (.ref a)) = σ := by
    apply List.ext_getElem?
    intro j
    by_cases hj : i = j
    · subst hj
      rw [List.getElem?_set_self (List.getElem?_eq_some_iff.mp q1).1, q1]
    · rw [List.getElem?_set_ne hj]
  rw [es] at l2
  exact l2
section
variable {X : Cx} {a b : Expr} {wa wb : WE} {pos : Pos}
end
/-- a constant of the module -/
structure KonD (K : PySem.W.Frag) (mg : Str → Option Value) (x : Str) (d : D) : Prop where
  it : ∃ u v, mg x = some u ∧ RelV v u ∧ ∀ g, Rep K g d v
theorem KonD.de {X : Cx} {x : Str} {d : D} {pos : Pos} (k : KonD X.K X.mg x d) (hg : Gl X x) (hd : (x == ("__debug__" : Str)) = false := by decide) : DE X (.Name x pos) (wC d) := by
  obtain ⟨u, v, h1, h2, h3⟩ := k.it
  exact de_glob d hg h1 h2 h3 hd
theorem kon_int {K : PySem.W.Frag} {h : Heap} {mg : Str → Option Value} (X : K.In h) (G : h.Ns mainGlobals mg) {x : Str} {i : Int} {t : Tok} (q : PySem.W.nsIn K mainGlobals x = some (some (.int i t))) : KonD K mg x (.int i) :=
  ⟨_, .int i, PySem.W.mg_of X G q, ⟨t, rfl⟩, fun _ => rfl⟩
/-- x += y -/
def oIadd : O2 := fun d1 d2 cs Q => match d1, d2 with
  | .int i, .int j => Q (.int (i + j)) cs
  | .str x, .str y => x.length + y.length ≤ sizeLine ∧ Q (.str (x ++ y)) cs
  | _, _ => False
theorem opd_iadd {X : Cx} : OpD X (inplaceOp .Add) oIadd := by
  refine .mk' (fun d1 d2 cs Q Q' h q => ?_) fun pins s σ H x y v u Q g cs d1 d2 I rx ry sr r1 r2 q => ?_
  · unfold oIadd at q ⊢
    split at q
    · exact h _ _ q
    · exact ⟨q.1, h _ _ q.2⟩
    · exact q
  · unfold oIadd at q
    split at q
    · cases r1; cases r2
      exact iop_add pins s σ H _ _ v u Q I rx ry ⟨_, _, rfl, rfl, q g H _ (Ext.refl g) sr rfl⟩
    · cases r1; cases r2
      exact iop_add_str pins s σ H _ _ v u Q I rx ry ⟨_, _, rfl, rfl, q.1, q.2 g H _ (Ext.refl g) sr rfl⟩
    · exact q.elim
/-- what the law gives: True at every list of ints -/
def spLaw (n : Nat) : FSpec := { ι := { ns : List Int // ns.length ≤ n }, args := fun ns => [.scr ns.1], pre := fun _ cs => cs = [], res := fun _ _ d _ => d = .bl true }
theorem walk_D {l : PySem.W.OpenLaw} {n k : Nat} {q : Program} {loose : List Str} {XP : (Str → Option Value) → Heap → Prop} {YP : World → Heap → Prop} {d : DefRec} {K : Params → PySem.W.Frag} {x : Str}
    (hn : l.most = some n) (hn2 : n ≤ sizeLine) (hdf : d.params.defaults = []) (hr : RoomG k callerA) (hY : ∀ (w : World) (h : Heap), YP w h → (K w.params).In h)
    (F : ∀ (w : World) (mg : Str → Option Value) (fa : Addr) (h : Heap), (K w.params).In h → h.Ns mainGlobals mg → mg d.name = some (.ref fa) →
      ∃ fd : FuncData, (∀ (s : Shared) (u : Value), BindsTo s fd ⟨[u], []⟩ [(x, u)]) ∧ ∀ base : Heap, (K w.params).In base → base.Ns mainGlobals mg → FnG l.prog w (K w.params) mg base CX0 k fa fd [x] (dSp (K w.params) (spLaw n))) :
    PySem.W.WalkO q loose XP YP l.row.toRowW d [] (fun f vs => PySem.call f vs) := by
  refine Att.attach_call hn hdf fun w s₀ s mg mb fa o pm cd doc a vs ns Gr Y ho hd hcd hmg hobj hints hlen hg => ?_
  have KX := hY w _ Y
  obtain ⟨fd, hb, hF⟩ := F w mg fa _ KX Gr.T.g hmg
  have rv := vals_ints hints
  have hl : ns.length ≤ sizeLine := Nat.le_trans hlen hn2
  have lenV := hints.length
  -- some abstract heap in which nothing but the script may stand, locked
  obtain ⟨H, only, seq, hok, free⟩ : ∃ H : Hp, (∀ b, H b = none ∨ ∃ ob xs, H b = some (.frz ob (.lst xs))) ∧ SqL (K w.params) H a (ns.map V.int) ∧ HOk l.prog w H s.heap ∧ ∀ b, H b ≠ none → b = a ∧ (K w.params).lookup a = none := by
    cases hk : (K w.params).lookup a with
    | some ob =>
      have e := KX a ob hk
      rw [hobj] at e
      cases e
      exact ⟨fun _ => none, fun _ => .inl rfl, .inr ⟨_, vs.toArray, _, hk, rfl, rfl, rfl, by rw [List.size_toArray, lenV]; exact hl, by simpa using rv⟩, fun b u z => (by cases (show (none : Option HO) = some u from z)), fun b z => absurd rfl z⟩
    | none =>
      refine ⟨upd (fun _ => none) a (.frz { cls := .type "list", data := .seq vs.toArray } (.lst (ns.map V.int))), fun b => ?_, .inl (.inr ⟨_, upd_same⟩), fun b u z => ?_, fun b z => ?_⟩
      · by_cases e : b = a
        · exact .inr ⟨_, _, by rw [e]; exact upd_same⟩
        · exact .inl (upd_ne e)
      · by_cases e : b = a
        · subst e
          rw [upd_same] at z
          cases z
          exact ⟨hobj, by rw [List.length_map]; exact hl, vs, _, rv, hobj⟩
        · rw [upd_ne e] at z
          cases z
      · by_cases e : b = a
        · exact ⟨e, rfl⟩
        · exact absurd (upd_ne e) z
  have nons : ∀ {b : Addr} {m : Str → Option Value}, s.heap.Ns b m → (hidT s.heap H).Ns b m := fun {b m} ⟨ob, es, ep, e, dd, r⟩ => ⟨ob, es, ep, hidT_get e (by
    cases z : H b with
    | none => rfl
    | some u =>
      obtain ⟨rfl, _⟩ := free b (by rw [z]; simp)
      rw [hobj] at e
      cases e
      cases (show Data.seq vs.toArray _ = Data.dict es ep from dd)), dd, r⟩
  have Kb : (K w.params).In (hidT s.heap H) := fun b ob e => hidT_get (KX b ob e) (by
    cases z : H b with
    | none => rfl
    | some u =>
      obtain ⟨rfl, z2⟩ := free b (by rw [z]; simp)
      rw [z2] at e
      cases e)
  have M : Mod (K w.params) mg (hidT s.heap H) := ⟨Kb, nons Gr.T.g, ⟨mb, nons Gr.T.b, Gr.T.builtins⟩, let ⟨mc, h1, h2⟩ := Gr.T.nolimit; ⟨mc, nons h1, h2⟩⟩
  have e0 : Env0 l.prog w (K w.params) mg (hidT s.heap H) callerA [] s H := ⟨rfl, M, fun b ob e => of_hidT e, Nat.le_of_eq (hidT_size _ _), trivial, fun b z => (by cases z), hok, PyProof.Rows.AllBare.of_eq hg⟩
  let g0 : G := ⟨H, [], []⟩
  have sr0 : Sr (K w.params) g0 [] H := ⟨fun _ _ e => e, rfl, List.nodup_nil, fun b z => (by cases z), fun i b c z _ => (by cases (show ([] : List Addr)[i]? = some b from z)), fun p z => (by cases z), List.nodup_nil⟩
  have sp0 : dSp (K w.params) (spLaw n) [.ref a] H (fun v _ => v = .bl true) fun _ _ _ => False :=
    ⟨g0, [], ⟨ns, hlen⟩, sr0, .cons ⟨a, rfl, seq⟩ .nil, rfl, fun dd cs' z g' H' v _ _ r => by
      have z' : dd = .bl true := z
      subst z'
      exact r, fun x cs' z => z.elim⟩
  refine codeAny_mono ((hF _ Kb (nons Gr.T.g)).run callerA [] s H ⟨[.ref a], []⟩ [.ref a] [.ref a] _ _ hr e0 (hb s (.ref a)) (.cons rfl .nil) sp0) fun r s' h => ?_
  cases r with
  | error e => exact (show False from h).elim
  | ok fl =>
    cases fl with
    | next => exact h.elim
    | brk => exact h.elim
    | cont => exact h.elim
    | ret u =>
      obtain ⟨v, H', os, bare, un, hok', r', z⟩ := h
      cases (show v = .bl true from z)
      cases (show u = Value.bool true from r')
      refine ⟨rfl, OldK.of_keep fun b ob e => ?_, os, bare⟩
      rcases only b with z | ⟨ob', xs, z⟩
      · exact un.keep b ob e z (by simp [frs]) (by simp)
      · obtain ⟨e1, _⟩ := hok b _ z
        obtain ⟨e2, _⟩ := hok' b _ (un.frzs b ob' _ z)
        rw [e] at e1
        cases e1
        exact e2
end DL

/-! DLib: what loops do, by an invariant; the sieve; sizes of ints. -/
namespace DL
open PySem PySem.Spec L2

/-! ### loops by an invariant -/
theorem for_inv {p : Pat} {wb : WS} {E : DN} {W : Sto → Prop} (I : Nat → En → Sto → Prop) : ∀ (ds : List D) (env : En) (cs : Sto) (h0 : I 0 env cs) (hW : ∀ i env cs, I i env cs → W cs)
    (hs : ∀ i d env cs, ds[i]? = some d → I i env cs → ∃ env', patSet cs p d env = some env' ∧ ∀ E' : DN, (∀ env cs, I (i + 1) env cs → E'.nx env cs) → (∀ env cs, I (i + 1) env cs → E'.ct env cs) → (∀ d cs, E.rt d cs → E'.rt d cs) → (∀ env cs, E.nx env cs → E'.bk env cs) → wb E' env' cs)
    (hd : ∀ env cs, I ds.length env cs → E.nx env cs), floop p wb E W ds env cs
  | [], env, cs, h0, hW, hs, hd => ⟨hW _ _ _ h0, hd _ _ h0⟩
  | d :: ds, env, cs, h0, hW, hs, hd => by
    refine ⟨hW _ _ _ h0, ?_⟩
    obtain ⟨env', e, h⟩ := hs 0 d env cs rfl h0
    rw [e]
    have go : ∀ env cs, I 1 env cs → floop p wb E W ds env cs := fun env cs h1 => for_inv (fun i => I (i + 1)) ds env cs h1 (fun i => hW (i + 1)) (fun i d env cs hi => hs (i + 1) d env cs (by simpa using hi)) (fun env cs => hd env cs)
    exact h _ go go (fun _ _ q => q) (fun _ _ q => q)
theorem lc_inv {p : Pat} {tt : WT} {we : WE} {env : En} {W : Sto → Prop} {Q : PD} (I : Nat → List D → Sto → Prop) : ∀ (ds acc : List D) (cs : Sto) (h0 : I 0 acc cs) (hW : ∀ i acc cs, I i acc cs → W cs)
    (hs : ∀ i d acc cs, ds[i]? = some d → I i acc cs → ∃ env', patSet cs p d env = some env' ∧ ∀ (R1 : PD) (R2 : Sto → Prop), (∀ y cs, I (i + 1) (acc ++ [y]) cs → R1 y cs) → (∀ cs, I (i + 1) acc cs → R2 cs) → tt env' cs fun b cs2 => if b = true then we env' cs2 R1 else R2 cs2)
    (hd : ∀ acc cs, I ds.length acc cs → Q (.lst acc) cs), lcloop p tt we env W Q ds acc cs
  | [], acc, cs, h0, hW, hs, hd => ⟨hW _ _ _ h0, hd _ _ h0⟩
  | d :: ds, acc, cs, h0, hW, hs, hd => by
    refine ⟨hW _ _ _ h0, ?_⟩
    obtain ⟨env', e, h⟩ := hs 0 d acc cs rfl h0
    rw [e]
    have go : ∀ acc cs, I 1 acc cs → lcloop p tt we env W Q ds acc cs := fun acc cs h1 => lc_inv (fun i => I (i + 1)) ds acc cs h1 (fun i => hW (i + 1)) (fun i d acc cs hi => hs (i + 1) d acc cs (by simpa using hi)) (fun acc cs => hd acc cs)
    exact h _ _ (fun y cs h1 => go _ cs h1) (fun cs h1 => go _ cs h1)
/-- a comprehension without a test whose element changes nothing -/
theorem lc_map {p : Pat} {we : WE} {env : En} {W : Sto → Prop} {Q : PD} (f : D → D) {cs : Sto} (hW : W cs) : ∀ (ds acc : List D)
    (hs : ∀ d ∈ ds, ∃ env', patSet cs p d env = some env' ∧ ∀ R : PD, R (f d) cs → we env' cs R) (hd : Q (.lst (acc ++ ds.map f)) cs), lcloop p wYes we env W Q ds acc cs
  | [], acc, hs, hd => ⟨hW, by simpa using hd⟩
  | d :: ds, acc, hs, hd => by
    refine ⟨hW, ?_⟩
    obtain ⟨env', e, h⟩ := hs d List.mem_cons_self
    rw [e]
    show wYes env' cs _
    simp only [wYes, if_true]
    exact h _ (lc_map f hW ds _ (fun d hd => hs d (List.mem_cons_of_mem _ hd)) (by simpa using hd))
/-- with a test -/
theorem lc_filter {p : Pat} {tt : WT} {we : WE} {env : En} {W : Sto → Prop} {Q : PD} (t : D → Bool) (f : D → D) {cs : Sto} (hW : W cs) : ∀ (ds acc : List D)
    (hs : ∀ d ∈ ds, ∃ env', patSet cs p d env = some env' ∧ (∀ R : Bool → Sto → Prop, R (t d) cs → tt env' cs R) ∧ (t d = true → ∀ R : PD, R (f d) cs → we env' cs R)) (hd : Q (.lst (acc ++ (ds.filter t).map f)) cs), lcloop p tt we env W Q ds acc cs
  | [], acc, hs, hd => ⟨hW, by simpa using hd⟩
  | d :: ds, acc, hs, hd => by
    refine ⟨hW, ?_⟩
    obtain ⟨env', e, h1, h2⟩ := hs d List.mem_cons_self
    rw [e]
    refine h1 _ ?_
    have tl : ∀ d ∈ ds, ∃ env', patSet cs p d env = some env' ∧ (∀ R : Bool → Sto → Prop, R (t d) cs → tt env' cs R) ∧ (t d = true → ∀ R : PD, R (f d) cs → we env' cs R) := fun d hd => hs d (List.mem_cons_of_mem _ hd)
    cases ht : t d with
    | true =>
      rw [if_pos rfl]
      refine h2 ht _ (lc_filter t f hW ds _ tl ?_)
      simpa [List.filter_cons, ht] using hd
    | false =>
      rw [if_neg (by simp)]
      refine lc_filter t f hW ds _ tl ?_
      simpa [List.filter_cons, ht] using hd

/-! ### the sieve: its cells, how many were begun, what is left of a great one -/
def svc (ns : List Int) (k r : Int) : CO := .lst [.lst (ns.map .int), .int k, .int r]
def SvN (i n : Nat) (cs : Sto) : Prop := ∃ ns k r, cs[i]? = some (svc ns k r) ∧ 0 ≤ k ∧ k ≤ (n : Int) ∧ ns.length ≤ 60
/-- at i a sieve that has begun at most n cells; all else as it was -/
structure Mv (i n : Nat) (cs cs' : Sto) : Prop where
  sv : SvN i n cs'
  len : cs'.length = cs.length
  el : ∀ j, j ≠ i → cs'[j]? = cs[j]?
theorem SvN.mono {i n m : Nat} {cs : Sto} (h : SvN i n cs) (l : n ≤ m) : SvN i m cs := by
  obtain ⟨ns, k, r, e, h0, h1, h2⟩ := h
  exact ⟨ns, k, r, e, h0, by omega, h2⟩
theorem Mv.refl {i n : Nat} {cs : Sto} (h : SvN i n cs) : Mv i n cs cs := ⟨h, rfl, fun _ _ => rfl⟩
theorem Mv.trans {i n m : Nat} {cs cs1 cs2 : Sto} (a : Mv i n cs cs1) (b : Mv i m cs1 cs2) : Mv i m cs cs2 := ⟨b.sv, b.len.trans a.len, fun j h => (b.el j h).trans (a.el j h)⟩
theorem Mv.mono {i n m : Nat} {cs cs1 : Sto} (a : Mv i n cs cs1) (l : n ≤ m) : Mv i m cs cs1 := ⟨a.sv.mono l, a.len, a.el⟩
theorem Mv.set {i n : Nat} {cs : Sto} {ns : List Int} {k r : Int} (hi : i < cs.length) (h0 : 0 ≤ k) (h1 : k ≤ (n : Int)) (h2 : ns.length ≤ 60) : Mv i n cs (cs.set i (svc ns k r)) :=
  ⟨⟨ns, k, r, by rw [List.getElem?_set_self hi], h0, h1, h2⟩, by simp, fun j h => by rw [List.getElem?_set_ne (Ne.symm h)]⟩

/-! ### sizes of ints -/
def Bd (n : Nat) (x : Int) : Prop := x.natAbs < 2 ^ n
theorem Bd.mono {n m : Nat} {x : Int} (h : Bd n x) (l : n ≤ m) : Bd m x := Nat.lt_of_lt_of_le h (Nat.pow_le_pow_right (by decide) l)
theorem Bd.add {n : Nat} {x y : Int} (h : Bd n x) (k : Bd n y) : Bd (n + 1) (x + y) := by
  have e : 2 ^ (n + 1) = 2 ^ n + 2 ^ n := by rw [Nat.pow_succ]; omega
  unfold Bd at *
  rw [e]
  omega
theorem Bd.sub {n : Nat} {x y : Int} (h : Bd n x) (k : Bd n y) : Bd (n + 1) (x - y) := by
  have e : 2 ^ (n + 1) = 2 ^ n + 2 ^ n := by rw [Nat.pow_succ]; omega
  unfold Bd at *
  rw [e]
  omega
theorem Bd.neg {n : Nat} {x : Int} (h : Bd n x) : Bd n (-x) := by
  unfold Bd at *
  rw [Int.natAbs_neg]
  exact h
theorem Bd.mul {n m : Nat} {x y : Int} (h : Bd n x) (k : Bd m y) : Bd (n + m) (x * y) := by
  unfold Bd at *
  rw [Int.natAbs_mul, Nat.pow_add]
  exact Nat.mul_lt_mul'' h k
theorem Bd.ok {n m : Nat} {x y : Int} (h : Bd n x) (k : Bd m y) (l : n + m ≤ 900000) : cMul x y :=
  .inr (wide_mul (a := n + 1) (b := m + 1) (h.mono (Nat.le_succ n)) (k.mono (Nat.le_succ m)) (Nat.succ_pos _) (Nat.succ_pos _) (by omega))
theorem Bd.left {x y : Int} (h : Bd 64 x) : cMul x y := .inl (.inl (by unfold Bd at h; omega))
theorem Bd.right {x y : Int} (h : Bd 64 y) : cMul x y := .inl (.inr (by unfold Bd at h; omega))
theorem Bd.of {n : Nat} {x : Int} (h : x.natAbs < 2 ^ n) : Bd n x := h
end DL

/-! DEval: the readings computed step by step, from the outside: what stands behind a step is not looked at before the step is done. -/
namespace DL
open PySem PySem.Spec L2

/-- what must not be looked at yet: a later place of the same word hangs on it -/
structure Lz {α : Sort u} (k : α) : Type where
/-- go on with what is there -/
def bindP {α : Type} (o : Option α) (k : α → Prop) (_z : Lz k := ⟨⟩) : Prop := match o with
  | some a => k a
  | none => False
theorem bindP_some {α : Type} (a : α) (k : α → Prop) (z : Lz k) : bindP (some a) k z = k a := (rfl)
theorem bindP_none {α : Type} (k : α → Prop) (z : Lz k) : bindP none k z = False := (rfl)
theorem bindP_i {α : Type} {o : Option α} {k : α → Prop} {z : Lz k} (a : α) (h : o = some a) (q : k a) : bindP o k z := by rw [h]; exact q
def cond2 (b : Bool) (A B : Prop) (_z : Lz (PProd.mk A B) := ⟨⟩) : Prop := if b = true then A else B
theorem cond2_true (A B : Prop) (z : Lz (PProd.mk A B)) : cond2 true A B z = A := (rfl)
theorem cond2_false (A B : Prop) (z : Lz (PProd.mk A B)) : cond2 false A B z = B := (rfl)
theorem cond2_i {b : Bool} {A B : Prop} {z : Lz (PProd.mk A B)} (h1 : b = true → A) (h2 : b = false → B) : cond2 b A B z := by
  cases b
  · exact h2 rfl
  · exact h1 rfl
theorem cond2_d {p : Prop} [Decidable p] {A B : Prop} {z : Lz (PProd.mk A B)} (h1 : p → A) (h2 : ¬ p → B) : cond2 (decide p) A B z := by
  by_cases h : p
  · rw [decide_eq_true h]; exact h1 h
  · rw [decide_eq_false h]; exact h2 h
theorem cond2_n {p : Prop} [Decidable p] {A B : Prop} {z : Lz (PProd.mk A B)} (h1 : ¬ p → A) (h2 : p → B) : cond2 (!decide p) A B z := by
  by_cases h : p
  · rw [decide_eq_true h]; exact h2 h
  · rw [decide_eq_false h]; exact h1 h
def letE {α : Type} (e : α) (k : α → Prop) (_z : Lz k := ⟨⟩) : Prop := k e
theorem letE_eq {α : Type} (e : α) (k : α → Prop) (z : Lz k) : letE e k z = k e := (rfl)
def envAt (env : En) (i : Nat) : Option D := match env[i]? with
  | some (some d) => some d
  | _ => none
theorem envAt_zero (d : D) (env : En) : envAt (some d :: env) 0 = some d := (rfl)
theorem envAt_none (env : En) : envAt (none :: env) 0 = none := (rfl)
theorem envAt_succ (x : Option D) (env : En) (n : Nat) : envAt (x :: env) (n + 1) = envAt env n := (rfl)
/-- a call of a def by its contract: nothing is looked at but the arguments -/
def callP (s : FSpec) (ds : List D) (cs : Sto) (Q : PD) (_z : Lz (s, Q) := ⟨⟩) : Prop := ∃ i, ds = s.args i ∧ s.pre i cs ∧ ∀ d cs', s.res i cs d cs' → Q d cs'
theorem callP_i {s : FSpec} {ds : List D} {cs : Sto} {Q : PD} {z : Lz (s, Q)} (i : s.ι) (h : ds = s.args i) (hp : s.pre i cs) (q : ∀ d cs', s.res i cs d cs' → Q d cs') : callP s ds cs Q z := ⟨i, h, hp, q⟩
/-- walks: nothing is looked at but the items and the store -/
def forP (p : Pat) (wb : WS) (E : DN) (W : Sto → Prop) (ds : List D) (env : En) (cs : Sto) (_z : Lz (p, wb, E, W) := ⟨⟩) : Prop := floop p wb E W ds env cs
theorem forP_i {p : Pat} {wb : WS} {E : DN} {W : Sto → Prop} {ds : List D} {env : En} {cs : Sto} {z : Lz (p, wb, E, W)} (h : floop p wb E W ds env cs) : forP p wb E W ds env cs z := h
theorem forP_nil (p : Pat) (wb : WS) (E : DN) (W : Sto → Prop) (env : En) (cs : Sto) (z : Lz (p, wb, E, W)) : forP p wb E W [] env cs z = (W cs ∧ E.nx env cs) := (rfl)
theorem forP_cons (p : Pat) (wb : WS) (E : DN) (W : Sto → Prop) (d : D) (ds : List D) (env : En) (cs : Sto) (z : Lz (p, wb, E, W)) : forP p wb E W (d :: ds) env cs z = (W cs ∧ bindP (patSet cs p d env) fun env' => wb { E with nx := fun env cs => forP p wb E W ds env cs, ct := fun env cs => forP p wb E W ds env cs, bk := E.nx } env' cs) := by
  show floop p wb E W (d :: ds) env cs = _
  unfold floop
  cases patSet cs p d env <;> rfl
def lcP (p : Pat) (tt : WT) (we : WE) (env : En) (W : Sto → Prop) (Q : PD) (ds acc : List D) (cs : Sto) (_z : Lz (p, tt, we, env, W, Q) := ⟨⟩) : Prop := lcloop p tt we env W Q ds acc cs
theorem lcP_i {p : Pat} {tt : WT} {we : WE} {env : En} {W : Sto → Prop} {Q : PD} {ds acc : List D} {cs : Sto} {z : Lz (p, tt, we, env, W, Q)} (h : lcloop p tt we env W Q ds acc cs) : lcP p tt we env W Q ds acc cs z := h
theorem lcP_nil (p : Pat) (tt : WT) (we : WE) (env : En) (W : Sto → Prop) (Q : PD) (acc : List D) (cs : Sto) (z : Lz (p, tt, we, env, W, Q)) : lcP p tt we env W Q [] acc cs z = (W cs ∧ Q (.lst acc) cs) := (rfl)
theorem lcP_cons (p : Pat) (tt : WT) (we : WE) (env : En) (W : Sto → Prop) (Q : PD) (d : D) (ds acc : List D) (cs : Sto) (z : Lz (p, tt, we, env, W, Q)) : lcP p tt we env W Q (d :: ds) acc cs z = (W cs ∧ bindP (patSet cs p d env) fun env' => tt env' cs fun b cs2 => cond2 b (we env' cs2 fun y cs3 => lcP p tt we env W Q ds (acc ++ [y]) cs3) (lcP p tt we env W Q ds acc cs2)) := by
  show lcloop p tt we env W Q (d :: ds) acc cs = _
  unfold lcloop
  cases patSet cs p d env <;> rfl
def whileP (t : WT) (wb : WS) (E : DN) (env : En) (cs : Sto) (_z : Lz (t, wb, E, env) := ⟨⟩) : Prop := wWhile t wb E env cs
theorem whileP_i {t : WT} {wb : WS} {E : DN} {env : En} {cs : Sto} {z : Lz (t, wb, E, env)} (h : wWhile t wb E env cs) : whileP t wb E env cs z := h
theorem wWhile_eq (t : WT) (wb : WS) (E : DN) (env : En) (cs : Sto) : wWhile t wb E env cs = whileP t wb E env cs := (rfl)

section
variable {env : En} {cs : Sto} {Q : PD} {E : DN}
theorem sz_le {n : Nat} (h : n ≤ 4096) : (n ≤ sizeLine) = True := eq_true (Nat.le_trans h (by rw [sizeLine_eq]; decide))
theorem and_t {p : Prop} : (True ∧ p) = p := propext ⟨fun h => h.2, fun h => ⟨trivial, h⟩⟩
theorem notD {p : Prop} [Decidable p] : (!decide p) = decide (¬ p) := by
  by_cases h : p <;> simp [h]
theorem ixN_nat {n i : Nat} (h : i < n) : ixN n (i : Int) = some i := by
  unfold ixN
  rw [if_pos (Int.natCast_nonneg i), if_pos (by omega)]
  simp
theorem ixN_out {n i : Nat} (h : ¬ i < n) : ixN n (i : Int) = none := by
  unfold ixN
  rw [if_pos (Int.natCast_nonneg i), if_neg (by omega)]
theorem atI_nat {α : Type} (l : List α) (i : Nat) : atI l (i : Int) = l[i]? := by
  unfold atI
  by_cases h : i < l.length
  · rw [ixN_nat h]; rfl
  · rw [ixN_out h, List.getElem?_eq_none (by omega)]; rfl
theorem atI_last {α : Type} (l : List α) : atI l (-1) = l.getLast? := by
  unfold atI ixN
  rw [if_neg (by omega)]
  by_cases h : 0 < l.length
  · rw [if_pos (by omega), List.getLast?_eq_getElem?]
    show l[(-1 + (l.length : Int)).toNat]? = _
    congr 1
    omega
  · have : l = [] := by cases l <;> simp_all
    subst this
    rfl
theorem atI_zero {α : Type} (a : α) (l : List α) : atI (a :: l) 0 = some a := atI_nat _ 0
theorem atI_1 {α : Type} (a b : α) (l : List α) : atI (a :: b :: l) 1 = some b := atI_nat _ 1
theorem atI_2 {α : Type} (a b c : α) (l : List α) : atI (a :: b :: c :: l) 2 = some c := atI_nat _ 2
theorem atI_3 {α : Type} (a b c d : α) (l : List α) : atI (a :: b :: c :: d :: l) 3 = some d := atI_nat _ 3
theorem ix0 {n : Nat} : ixN (n + 1) 0 = some 0 := ixN_nat (i := 0) (by omega)
theorem ix1 {n : Nat} : ixN (n + 2) 1 = some 1 := ixN_nat (i := 1) (by omega)
theorem ix2 {n : Nat} : ixN (n + 3) 2 = some 2 := ixN_nat (i := 2) (by omega)
theorem ix3 {n : Nat} : ixN (n + 4) 3 = some 3 := ixN_nat (i := 3) (by omega)
theorem take_min {α : Type} (l : List α) (a b : Nat) (h : b = l.length) : l.take (min a b) = l.take a := by
  by_cases h2 : a ≤ b
  · rw [Nat.min_eq_left h2]
  · rw [Nat.min_eq_right (by omega), h, List.take_length, List.take_of_length_le (by omega)]
theorem sIx_int (n d : Nat) {k : Int} (h : 0 ≤ k) : HT.sIx n d (some k) = min k.toNat n := by
  show (if k < 0 then (k + (n : Int)).toNat else min k.toNat n) = _
  rw [if_neg (by omega)]
theorem cutD_to (ds : List D) {k : Int} (h : 0 ≤ k) : cutD ds none (some k) = ds.take k.toNat := by
  unfold cutD
  rw [sIx_int _ _ h, HT.sIx_none, List.drop_zero, Nat.sub_zero, take_min _ _ _ rfl]
theorem cutD_from (ds : List D) {k : Int} (h : 0 ≤ k) : cutD ds (some k) none = ds.drop k.toNat := by
  unfold cutD
  rw [sIx_int _ _ h, HT.sIx_none]
  by_cases h2 : k.toNat ≤ ds.length
  · rw [Nat.min_eq_left h2, List.take_of_length_le (by rw [List.length_drop]; omega)]
  · rw [Nat.min_eq_right (by omega), Nat.sub_self, List.take_zero, List.drop_eq_nil_of_le (by omega)]
theorem cutD_mid (ds : List D) {i j : Int} (hi : 0 ≤ i) (hj : 0 ≤ j) : cutD ds (some i) (some j) = (ds.drop i.toNat).take (j.toNat - i.toNat) := by
  unfold cutD
  rw [sIx_int _ _ hi, sIx_int _ _ hj]
  by_cases h2 : i.toNat ≤ ds.length
  · rw [Nat.min_eq_left h2]
    by_cases h3 : j.toNat ≤ ds.length
    · rw [Nat.min_eq_left h3]
    · rw [Nat.min_eq_right (by omega), List.take_of_length_le (by rw [List.length_drop]; omega), List.take_of_length_le (by rw [List.length_drop]; omega)]
  · rw [Nat.min_eq_right (by omega : ds.length ≤ i.toNat), List.drop_eq_nil_of_le (by omega), List.drop_eq_nil_of_le (by omega), List.take_nil, List.take_nil]
theorem cutD_all (ds : List D) : cutD ds none none = ds := by
  unfold cutD
  rw [HT.sIx_none, HT.sIx_none, List.drop_zero, Nat.sub_zero, List.take_length]
theorem kB_int_int : kitB "int" "int" = some true := by decide +kernel
theorem kB_int_bool : kitB "int" "bool" = some false := by decide +kernel
theorem kB_bool_int : kitB "bool" "int" = some true := by decide +kernel
theorem kB_bool_bool : kitB "bool" "bool" = some true := by decide +kernel
theorem kB_list_lt : kitAnyB "list" [.ty "list", .ty "tuple"] = some true := by decide +kernel
theorem kB_tuple_lt : kitAnyB "tuple" [.ty "list", .ty "tuple"] = some true := by decide +kernel
/-! ### expressions -/
theorem wC_eq (d : D) : wC d env cs Q = Q d cs := (rfl)
theorem wVar_eq (i : Nat) : wVar i env cs Q = bindP (envAt env i) fun d => Q d cs := by
  unfold wVar envAt
  cases e : env[i]? with
  | none => simp only [e]; rfl
  | some o => cases o <;> simp only [e] <;> rfl
theorem wOp_eq (o : O2) (wa wb : WE) : wOp o wa wb env cs Q = wa env cs fun d1 cs1 => wb env cs1 fun d2 cs2 => o d1 d2 cs2 Q := (rfl)
theorem wUn_eq (o : O1) (wa : WE) : wUn o wa env cs Q = wa env cs fun d cs1 => o d cs1 Q := (rfl)
def blD : D → Option Bool
  | .bl b => some b
  | _ => none
theorem wTst_eq (w : WE) (Q : Bool → Sto → Prop) : wTst w env cs Q = w env cs fun d cs' => bindP (blD d) fun b => Q b cs' := by
  unfold wTst
  congr
  funext d cs'
  cases d <;> rfl
/-- truth: what must hold, and the answer -/
def truD (cs : Sto) (d : D) : Option (Prop × Bool) := (truOf cs d).map fun b => (truSz d, b)
theorem oTru_eq (d : D) (Q : Bool → Sto → Prop) : oTru d cs Q = bindP (truD cs d) fun p => p.1 ∧ Q p.2 cs := by
  unfold oTru truD
  cases truOf cs d with
  | none => exact propext ⟨fun ⟨_, e, _⟩ => (by cases e), fun h => False.elim h⟩
  | some b => exact propext ⟨fun ⟨_, e, z, q⟩ => by cases e; exact ⟨z, q⟩, fun ⟨z, q⟩ => ⟨b, rfl, z, q⟩⟩
theorem wTruD_eq (w : WE) (Q : Bool → Sto → Prop) : wTruD w env cs Q = w env cs fun d cs' => bindP (truD cs' d) fun p => p.1 ∧ Q p.2 cs' := by
  unfold wTruD
  congr
  funext d cs'
  exact oTru_eq d Q
theorem wAnd_eq (t u : WT) (Q : Bool → Sto → Prop) : wAnd t u env cs Q = t env cs fun c cs1 => cond2 c (u env cs1 Q) (Q false cs1) := (rfl)
theorem wOr_eq (t u : WT) (Q : Bool → Sto → Prop) : wOr t u env cs Q = t env cs fun c cs1 => cond2 c (Q true cs1) (u env cs1 Q) := (rfl)
theorem wNotD_eq (t : WT) (Q : Bool → Sto → Prop) : wNotD t env cs Q = t env cs fun c cs1 => Q (!c) cs1 := (rfl)
theorem wAndV_eq (wa wb : WE) : wAndV wa wb env cs Q = wa env cs fun d cs1 => bindP (truD cs1 d) fun p => p.1 ∧ cond2 p.2 (wb env cs1 Q) (Q d cs1) := by
  unfold wAndV
  congr
  funext d cs'
  exact oTru_eq d _
theorem wOrV_eq (wa wb : WE) : wOrV wa wb env cs Q = wa env cs fun d cs1 => bindP (truD cs1 d) fun p => p.1 ∧ cond2 p.2 (Q d cs1) (wb env cs1 Q) := by
  unfold wOrV
  congr
  funext d cs'
  exact oTru_eq d _
theorem wNotV_eq (wa : WE) : wNotV wa env cs Q = wa env cs fun d cs1 => bindP (truD cs1 d) fun p => p.1 ∧ Q (.bl (!p.2)) cs1 := by
  unfold wNotV
  congr
  funext d cs'
  exact oTru_eq d _
theorem wIf_eq (t : WT) (wa wb : WE) : wIf t wa wb env cs Q = t env cs fun c cs1 => cond2 c (wa env cs1 Q) (wb env cs1 Q) := (rfl)
theorem wTup_eq (w : WA) : wTup w env cs Q = w env cs fun ds cs' => ds.length ≤ sizeLine ∧ Q (.tup ds) cs' := (rfl)
theorem wLst_eq (w : WA) : wLst w env cs Q = w env cs fun ds cs' => ds.length ≤ sizeLine ∧ Q (.lst ds) cs' := (rfl)
theorem wCel_eq (w : WA) : wCel w env cs Q = w env cs fun ds cs' => ds.length ≤ sizeLine ∧ Q (.cell cs'.length) (cs' ++ [.lst ds]) := (rfl)
theorem wNil_eq (Q : List D → Sto → Prop) : wNil env cs Q = Q [] cs := (rfl)
theorem wCons_eq (wa : WE) (wr : WA) (Q : List D → Sto → Prop) : wCons wa wr env cs Q = wa env cs fun d cs1 => wr env cs1 fun ds cs2 => Q (d :: ds) cs2 := (rfl)
theorem wB_eq (o : OC) (w : WA) : wB o w env cs Q = w env cs fun ds cs1 => o ds cs1 Q := (rfl)
theorem o1_eq (o : O1) (d : D) : o1 o [d] cs Q = o d cs Q := (rfl)
theorem wCall_eq (s : FSpec) (wa : WA) : wCall s wa env cs Q = wa env cs fun ds cs1 => callP s ds cs1 Q := (rfl)
theorem wCall0_eq (s : FSpec) : wCall0 s env cs Q = callP s [] cs Q := propext ⟨fun ⟨i, e, h⟩ => ⟨i, e.symm, h⟩, fun ⟨i, e, h⟩ => ⟨i, e.symm, h⟩⟩
theorem wCallK_eq (s : FSpec) (n m : Nat) (perm : List Nat) (wa wk : WA) : wCallK s n m perm wa wk env cs Q = wa env cs fun ds cs1 => wk env cs1 fun es cs2 => ds.length = n ∧ es.length = m ∧ callP s (gP perm (ds ++ es)) cs2 Q := (rfl)
theorem wPn_eq (Q : Option Int → Sto → Prop) : wPn env cs Q = Q none cs := (rfl)
def intD : D → Option Int
  | .int i => some i
  | _ => none
theorem wPs_eq (we : WE) (Q : Option Int → Sto → Prop) : wPs we env cs Q = we env cs fun d cs' => bindP (intD d) fun i => Q (some i) cs' := by
  unfold wPs
  congr
  funext d cs'
  cases d <;> rfl
theorem wSl_eq (we : WE) (wl wh : WO) : wSl we wl wh env cs Q = we env cs fun d cs1 => wl env cs1 fun lo cs2 => wh env cs2 fun hi cs3 => oSl d lo hi cs3 Q := (rfl)
theorem wLc_eq (wi : WI) (p : Pat) (tt : WT) (we : WE) (vs : List Nat) : wLc wi p tt we vs env cs Q = wi env cs fun ds W cs1 => ds.length ≤ sizeLine ∧ letE (wipeE env vs) fun env' => lcP p tt we env' W Q ds [] cs1 := (rfl)
def seqI (cs : Sto) : D → Option (List D × (Sto → Prop))
  | .lst ds => some (ds, wAll)
  | .tup ds => some (ds, wAll)
  | .cell n => match cs[n]? with
    | some (.lst ds) => some (ds, wCl n ds)
    | _ => none
  | _ => none
theorem wSeqI_eq (we : WE) (Q : List D → (Sto → Prop) → Sto → Prop) : wSeqI we env cs Q = we env cs fun d cs' => bindP (seqI cs' d) fun p => Q p.1 p.2 cs' := by
  unfold wSeqI
  congr
  funext d cs'
  cases d with
  | cell n =>
    simp only [seqI]
    cases e : cs'[n]? with
    | none => simp [*, bindP_some, bindP_none]
    | some c => cases c <;> simp [*, bindP_some, bindP_none]
  | _ => rfl
def rng1 : List D → Option (Prop × List D)
  | [.int j] => some (-(2 ^ 62) ≤ j ∧ j < 2 ^ 62, rngD 0 j.toNat)
  | _ => none
def rng2 : List D → Option (Prop × List D)
  | [.int i, .int j] => some (-(2 ^ 62) ≤ i ∧ i < 2 ^ 62 ∧ -(2 ^ 62) ≤ j ∧ j < 2 ^ 62, rngD i (j - i).toNat)
  | _ => none
theorem wRng1_eq (w : WA) (Q : List D → (Sto → Prop) → Sto → Prop) : wRng1 w env cs Q = w env cs fun ds cs' => bindP (rng1 ds) fun p => p.1 ∧ Q p.2 wAll cs' := by
  unfold wRng1
  congr
  funext ds cs'
  refine propext ⟨fun ⟨j, e, h1, h2, q⟩ => ?_, fun h => ?_⟩
  · subst e
    exact ⟨⟨h1, h2⟩, q⟩
  · unfold rng1 at h
    split at h
    · exact ⟨_, rfl, h.1.1, h.1.2, h.2⟩
    · exact h.elim
theorem wRng2_eq (w : WA) (Q : List D → (Sto → Prop) → Sto → Prop) : wRng2 w env cs Q = w env cs fun ds cs' => bindP (rng2 ds) fun p => p.1 ∧ Q p.2 wAll cs' := by
  unfold wRng2
  congr
  funext ds cs'
  refine propext ⟨fun ⟨i, j, e, h, q⟩ => ?_, fun h => ?_⟩
  · subst e
    exact ⟨h, q⟩
  · unfold rng2 at h
    split at h
    · exact ⟨_, _, rfl, h.1, h.2⟩
    · exact h.elim
def en1 : List D → Option (List D)
  | [d] => (stay d).map (enD 0)
  | _ => none
theorem wEnum_eq (w : WA) (Q : List D → (Sto → Prop) → Sto → Prop) : wEnum w env cs Q = w env cs fun ds cs' => bindP (en1 ds) fun xs => Q xs wAll cs' := by
  unfold wEnum
  congr
  funext ds cs'
  refine propext ⟨fun ⟨d, xs, e, e2, q⟩ => ?_, fun h => ?_⟩
  · subst e
    simp only [en1, e2, Option.map_some, bindP_some]
    exact q
  · unfold en1 at h
    split at h
    · rename_i d
      cases e : stay d with
      | none => rw [e] at h; exact h.elim
      | some xs => rw [e] at h; exact ⟨d, xs, rfl, e, h⟩
    · exact h.elim
def zip1 : List D → Option (List D)
  | [.lst xs, .lst ys] => some (zipD xs ys)
  | [.tup xs, .tup ys] => some (zipD xs ys)
  | _ => none
theorem wZip_eq (w : WA) (Q : List D → (Sto → Prop) → Sto → Prop) : wZip w env cs Q = w env cs fun ds cs' => bindP (zip1 ds) fun xs => Q xs wAll cs' := by
  unfold wZip
  congr
  funext ds cs'
  refine propext ⟨fun ⟨xs, ys, e, q⟩ => ?_, fun h => ?_⟩
  · rcases e with e | e <;> (subst e; exact q)
  · unfold zip1 at h
    split at h
    · exact ⟨_, _, .inl rfl, h⟩
    · exact ⟨_, _, .inr rfl, h⟩
    · exact h.elim
/-! ### operations: what must hold, and the value -/
def iD (C : Int → Int → Prop) (f : Int → Int → D) : D → D → Option (Prop × D)
  | .int i, .int j => some (C i j, f i j)
  | _, _ => none
theorem oI_eq (C : Int → Int → Prop) (f : Int → Int → D) (d1 d2 : D) : oI C f d1 d2 cs Q = bindP (iD C f d1 d2) fun p => p.1 ∧ Q p.2 cs := by
  cases d1 <;> cases d2 <;> rfl
def uD (f : Int → D) : D → Option D
  | .int i => some (f i)
  | _ => none
theorem oU_eq (f : Int → D) (d : D) : oU f d cs Q = bindP (uD f d) fun x => Q x cs := by
  cases d <;> rfl
def addD (cs : Sto) (d1 d2 : D) : Option (Prop × D) := match d1, d2 with
  | .int i, .int j => some (True, .int (i + j))
  | .int i, .bl k => some (True, .int (i + PyProof.Rows.b2i k))
  | .str x, .str y => some (x.length + y.length ≤ sizeLine, .str (x ++ y))
  | .tup xs, .tup ys => some (xs.length + ys.length ≤ sizeLine, .tup (xs ++ ys))
  | d1, d2 => match lstOf cs d1 with
    | some xs => match lstOf cs d2 with
      | some ys => some (xs.length + ys.length ≤ sizeLine, .lst (xs ++ ys))
      | none => none
    | none => none
theorem addB {d1 d2 : D} : (∃ xs ys, lstOf cs d1 = some xs ∧ lstOf cs d2 = some ys ∧ xs.length + ys.length ≤ sizeLine ∧ Q (.lst (xs ++ ys)) cs) = bindP (match lstOf cs d1 with
    | some xs => match lstOf cs d2 with
      | some ys => some (xs.length + ys.length ≤ sizeLine, D.lst (xs ++ ys))
      | none => none
    | none => none) fun p => p.1 ∧ Q p.2 cs := by
  cases e1 : lstOf cs d1 with
  | none => simp [bindP_none]
  | some xs =>
    cases e2 : lstOf cs d2 with
    | none => simp [bindP_none]
    | some ys => simp [bindP_some]
theorem oAdd_eq (d1 d2 : D) : oAdd d1 d2 cs Q = bindP (addD cs d1 d2) fun p => p.1 ∧ Q p.2 cs := by
  cases d1 <;> cases d2 <;> first | rfl | exact addB | exact (and_t).symm
def iaddD : D → D → Option (Prop × D)
  | .int i, .int j => some (True, .int (i + j))
  | .str x, .str y => some (x.length + y.length ≤ sizeLine, .str (x ++ y))
  | _, _ => none
theorem oIadd_eq (d1 d2 : D) : oIadd d1 d2 cs Q = bindP (iaddD d1 d2) fun p => p.1 ∧ Q p.2 cs := by
  cases d1 <;> cases d2 <;> first | rfl | exact (and_t).symm
def mulD (cs : Sto) (d1 d2 : D) : Option (Prop × D) := match d1, d2 with
  | .int i, .int j => some (cMul i j, .int (i * j))
  | d1, .int k => match lstOf cs d1 with
    | some xs => some (-(2 ^ 63) ≤ k ∧ k < 2 ^ 63 ∧ xs.length * k.toNat ≤ sizeLine, .lst (List.replicate k.toNat xs).flatten)
    | none => none
  | _, _ => none
theorem mulB {d1 : D} {k : Int} : (∃ xs, lstOf cs d1 = some xs ∧ -(2 ^ 63) ≤ k ∧ k < 2 ^ 63 ∧ xs.length * k.toNat ≤ sizeLine ∧ Q (.lst (List.replicate k.toNat xs).flatten) cs) = bindP (match lstOf cs d1 with
    | some xs => some (-(2 ^ 63) ≤ k ∧ k < 2 ^ 63 ∧ xs.length * k.toNat ≤ sizeLine, D.lst (List.replicate k.toNat xs).flatten)
    | none => none) fun p => p.1 ∧ Q p.2 cs := by
  cases e : lstOf cs d1 with
  | none => simp [bindP_none]
  | some ds => simp [bindP_some, and_assoc]
theorem oMul_eq (d1 d2 : D) : oMul d1 d2 cs Q = bindP (mulD cs d1 d2) fun p => p.1 ∧ Q p.2 cs := by
  cases d2 with
  | int k => cases d1 <;> first | rfl | exact mulB
  | _ => cases d1 <;> rfl
def eqD (cs : Sto) (neg : Bool) (d1 d2 : D) : Option (Prop × D) := match d1, d2 with
  | .str x, .str y => some (True, .bl (if neg = true then !decide (x = y) else decide (x = y)))
  | d1, d2 => match pyOf cs d1 with
    | some p => match pyOf cs d2 with
      | some q => some (SeqAt.shaped p = true ∧ SeqAt.shaped q = true, .bl (if neg = true then !PyData.eqv p q else PyData.eqv p q))
      | none => none
    | none => none
theorem eqB {neg : Bool} {d1 d2 : D} : (∃ p q, pyOf cs d1 = some p ∧ pyOf cs d2 = some q ∧ SeqAt.shaped p = true ∧ SeqAt.shaped q = true ∧ Q (.bl (if neg = true then !PyData.eqv p q else PyData.eqv p q)) cs) = bindP (match pyOf cs d1 with
    | some p => match pyOf cs d2 with
      | some q => some (SeqAt.shaped p = true ∧ SeqAt.shaped q = true, D.bl (if neg = true then !PyData.eqv p q else PyData.eqv p q))
      | none => none
    | none => none) fun p => p.1 ∧ Q p.2 cs := by
  cases e1 : pyOf cs d1 with
  | none => simp [bindP_none]
  | some p =>
    cases e2 : pyOf cs d2 with
    | none => simp [bindP_none]
    | some q => simp [bindP_some, and_assoc]
theorem oEq_eq (neg : Bool) (d1 d2 : D) : oEq neg d1 d2 cs Q = bindP (eqD cs neg d1 d2) fun p => p.1 ∧ Q p.2 cs := by
  cases d1 <;> cases d2 <;> first | exact eqB | exact (and_t).symm
theorem eqD_int (neg : Bool) (i j : Int) : eqD cs neg (.int i) (.int j) = some (True, .bl (if neg = true then !decide (i = j) else decide (i = j))) := by
  have e : PyData.eqv (.int i) (.int j) = decide (i = j) := by rw [Bool.eq_iff_iff]; simp [PyData.eqv]
  simp only [eqD, pyOf, toPy, e]
  simp [SeqAt.shaped, PyData.canLay0, PyData.depth]
theorem eqD_str (neg : Bool) (x y : Str) : eqD cs neg (.str x) (.str y) = some (True, .bl (if neg = true then !decide (x = y) else decide (x = y))) := (rfl)
theorem eqD_bl (neg : Bool) (i j : Bool) : eqD cs neg (.bl i) (.bl j) = some (True, .bl (if neg = true then !(i == j) else (i == j))) := by
  have e : PyData.eqv (.bool i) (.bool j) = (i == j) := by simp [PyData.eqv]
  simp only [eqD, pyOf, toPy, e]
  simp [SeqAt.shaped, PyData.canLay0, PyData.depth]
def isND (neg : Bool) : D → D → Option D
  | d1, .non => some (.bl (if neg = true then !isNon d1 else isNon d1))
  | _, _ => none
theorem oIsN_eq (neg : Bool) (d1 d2 : D) : oIsN neg d1 d2 cs Q = bindP (isND neg d1 d2) fun x => Q x cs := by
  cases d2 <;> rfl
def ixD (cs : Sto) (d1 d2 : D) : Option (Prop × D) := match d2 with
  | .int i => match d1 with
    | .str z => match atI z.cps.toList i with
      | some c => some (z.length ≤ sizeLine, .str ⟨#[c]⟩)
      | none => none
    | d1 => match seqOf cs d1 with
      | some ds => match atI ds i with
        | some d => some (True, d)
        | none => none
      | none => none
  | _ => none
theorem ixB {d1 : D} {i : Int} : (∃ ds d, seqOf cs d1 = some ds ∧ atI ds i = some d ∧ Q d cs) = bindP (match seqOf cs d1 with
      | some ds => match atI ds i with
        | some d => some (True, d)
        | none => none
      | none => none) fun p => p.1 ∧ Q p.2 cs := by
  cases e : seqOf cs d1 with
  | none => simp [bindP_none]
  | some ds => cases e2 : atI ds i <;> simp [*, bindP_some, bindP_none]
theorem oIx_eq (d1 d2 : D) : oIx d1 d2 cs Q = bindP (ixD cs d1 d2) fun p => p.1 ∧ Q p.2 cs := by
  cases d2 with
  | int i =>
    cases d1 with
    | str z =>
      unfold oIx ixD
      simp only
      cases e : atI z.cps.toList i with
      | none => simp [*, bindP_some, bindP_none]
      | some c => simp [*, bindP_some, bindP_none]
    | _ => exact ixB
  | _ => rfl
def slD (cs : Sto) (d : D) (lo hi : Option Int) : Option (Prop × D) := match d with
  | .scr ns => some (True, .lst (cutD (ns.map .int) lo hi))
  | .tup ds => some (True, .tup (cutD ds lo hi))
  | .str z => some (z.length ≤ sizeLine, .str (cutS z lo hi))
  | d => match lstOf cs d with
    | some ds => some (True, .lst (cutD ds lo hi))
    | none => none
theorem slB {d : D} {lo hi : Option Int} : (∃ ds, lstOf cs d = some ds ∧ Q (.lst (cutD ds lo hi)) cs) = bindP (match lstOf cs d with
    | some ds => some (True, D.lst (cutD ds lo hi))
    | none => none) fun p => p.1 ∧ Q p.2 cs := by
  cases e : lstOf cs d <;> simp [bindP_some, bindP_none]
theorem oSl_eq (d : D) (lo hi : Option Int) : oSl d lo hi cs Q = bindP (slD cs d lo hi) fun p => p.1 ∧ Q p.2 cs := by
  cases d <;> first | rfl | exact slB | exact (and_t).symm
def lenD (cs : Sto) (d : D) : Option (Prop × D) := match d with
  | .str y => some (y.length ≤ sizeLine, .int y.length)
  | d => match seqOf cs d with
    | some ds => some (True, .int ds.length)
    | none => none
theorem lenB {d : D} : (∃ ds, seqOf cs d = some ds ∧ Q (.int ds.length) cs) = bindP (match seqOf cs d with
    | some ds => some (True, D.int ds.length)
    | none => none) fun p => p.1 ∧ Q p.2 cs := by
  cases e : seqOf cs d <;> simp [bindP_some, bindP_none]
theorem oLen_eq (d : D) : oLen d cs Q = bindP (lenD cs d) fun p => p.1 ∧ Q p.2 cs := by
  cases d <;> first | rfl | exact lenB
def intOf : D → Option D
  | .int i => some (.int i)
  | .bl k => some (.int (if k = true then 1 else 0))
  | _ => none
theorem oInt_eq (d : D) : oInt d cs Q = bindP (intOf d) fun x => Q x cs := by
  cases d <;> rfl
def absD : D → Option D
  | .int i => some (.int (if i < 0 then -i else i))
  | _ => none
theorem oAbs_eq (d : D) : oAbs d cs Q = bindP (absD d) fun x => Q x cs := by
  cases d <;> rfl
theorem oTup_eq (d : D) : oTup d cs Q = bindP (seqOf cs d) fun ds => Q (.tup ds) cs := by
  unfold oTup
  cases seqOf cs d <;> simp [*, bindP_some, bindP_none]
theorem oList_eq (d : D) : oList d cs Q = bindP (seqOf cs d) fun ds => Q (.lst ds) cs := by
  unfold oList
  cases seqOf cs d <;> simp [*, bindP_some, bindP_none]
def blsD (cs : Sto) (d : D) : Option (List Bool) := match lstOf cs d with
  | some ds => bls ds
  | none => none
def numsD (cs : Sto) (d : D) : Option (List Int) := match lstOf cs d with
  | some ds => nums ds
  | none => none
theorem oAll_eq (d : D) : oAll d cs Q = bindP (blsD cs d) fun bs => Q (.bl (bs.all id)) cs := by
  unfold oAll blsD
  cases e : lstOf cs d with
  | none => simp [*, bindP_some, bindP_none]
  | some ds => cases e2 : bls ds <;> simp [*, bindP_some, bindP_none, e2]
theorem oAny_eq (d : D) : oAny d cs Q = bindP (blsD cs d) fun bs => Q (.bl (bs.any id)) cs := by
  unfold oAny blsD
  cases e : lstOf cs d with
  | none => simp [*, bindP_some, bindP_none]
  | some ds => cases e2 : bls ds <;> simp [*, bindP_some, bindP_none, e2]
theorem oSum_eq (d : D) : oSum d cs Q = bindP (numsD cs d) fun ns => Q (.int ns.sum) cs := by
  unfold oSum numsD
  cases e : lstOf cs d with
  | none => simp [*, bindP_some, bindP_none]
  | some ds => cases e2 : nums ds <;> simp [*, bindP_some, bindP_none, e2]
def isiD (cs : Sto) : List D → Option Bool
  | [d, .ty n] => match tyD cs d with
    | some T => kitB T n
    | none => none
  | [d, .tup ns] => match tyD cs d with
    | some T => kitAnyB T ns
    | none => none
  | _ => none
theorem isiB {o : Option String} {f : String → Option Bool} : (∃ T b, o = some T ∧ f T = some b ∧ Q (.bl b) cs) = bindP (match o with
    | some T => f T
    | none => none) fun b => Q (.bl b) cs := by
  refine propext ⟨fun ⟨T, b, e1, e2, q⟩ => ?_, fun h => ?_⟩
  · subst e1
    show bindP (f T) _
    rw [e2]
    exact q
  · cases o with
    | none => exact h.elim
    | some T =>
      have h' : bindP (f T) fun b => Q (.bl b) cs := h
      cases e : f T with
      | none => rw [e] at h'; exact h'.elim
      | some b => rw [e] at h'; exact ⟨T, b, rfl, e, h'⟩
theorem oIsi_eq (ds : List D) : oIsi ds cs Q = bindP (isiD cs ds) fun b => Q (.bl b) cs := by
  match ds with
  | [] => rfl
  | [_] => rfl
  | [d, e] => cases e <;> first | rfl | exact isiB (f := fun T => kitB T _) | exact isiB (f := fun T => kitAnyB T _)
  | _ :: e :: _ :: _ => cases e <;> rfl
def reprD (cs : Sto) (d : D) : Option (Prop × Str) := (pyOf cs d).map fun p => (p.showable = true ∧ p.shown.length ≤ sizeLine ∧ p.depth ≤ 60, p.shown)
theorem oRepr_eq (d : D) : oRepr d cs Q = bindP (reprD cs d) fun p => p.1 ∧ Q (.str p.2) cs := by
  unfold oRepr reprD
  cases pyOf cs d <;> simp [bindP_some, bindP_none, and_assoc]
/-! ### statements -/
theorem wSeq_eq (w u : WS) : wSeq w u E env cs = w { E with nx := fun env' cs' => u E env' cs' } env cs := (rfl)
theorem wNext_eq : wNext E env cs = E.nx env cs := (rfl)
theorem wSet_eq (i : Nat) (we : WE) : wSet i we E env cs = we env cs fun d cs' => letE (env.set i (some d)) fun env' => E.nx env' cs' := (rfl)
theorem wPar_eq (i j : Nat) (w : WA) : wPar i j w E env cs = w env cs fun ds cs' => bindP (match ds with | [d, e] => some ((env.set i (some d)).set j (some e)) | _ => none) fun env' => E.nx env' cs' := by
  unfold wPar
  congr
  funext ds cs'
  match ds with
  | [] => rfl
  | [_] => rfl
  | [_, _] => rfl
  | _ :: _ :: _ :: _ => rfl
theorem wPar3_eq (i j k : Nat) (w : WA) : wPar3 i j k w E env cs = w env cs fun ds cs' => bindP (match ds with | [d, e, f] => some (((env.set i (some d)).set j (some e)).set k (some f)) | _ => none) fun env' => E.nx env' cs' := by
  unfold wPar3
  congr
  funext ds cs'
  match ds with
  | [] => rfl
  | [_] => rfl
  | [_, _] => rfl
  | [_, _, _] => rfl
  | _ :: _ :: _ :: _ :: _ => rfl
theorem wPat_eq (p : Pat) (we : WE) : wPat p we E env cs = we env cs fun d cs' => bindP (patSet cs' p d env) fun env' => E.nx env' cs' := by
  unfold wPat
  congr
  funext d cs'
  cases patSet cs' p d env <;> rfl
theorem wAug_eq (i : Nat) (o : O2) (we : WE) : wAug i o we E env cs = bindP (envAt env i) fun x => we env cs fun d cs1 => o x d cs1 fun z cs2 => letE (env.set i (some z)) fun env' => E.nx env' cs2 := by
  unfold wAug envAt
  cases e : env[i]? with
  | none => simp only [e]; rfl
  | some o => cases o <;> simp only [e] <;> rfl
theorem wIfS_eq (t : WT) (w u : WS) : wIfS t w u E env cs = t env cs fun b cs1 => cond2 b (w E env cs1) (u E env cs1) := (rfl)
theorem wRet_eq (we : WE) : wRet we E env cs = we env cs E.rt := (rfl)
theorem wRetN_eq : wRetN E env cs = E.rt .non cs := (rfl)
theorem wDrop_eq (we : WE) : wDrop we E env cs = we env cs fun _ cs' => E.nx env cs' := (rfl)
theorem wBreak_eq : wBreak E env cs = E.bk env cs := (rfl)
theorem wCont_eq : wCont E env cs = E.ct env cs := (rfl)
theorem wFor_eq (wi : WI) (p : Pat) (wb : WS) : wFor wi p wb E env cs = wi env cs fun ds W cs1 => forP p wb E W ds env cs1 := (rfl)
def stoD (cs : Sto) (o k d : D) : Option Sto := match o, k with
  | .cell n, .int i => match cs[n]? with
    | some (.lst ds) => match ixN ds.length i with
      | some j => some (cs.set n (.lst (ds.set j d)))
      | none => none
    | _ => none
  | _, _ => none
theorem stoB {n : Nat} {i : Int} {d : D} {k : Sto → Prop} : (∃ ds j, cs[n]? = some (.lst ds) ∧ ixN ds.length i = some j ∧ k (cs.set n (.lst (ds.set j d)))) = bindP (match cs[n]? with
    | some (.lst ds) => match ixN ds.length i with
      | some j => some (cs.set n (.lst (ds.set j d)))
      | none => none
    | _ => none) k := by
  cases e : cs[n]? with
  | none => simp [bindP_none]
  | some c =>
    cases c with
    | lst ds => cases e2 : ixN ds.length i <;> simp [bindP_some, bindP_none, e2]
    | _ => simp [bindP_none]
theorem wStore_eq (we wo wi : WE) : wStore we wo wi E env cs = we env cs fun d cs1 => wo env cs1 fun o cs2 => wi env cs2 fun k cs3 => bindP (stoD cs3 o k d) fun cs4 => E.nx env cs4 := by
  unfold wStore
  congr
  funext d cs1
  congr
  funext o cs2
  congr
  funext k cs3
  cases o <;> first | rfl | (cases k <;> first | rfl | exact stoB)
def frzD (env : En) (cs : Sto) (i : Nat) : Option (En × Sto) := match envAt env i with
  | some (.cell n) => match cs[n]? with
    | some (.lst ds) => some (env.set i (some (.lst ds)), cs.set n .dead)
    | _ => none
  | _ => none
theorem wFrz_eq (i : Nat) (u : WS) : wFrz i u E env cs = bindP (frzD env cs i) fun p => u E p.1 p.2 := by
  unfold wFrz frzD envAt
  refine propext ⟨fun ⟨n, ds, e1, e2, h⟩ => ?_, fun h => ?_⟩
  · rw [e1]
    simp only [e2]
    exact h
  · cases e1 : env[i]? with
    | none => rw [e1] at h; exact h.elim
    | some o =>
      rw [e1] at h
      cases o with
      | none => exact h.elim
      | some d =>
        cases d with
        | cell n =>
          cases e2 : cs[n]? with
          | none => simp only [e2] at h; exact h.elim
          | some c =>
            cases c with
            | lst ds => simp only [e2] at h; exact ⟨n, ds, rfl, e2, h⟩
            | _ => simp only [e2] at h; exact h.elim
        | _ => exact h.elim
end

/-! ### lists, tuples and changing lists alike -/
def lstAt (cs : Sto) (n : Nat) : Option (List D) := match cs[n]? with
  | some (.lst ds) => some ds
  | _ => none
theorem lstOf_cell {cs : Sto} {n : Nat} : lstOf cs (.cell n) = lstAt cs n := (rfl)
theorem seqOf_cell {cs : Sto} {n : Nat} : seqOf cs (.cell n) = lstAt cs n := (rfl)
theorem seqI_cell {cs : Sto} {n : Nat} : seqI cs (.cell n) = (lstAt cs n).map fun ds => (ds, wCl n ds) := by
  unfold lstAt
  cases e : cs[n]? with
  | none => simp only [seqI, e, Option.map_none]
  | some c => cases c <;> simp only [seqI, e, Option.map_none, Option.map_some]
theorem lenD_cell {cs : Sto} {n : Nat} : lenD cs (.cell n) = (lstAt cs n).map fun xs => (True, .int xs.length) := by
  show (match lstAt cs n with | some ds => some (True, D.int ds.length) | none => none) = _
  cases lstAt cs n <;> rfl
theorem ixD_cell {cs : Sto} {n : Nat} (i : Int) : ixD cs (.cell n) (.int i) = (lstAt cs n).bind fun xs => (atI xs i).map fun d => (True, d) := by
  show (match lstAt cs n with | some ds => (match atI ds i with | some d => some (True, d) | none => none) | none => none) = _
  cases lstAt cs n with
  | none => rfl
  | some ds => cases h : atI ds i <;> simp only [h, Option.bind_some, Option.map_none, Option.map_some]
theorem truD_cell {cs : Sto} {n : Nat} : truD cs (.cell n) = (lstAt cs n).map fun xs => (True, !xs.isEmpty) := by
  show ((lstAt cs n).map fun ds => !ds.isEmpty).map (fun b => (truSz (.cell n), b)) = _
  cases lstAt cs n <;> rfl
theorem stoD_cell {cs : Sto} {n : Nat} (i : Int) (d : D) : stoD cs (.cell n) (.int i) d = (lstAt cs n).bind fun xs => (ixN xs.length i).map fun j => cs.set n (.lst (xs.set j d)) := by
  unfold lstAt
  cases e : cs[n]? with
  | none => simp only [stoD, e, Option.bind_none]
  | some c =>
    cases c with
    | lst xs => cases e2 : ixN xs.length i <;> simp only [stoD, e, e2, Option.bind_some, Option.map_none, Option.map_some]
    | _ => simp only [stoD, e, Option.bind_none]
theorem frzD_eq (env : En) (cs : Sto) (i : Nat) : frzD env cs i = (envAt env i).bind fun d => match d with
    | .cell n => (lstAt cs n).map fun ds => (env.set i (some (.lst ds)), cs.set n .dead)
    | _ => none := by
  unfold frzD lstAt
  cases envAt env i with
  | none => rfl
  | some d =>
    cases d with
    | cell n =>
      simp only [Option.bind_some]
      cases e : cs[n]? with
      | none => rfl
      | some c => cases c <;> rfl
    | _ => rfl
theorem lstAt_get {cs : Sto} {n : Nat} {xs : List D} (h : cs[n]? = some (.lst xs)) : lstAt cs n = some xs := by simp only [lstAt, h]
theorem lstAt_set {cs : Sto} {n : Nat} (xs : List D) (h : n < cs.length) : lstAt (cs.set n (.lst xs)) n = some xs := by simp only [lstAt, List.getElem?_set_self h]
theorem lstAt_ne {cs : Sto} {n m : Nat} {c : CO} (h : m ≠ n) : lstAt (cs.set m c) n = lstAt cs n := by simp only [lstAt, List.getElem?_set_ne h]
theorem lstAt_app {cs : Sto} (xs : List D) : lstAt (cs ++ [.lst xs]) cs.length = some xs := by simp [lstAt]
theorem lstAt_old {cs : Sto} {n : Nat} {c : CO} (h : n < cs.length) : lstAt (cs ++ [c]) n = lstAt cs n := by simp only [lstAt, List.getElem?_append_left h]
theorem set_app {cs : Sto} {c c' : CO} : (cs ++ [c]).set cs.length c' = cs ++ [c'] := by simp
theorem set_old {cs : Sto} {n : Nat} {c c' : CO} (h : n < cs.length) : (cs ++ [c]).set n c' = cs.set n c' ++ [c] := by rw [List.set_append_left _ _ h]
theorem lstAt_0 (c : List D) (r : Sto) : lstAt (.lst c :: r) 0 = some c := (rfl)
theorem lstAt_s (c : CO) (r : Sto) (n : Nat) : lstAt (c :: r) (n + 1) = lstAt r n := (rfl)
theorem app_len {cs : Sto} {c : CO} : (cs ++ [c]).length = cs.length + 1 := by simp
theorem isi_non {cs : Sto}  (n : String) : isiD cs [.non, .ty n] = kitB "NoneType" n := (rfl)
theorem isit_non {cs : Sto}  (ns : List D) : isiD cs [.non, .tup ns] = kitAnyB "NoneType" ns := (rfl)
theorem isi_bl {cs : Sto} (b : Bool) (n : String) : isiD cs [(.bl b), .ty n] = kitB "bool" n := (rfl)
theorem isit_bl {cs : Sto} (b : Bool) (ns : List D) : isiD cs [(.bl b), .tup ns] = kitAnyB "bool" ns := (rfl)
theorem isi_int {cs : Sto} (i : Int) (n : String) : isiD cs [(.int i), .ty n] = kitB "int" n := (rfl)
theorem isit_int {cs : Sto} (i : Int) (ns : List D) : isiD cs [(.int i), .tup ns] = kitAnyB "int" ns := (rfl)
theorem isi_str {cs : Sto} (x : Str) (n : String) : isiD cs [(.str x), .ty n] = kitB "str" n := (rfl)
theorem isit_str {cs : Sto} (x : Str) (ns : List D) : isiD cs [(.str x), .tup ns] = kitAnyB "str" ns := (rfl)
theorem isi_tup {cs : Sto} (xs : List D) (n : String) : isiD cs [(.tup xs), .ty n] = kitB "tuple" n := (rfl)
theorem isit_tup {cs : Sto} (xs : List D) (ns : List D) : isiD cs [(.tup xs), .tup ns] = kitAnyB "tuple" ns := (rfl)
theorem isi_lst {cs : Sto} (xs : List D) (n : String) : isiD cs [(.lst xs), .ty n] = kitB "list" n := (rfl)
theorem isit_lst {cs : Sto} (xs : List D) (ns : List D) : isiD cs [(.lst xs), .tup ns] = kitAnyB "list" ns := (rfl)
theorem isi_dic {cs : Sto} (kvs : List (Key × D)) (n : String) : isiD cs [(.dic kvs), .ty n] = kitB "dict" n := (rfl)
theorem isit_dic {cs : Sto} (kvs : List (Key × D)) (ns : List D) : isiD cs [(.dic kvs), .tup ns] = kitAnyB "dict" ns := (rfl)
theorem lstOf_lst {cs : Sto} (xs : List D) : lstOf cs (.lst xs) = some xs := (rfl)
theorem seqOf_lst {cs : Sto} (xs : List D) : seqOf cs (.lst xs) = some xs := (rfl)
theorem seqOf_tup {cs : Sto} (xs : List D) : seqOf cs (.tup xs) = some xs := (rfl)
theorem seqI_lst {cs : Sto} (xs : List D) : seqI cs (.lst xs) = some (xs, wAll) := (rfl)
theorem seqI_tup {cs : Sto} (xs : List D) : seqI cs (.tup xs) = some (xs, wAll) := (rfl)
theorem lenD_str {cs : Sto} (x : Str) : lenD cs (.str x) = some (x.length ≤ sizeLine, .int x.length) := (rfl)
theorem lenD_lst {cs : Sto} (xs : List D) : lenD cs (.lst xs) = some (True, .int xs.length) := (rfl)
theorem lenD_tup {cs : Sto} (xs : List D) : lenD cs (.tup xs) = some (True, .int xs.length) := (rfl)
theorem ixD_lst {cs : Sto} (xs : List D) (i : Int) : ixD cs (.lst xs) (.int i) = (atI xs i).map fun d => (True, d) := by simp only [ixD, seqOf, lstOf]; cases atI xs i <;> rfl
theorem ixD_tup {cs : Sto} (xs : List D) (i : Int) : ixD cs (.tup xs) (.int i) = (atI xs i).map fun d => (True, d) := by simp only [ixD, seqOf]; cases atI xs i <;> rfl
theorem ixD_seq {cs : Sto} {d : D} {xs : List D} (h : seqOf cs d = some xs) (i : Int) : ixD cs d (.int i) = (atI xs i).map fun d => (True, d) := by
  cases d <;> first | (cases h; done) | (simp only [ixD, h]; cases atI xs i <;> rfl)
theorem truD_non {cs : Sto}  : truD cs .non = some (True, false) := (rfl)
theorem truD_bl {cs : Sto} (b : Bool) : truD cs (.bl b) = some (True, b) := (rfl)
theorem truD_int {cs : Sto} (i : Int) : truD cs (.int i) = some (True, (i != 0)) := (rfl)
theorem truD_str {cs : Sto} (x : Str) : truD cs (.str x) = some (x.length ≤ sizeLine, ((x.length : Int) != 0)) := (rfl)
theorem truD_tup {cs : Sto} (xs : List D) : truD cs (.tup xs) = some (True, (!xs.isEmpty)) := (rfl)
theorem truD_lst {cs : Sto} (xs : List D) : truD cs (.lst xs) = some (True, (!xs.isEmpty)) := (rfl)
theorem truD_dic {cs : Sto} (kvs : List (Key × D)) : truD cs (.dic kvs) = some (True, (!kvs.isEmpty)) := (rfl)
theorem isi_cell {cs : Sto} {k : Nat} {xs : List D} (h : cs[k]? = some (.lst xs)) (n : String) : isiD cs [.cell k, .ty n] = kitB "list" n := by simp only [isiD, tyD, h]
theorem isit_cell {cs : Sto} {k : Nat} {xs : List D} (h : cs[k]? = some (.lst xs)) (ns : List D) : isiD cs [.cell k, .tup ns] = kitAnyB "list" ns := by simp only [isiD, tyD, h]
theorem lenD_seq {cs : Sto} {d : D} {ds : List D} (h : seqOf cs d = some ds) : lenD cs d = some (True, .int ds.length) := by
  cases d <;> first | (cases h; done) | (simp only [lenD, h])
theorem isiD_seq {cs : Sto} {d : D} {ds : List D} (h : seqOf cs d = some ds) : isiD cs [d, .tup [.ty "list", .ty "tuple"]] = some true := by
  cases d with
  | tup xs => simp only [isiD, tyD, kB_tuple_lt]
  | lst xs => simp only [isiD, tyD, kB_list_lt]
  | cell n =>
    simp only [seqOf, lstOf] at h
    cases e : cs[n]? with
    | none => rw [e] at h; cases h
    | some c =>
      rw [e] at h
      cases c with
      | lst xs => simp only [isiD, tyD, e, kB_list_lt]
      | _ => cases h
  | _ => cases h
theorem seqI_seq {cs : Sto} {d : D} {ds : List D} (h : seqOf cs d = some ds) : ∃ W, seqI cs d = some (ds, W) ∧ W cs := by
  cases d with
  | tup xs => cases h; exact ⟨wAll, rfl, trivial⟩
  | lst xs => cases h; exact ⟨wAll, rfl, trivial⟩
  | cell n =>
    simp only [seqOf, lstOf] at h
    cases e : cs[n]? with
    | none => rw [e] at h; cases h
    | some c =>
      rw [e] at h
      cases c with
      | lst xs => cases h; exact ⟨wCl n ds, by simp only [seqI, e], e⟩
      | _ => cases h
  | _ => cases h

/-! ### numbers, truths, None, in tuples and lists: what == and repr need -/
mutual
def DB (n : Nat) : Nat → D → Prop
  | _, .int i => Bd n i
  | _, .bl _ => True
  | _, .non => True
  | k + 1, .tup ds => DBL n k ds
  | k + 1, .lst ds => DBL n k ds
  | _, _ => False
def DBL (n : Nat) : Nat → List D → Prop
  | _, [] => True
  | k, d :: ds => DB n k d ∧ DBL n k ds
end
mutual
def dwt : D → Nat
  | .tup ds => dwts ds
  | .lst ds => dwts ds
  | _ => 0
def dwts : List D → Nat
  | [] => 0
  | d :: ds => dwt d + 1 + dwts ds
end
theorem log2_lt {n : Nat} {x : Int} (h : Bd n x) (l : n ≤ 1920) : x.natAbs.log2 < 1920 := by
  by_cases h0 : x.natAbs = 0
  · rw [h0]; decide
  · exact (Nat.log2_lt h0).mpr (Nat.lt_of_lt_of_le h (Nat.pow_le_pow_right (by decide) l))
structure PyOK (k w : Nat) (p : PyData) : Prop where
  lay : p.canLay0 = true
  dep : p.depth ≤ k
  sh : p.showable = true
  lv : p.leavesShort 1921 = true
  bk : p.bulk = w
structure PyOKL (k w : Nat) (p : List PyData) : Prop where
  lay : PyData.canLayAll0 p = true
  dep : PyData.depthAll p ≤ k
  sh : PyData.showableAll p = true
  lv : PyData.leavesShortAll 1921 p = true
  bk : PyData.bulkAll p = w
mutual
theorem DB.py {n : Nat} (l : n ≤ 1920) : ∀ {k : Nat} {d : D}, DB n k d → ∃ p, toPy d = some p ∧ PyOK k (dwt d) p
  | k, .int i, h => ⟨.int i, by simp only [toPy], by simp [PyData.canLay0], by simp [PyData.depth], by simp only [PyData.showable, decide_eq_true_eq]; exact log2_lt (by simpa [DB] using h) l, by
      simp only [PyData.leavesShort, decide_eq_true_eq]
      have e := int_text_length_le (a := i) (k := 1920) (by decide) (log2_lt (by simpa [DB] using h) l)
      show (Str.ofString (toString i)).length ≤ 1921
      rw [ofString_length]
      exact e, by simp [PyData.bulk, dwt]⟩
  | k, .bl b, h => ⟨.bool b, by simp only [toPy], by simp [PyData.canLay0], by simp [PyData.depth], by simp [PyData.showable], by simp [PyData.leavesShort], by simp [PyData.bulk, dwt]⟩
  | k, .non, h => ⟨.none, by simp only [toPy], by simp [PyData.canLay0], by simp [PyData.depth], by simp [PyData.showable], by simp [PyData.leavesShort], by simp [PyData.bulk, dwt]⟩
  | k + 1, .tup ds, h => by
    obtain ⟨ps, e, o⟩ := DBL.py l (k := k) (ds := ds) (by simpa [DB] using h)
    exact ⟨.tuple ps, by simp only [toPy, e], by simp only [PyData.canLay0]; exact o.lay, by simp only [PyData.depth]; have := o.dep; omega, by simp only [PyData.showable]; exact o.sh, by simp only [PyData.leavesShort]; exact o.lv, by simp only [PyData.bulk, dwt]; exact o.bk⟩
  | k + 1, .lst ds, h => by
    obtain ⟨ps, e, o⟩ := DBL.py l (k := k) (ds := ds) (by simpa [DB] using h)
    exact ⟨.list ps, by simp only [toPy, e], by simp only [PyData.canLay0]; exact o.lay, by simp only [PyData.depth]; have := o.dep; omega, by simp only [PyData.showable]; exact o.sh, by simp only [PyData.leavesShort]; exact o.lv, by simp only [PyData.bulk, dwt]; exact o.bk⟩
  | 0, .tup ds, h => by simp [DB] at h
  | 0, .lst ds, h => by simp [DB] at h
  | _, .str _, h => by simp [DB] at h
  | _, .ty _, h => by simp [DB] at h
  | _, .ref _, h => by simp [DB] at h
  | _, .dic _, h => by simp [DB] at h
  | _, .obj _ _, h => by simp [DB] at h
  | _, .cell _, h => by simp [DB] at h
  | _, .scr _, h => by simp [DB] at h
theorem DBL.py {n : Nat} (l : n ≤ 1920) : ∀ {k : Nat} {ds : List D}, DBL n k ds → ∃ p, toPyL ds = some p ∧ PyOKL k (dwts ds) p
  | k, [], h => ⟨[], by simp only [toPyL], by simp [PyData.canLayAll0], by simp [PyData.depthAll], by simp [PyData.showableAll], by simp [PyData.leavesShortAll], by simp [PyData.bulkAll, dwts]⟩
  | k, d :: ds, h => by
    have h' : DB n k d ∧ DBL n k ds := by simpa [DBL] using h
    obtain ⟨p, e1, o1⟩ := DB.py l h'.1
    obtain ⟨ps, e2, o2⟩ := DBL.py l h'.2
    refine ⟨p :: ps, by simp only [toPyL, e1, e2], by simp only [PyData.canLayAll0, o1.lay, o2.lay, Bool.and_self], by simp only [PyData.depthAll]; have := o1.dep; have := o2.dep; omega, by simp only [PyData.showableAll, o1.sh, o2.sh, Bool.and_self], by simp only [PyData.leavesShortAll, o1.lv, o2.lv, Bool.and_self], by simp only [PyData.bulkAll, dwts, o1.bk, o2.bk]⟩
end
def noC : D → Bool
  | .cell _ => false
  | _ => true
theorem pyOf_noC {cs : Sto} {d : D} (h : noC d = true) : pyOf cs d = toPy d := by
  cases d <;> first | rfl | cases h
theorem DB.noC {n k : Nat} : ∀ {d : D}, DB n k d → noC d = true := fun {d} h => by
  cases d <;> first | rfl | (cases k <;> simp [DB] at h)
/-- the text of a value -/
def shD (d : D) : Str := match toPy d with
  | some p => p.shown
  | none => ""
theorem reprD_ok {cs : Sto} {n k : Nat} {d : D} (h : DB n k d) (l : n ≤ 1920 := by decide) (hk : k ≤ 60 := by decide) (hw : dwt d ≤ 8000 := by decide) : reprD cs d = some (True, shD d) := by
  obtain ⟨p, e, o⟩ := h.py l
  have h3 : p.shown.length ≤ sizeLine := by
    have h := PyData.shown_le_bulk 1921 (by decide) p o.lv
    have := o.bk
    have h2 : (1921 + 2) * p.bulk ≤ 1923 * 8000 := Nat.mul_le_mul (by omega) (by omega)
    rw [sizeLine_eq]
    omega
  unfold reprD shD
  rw [pyOf_noC h.noC, e]
  simp only [Option.map_some, Option.some.injEq, Prod.mk.injEq, and_true]
  exact eq_true ⟨o.sh, h3, Nat.le_trans o.dep hk⟩
theorem eqD_self {cs : Sto} {n k : Nat} {d : D} {neg : Bool} (h : DB n k d) (l : n ≤ 1920 := by decide) (hk : k ≤ 60 := by decide) : eqD cs neg d d = some (True, .bl (!neg)) := by
  obtain ⟨p, e, o⟩ := h.py l
  have e2 : SeqAt.shaped p = true := by
    unfold SeqAt.shaped
    rw [o.lay]
    simp only [Bool.true_and, decide_eq_true_eq]
    have := o.dep
    omega
  unfold eqD
  split
  · simp [DB] at h
  · rw [pyOf_noC h.noC, e]
    simp only [e2, SeqAt.eqv_refl p o.lay, and_self]
    cases neg <;> rfl
end DL

/-! DTrim: a def's own changing lists are forgotten behind it. -/
namespace DL
open PySem PySem.Spec L2
open PyProof.Rows (envOfC)

mutual
/-- all changing objects in it stand below n -/
def okD (n : Nat) : D → Prop
  | .cell i => i < n
  | .tup ds => okDs n ds
  | .lst ds => okDs n ds
  | .dic kvs => okKs n kvs
  | .obj _ fs => okFs n fs
  | _ => True
def okDs (n : Nat) : List D → Prop
  | [] => True
  | d :: ds => okD n d ∧ okDs n ds
def okKs (n : Nat) : List (Key × D) → Prop
  | [] => True
  | (_, d) :: ds => okD n d ∧ okKs n ds
def okFs (n : Nat) : List (Str × D) → Prop
  | [] => True
  | (_, d) :: ds => okD n d ∧ okFs n ds
end
def okCO (n : Nat) : CO → Prop
  | .lst ds => okDs n ds
  | .ins _ fs => okFs n fs
  | .dic kvs => okKs n kvs
  | .dead => True
def okS (n : Nat) (cs : Sto) : Prop := ∀ c ∈ cs, okCO n c
def G.cut (g : G) (n : Nat) : G := { g with as := g.as.take n }
section
variable {K : PySem.W.Frag} {g : G} {cs : Sto} {H : Hp}
mutual
theorem Rep.okD : ∀ (d : D) (v : V), Rep K g d v → DL.okD g.as.length d
  | .non, _, _ => by simp [DL.okD]
  | .bl _, _, _ => by simp [DL.okD]
  | .int _, _, _ => by simp [DL.okD]
  | .str _, _, _ => by simp [DL.okD]
  | .ty _, _, _ => by simp [DL.okD]
  | .ref _, _, _ => by simp [DL.okD]
  | .scr _, _, _ => by simp [DL.okD]
  | .tup ds, v, h => by
    obtain ⟨a, vs, e1, h1, h2⟩ := h
    simp only [DL.okD]
    exact RepL.okD ds vs h2
  | .lst ds, v, h => by
    obtain ⟨a, vs, e1, h1, h2⟩ := h
    simp only [DL.okD]
    exact RepL.okD ds vs h2
  | .dic ds, v, h => by
    obtain ⟨a, vs, e1, h1, h2⟩ := h
    simp only [DL.okD]
    exact RepK.okD ds vs h2
  | .obj C ds, v, h => by
    obtain ⟨a, dx, vs, e1, h1, h2⟩ := h
    simp only [DL.okD]
    exact RepF.okD ds vs h2
  | .cell i, v, h => by
    obtain ⟨a, e1, h1⟩ := h
    simp only [DL.okD]
    exact (List.getElem?_eq_some_iff.mp h1).1
theorem RepL.okD : ∀ (ds : List D) (vs : List V), RepL K g ds vs → okDs g.as.length ds
  | [], _, _ => by simp [okDs]
  | d :: ds, vs, h => by
    obtain ⟨v, r, e1, h1, h2⟩ := h
    simp only [okDs]
    exact ⟨Rep.okD d v h1, RepL.okD ds r h2⟩
theorem RepK.okD : ∀ (ds : List (Key × D)) (vs : List (Key × V)), RepK K g ds vs → okKs g.as.length ds
  | [], _, _ => by simp [okKs]
  | (k, d) :: ds, vs, h => by
    obtain ⟨v, r, e1, h1, h2⟩ := h
    simp only [okKs]
    exact ⟨Rep.okD d v h1, RepK.okD ds r h2⟩
theorem RepF.okD : ∀ (ds : List (Str × D)) (vs : List (Str × V)), RepF K g ds vs → okFs g.as.length ds
  | [], _, _ => by simp [okFs]
  | (k, d) :: ds, vs, h => by
    obtain ⟨v, r, e1, h1, h2⟩ := h
    simp only [okFs]
    exact ⟨Rep.okD d v h1, RepF.okD ds r h2⟩
end
mutual
theorem Rep.cut (n : Nat) : ∀ (d : D) (v : V), DL.okD n d → Rep K g d v → Rep K (g.cut n) d v
  | .non, _, _, h => h
  | .bl _, _, _, h => h
  | .int _, _, _, h => h
  | .str _, _, _, h => h
  | .ty _, _, _, h => h
  | .ref _, _, _, h => h
  | .scr _, _, _, h => h
  | .tup ds, v, o, h => by
    obtain ⟨a, vs, e1, h1, h2⟩ := h
    exact ⟨a, vs, e1, h1, RepL.cut n ds vs (by simpa only [DL.okD] using o) h2⟩
  | .lst ds, v, o, h => by
    obtain ⟨a, vs, e1, h1, h2⟩ := h
    exact ⟨a, vs, e1, h1, RepL.cut n ds vs (by simpa only [DL.okD] using o) h2⟩
  | .dic ds, v, o, h => by
    obtain ⟨a, vs, e1, h1, h2⟩ := h
    exact ⟨a, vs, e1, h1, RepK.cut n ds vs (by simpa only [DL.okD] using o) h2⟩
  | .obj C ds, v, o, h => by
    obtain ⟨a, dx, vs, e1, h1, h2⟩ := h
    exact ⟨a, dx, vs, e1, h1, RepF.cut n ds vs (by simpa only [DL.okD] using o) h2⟩
  | .cell i, v, o, h => by
    obtain ⟨a, e1, h1⟩ := h
    refine ⟨a, e1, ?_⟩
    show (g.as.take n)[i]? = some a
    rw [List.getElem?_take_of_lt (by simpa only [DL.okD] using o)]
    exact h1
theorem RepL.cut (n : Nat) : ∀ (ds : List D) (vs : List V), okDs n ds → RepL K g ds vs → RepL K (g.cut n) ds vs
  | [], _, _, h => h
  | d :: ds, vs, o, h => by
    obtain ⟨v, r, e1, h1, h2⟩ := h
    have o' : DL.okD n d ∧ okDs n ds := by simpa only [okDs] using o
    exact ⟨v, r, e1, Rep.cut n d v o'.1 h1, RepL.cut n ds r o'.2 h2⟩
theorem RepK.cut (n : Nat) : ∀ (ds : List (Key × D)) (vs : List (Key × V)), okKs n ds → RepK K g ds vs → RepK K (g.cut n) ds vs
  | [], _, _, h => h
  | (k, d) :: ds, vs, o, h => by
    obtain ⟨v, r, e1, h1, h2⟩ := h
    have o' : DL.okD n d ∧ okKs n ds := by simpa only [okKs] using o
    exact ⟨v, r, e1, Rep.cut n d v o'.1 h1, RepK.cut n ds r o'.2 h2⟩
theorem RepF.cut (n : Nat) : ∀ (ds : List (Str × D)) (vs : List (Str × V)), okFs n ds → RepF K g ds vs → RepF K (g.cut n) ds vs
  | [], _, _, h => h
  | (k, d) :: ds, vs, o, h => by
    obtain ⟨v, r, e1, h1, h2⟩ := h
    have o' : DL.okD n d ∧ okFs n ds := by simpa only [okFs] using o
    exact ⟨v, r, e1, Rep.cut n d v o'.1 h1, RepF.cut n ds r o'.2 h2⟩
end
theorem COk.okCO {a : Addr} {c : CO} (h : COk K g H a c) : DL.okCO g.as.length c := by
  cases c with
  | lst ds => obtain ⟨vs, h1, h2, h3⟩ := h; exact RepL.okD ds vs h2
  | ins C ds => obtain ⟨dx, vs, h1, h2, h3⟩ := h; exact RepF.okD ds vs h2
  | dic ds => obtain ⟨vs, h1, h2, h3⟩ := h; exact RepK.okD ds vs h2
  | dead => trivial
theorem COk.cut {a : Addr} {c : CO} {n : Nat} (o : DL.okCO n c) (h : COk K g H a c) : COk K (g.cut n) H a c := by
  cases c with
  | lst ds => obtain ⟨vs, h1, h2, h3⟩ := h; exact ⟨vs, h1, RepL.cut n ds vs o h2, h3⟩
  | ins C ds => obtain ⟨dx, vs, h1, h2, h3⟩ := h; exact ⟨dx, vs, h1, RepF.cut n ds vs o h2, h3⟩
  | dic ds => obtain ⟨vs, h1, h2, h3⟩ := h; exact ⟨vs, h1, RepK.cut n ds vs o h2, h3⟩
  | dead => trivial
theorem Sr.okS (s : Sr K g cs H) : DL.okS cs.length cs := fun c hc => by
  obtain ⟨i, hi, e⟩ := List.getElem_of_mem hc
  have e2 : cs[i]? = some c := by rw [List.getElem?_eq_getElem hi, e]
  have hl : i < g.as.length := by rw [s.len]; exact hi
  have := (s.ok i g.as[i] c (List.getElem?_eq_getElem hl) e2).okCO
  rwa [s.len] at this
theorem Sr.cut (s : Sr K g cs H) {n : Nat} (o : DL.okS n (cs.take n)) : Sr K (g.cut n) (cs.take n) H :=
  ⟨s.le, by show (g.as.take n).length = _; rw [List.length_take, List.length_take, s.len], s.nd.sublist (List.take_sublist _ _), fun a ha => s.th a (List.mem_of_mem_take ha), fun i a c h1 h2 => by
    have h1' : (g.as.take n)[i]? = some a := h1
    have hi : i < n := by
      have := (List.getElem?_eq_some_iff.mp h1').1
      rw [List.length_take] at this
      omega
    have hc : c ∈ cs.take n := List.mem_of_getElem? h2
    rw [List.getElem?_take_of_lt hi] at h1' h2
    exact (s.ok i a c h1' h2).cut (o c hc), fun p hp => ⟨(s.rs p hp).1, (s.rs p hp).2.1, fun z => (s.rs p hp).2.2 (List.mem_of_mem_take z)⟩, s.rn⟩
end
/-- as it is, or behind the def's own changing objects -/
def trimR (n : Nat) (R : PD) : PD := fun d cs' => R d cs' ∨ (okD n d ∧ okS n (cs'.take n) ∧ R d (cs'.take n))
theorem trim_up {K : PySem.W.Frag} {g : G} {cs : Sto} {H : Hp} {R : PD} {Q : VK} (s : Sr K g cs H) (hq : ∀ d cs', R d cs' → upV K g Q d cs') {d : D} {cs' : Sto} (h : trimR cs.length R d cs') : upV K g Q d cs' := by
  rcases h with h | ⟨h1, h2, h3⟩
  · exact hq d cs' h
  · intro g' H' v e s' r
    refine hq d _ h3 (g'.cut cs.length) H' v ⟨e.z, ⟨[], ?_⟩, e.r⟩ (s'.cut h2) (r.cut _ d v h1)
    obtain ⟨t, et⟩ := e.a
    show g'.as.take cs.length = g.as ++ []
    rw [et, ← s.len, List.take_left', List.append_nil]
    rfl
section
variable {P : Program} {w : World} {K : PySem.W.Frag} {mg : Str → Option Value} {base : Heap}
theorem dfunT {k : Nat} {f : Addr} {name qual : Str} {st : Stmt} {fd : FuncData} {N ps : List Str} {sp : FSpec} (F : Fun K name qual st f fd) (S : FnScope N ps (defScope st)) (len : ∀ i, (sp.args i).length = ps.length)
    (h : ∀ (cdv : Value) (A : Around) (outer : List PySem.Env) (s : Shared) (H : Hp) (E : XK), RoomG k (A.deeper (envOfC qual (defScope st) s.heap.objs.size f cdv)) → ∃ wS, DSs (cxOf CX0 P w K mg base N qual (defScope st) f cdv A outer s H E).nox (defBody st) wS ∧
      ∀ i cs, okS cs.length cs → sp.pre i cs → wS { nx := fun _ cs' => trimR cs.length (sp.res i cs) .non cs', rt := trimR cs.length (sp.res i cs) } (startE N.length (sp.args i)) cs) : FnG P w K mg base CX0 (k + 1) f fd ps (dSp K sp) := by
  refine fnG_of F S (fun vs H Q E ⟨g, cs, i, _, r, _⟩ => r.length.symm.trans (len i)) fun cdv A outer s H vs Q E hr ⟨g, cs, i, sr, r, hp, hq, _⟩ => ?_
  obtain ⟨wS, hd, hw⟩ := h cdv A outer s H E hr
  refine ⟨_, hd.pe.nox, g, cs, startE N.length (sp.args i), sr, Lr.start r, hd.mo { nx := fun _ cs' => trimR cs.length (sp.res i cs) .non cs', rt := trimR cs.length (sp.res i cs) } _ _ _ ⟨fun env cs' q g' H' σ e s' l => ?_, fun d cs' q => trim_up sr hq q, fun _ _ z => (show False from z).elim, fun _ _ z => (show False from z).elim⟩ (hw i cs sr.okS hp)⟩
  exact trim_up sr hq q g' H' .non e s' rfl
end
/-! ### what must hold of sizes -/
theorem cMul_l {i j : Int} (h1 : -18446744073709551616 < i) (h2 : i < 18446744073709551616) : cMul i j = True := eq_true (.inl (.inl ⟨by omega, by omega⟩))
theorem cMul_r {i j : Int} (h1 : -18446744073709551616 < j) (h2 : j < 18446744073709551616) : cMul i j = True := eq_true (.inl (.inr ⟨by omega, by omega⟩))
theorem CPow_lit {i j : Int} (h1 : 0 ≤ j) (h2 : j ≤ 1000000) (h3 : -18446744073709551616 < i) (h4 : i < 18446744073709551616) : CPow i j = True := eq_true ⟨h1, h2, by omega⟩
theorem CDivW_lit {i j : Int} (h1 : 0 < j) (h2 : j < 18446744073709551616) : CDivW i j = True := eq_true ⟨h1, by
  have : j.natAbs.log2 < 64 := by
    rw [Nat.log2_lt (by omega)]
    omega
  omega⟩
theorem toPyL_ints : ∀ ns : List Int, toPyL (ns.map .int) = some (ns.map PyData.int)
  | [] => rfl
  | n :: ns => by simp only [List.map_cons, toPyL, toPy, toPyL_ints ns]
theorem lay_ints : ∀ ns : List Int, PyData.canLayAll0 (ns.map PyData.int) = true
  | [] => rfl
  | n :: ns => by simp only [List.map_cons, PyData.canLayAll0, PyData.canLay0, lay_ints ns, Bool.and_self]
theorem dep_ints : ∀ ns : List Int, PyData.depthAll (ns.map PyData.int) = 0
  | [] => rfl
  | n :: ns => by simp only [List.map_cons, PyData.depthAll, PyData.depth, dep_ints ns, Nat.max_self]
theorem eqD_ints {cs : Sto} (ns : List Int) : eqD cs true (.lst (ns.map .int)) (.lst []) = some (True, .bl (!ns.isEmpty)) := by
  simp only [eqD, pyOf, toPy, toPyL_ints]
  have h1 : SeqAt.shaped (.list (ns.map PyData.int)) = true := by
    simp only [SeqAt.shaped, PyData.canLay0, lay_ints, PyData.depth, dep_ints]
    decide
  have h2 : SeqAt.shaped (.list []) = true := by decide
  simp only [toPyL, h1, h2, and_self, Option.some.injEq, Prod.mk.injEq, true_and, if_true, D.bl.injEq]
  cases ns <;> simp [PyData.eqv, PyData.eqvAll]
theorem atI_mod {ns : List Int} {k : Int} (h : ns.isEmpty = false) (h0 : 0 ≤ k) : ∃ x, atI (ns.map D.int) (k % (ns.length : Int)) = some (.int x) := by
  have hp : 0 < ns.length := by cases ns <;> simp_all
  have h1 := Int.emod_nonneg k (b := (ns.length : Int)) (by omega)
  have h2 := Int.emod_lt_of_pos k (b := (ns.length : Int)) (by omega)
  obtain ⟨m, hm⟩ := Int.eq_ofNat_of_zero_le h1
  rw [hm, atI_nat]
  have : m < ns.length := by omega
  exact ⟨ns[m], by rw [List.getElem?_map, List.getElem?_eq_getElem this]; rfl⟩
theorem len_pos {ns : List Int} (h : ns.isEmpty = false) : (0 : Int) < ns.length := by
  have hp : 0 < ns.length := by cases ns <;> simp_all
  omega
theorem pmulB {a b A B : Int} (h1 : 0 ≤ a) (h2 : a ≤ A) (h3 : 0 ≤ b) (h4 : b ≤ B) : 0 ≤ a * b ∧ a * b ≤ A * B :=
  ⟨Int.mul_nonneg h1 h3, Int.mul_le_mul h2 h4 h3 (Int.le_trans h1 h2)⟩
theorem mix1 {x k M c1 c2 e : Int} (hM : 0 < M) (hM2 : M ≤ 4294967296) (k0 : 0 ≤ k) (k1 : k ≤ 100001) (a0 : 0 ≤ c1) (a1 : c1 ≤ 1048576) (b0 : 0 ≤ c2) (b1 : c2 ≤ 1048576) (e0 : 0 ≤ e) (e1 : e ≤ 1000000) : CPow (x % M + c1 * k + c2) e := by
  have h1 := Int.emod_nonneg x (b := M) (by omega)
  have h2 := Int.emod_lt_of_pos x hM
  have h3 := pmulB a0 a1 k0 k1
  exact ⟨e0, e1, by omega⟩
theorem mix2 {m k c1 c2 c3 c4 e : Int} (m0 : 0 ≤ m) (m1 : m < 4294967296) (k0 : 0 ≤ k) (k1 : k ≤ 100001) (a0 : 0 ≤ c1) (a1 : c1 ≤ 64) (b0 : 0 ≤ c2) (b1 : c2 ≤ 1048576) (d0 : 0 ≤ c3) (d1 : c3 ≤ 1048576) (f0 : 0 ≤ c4) (f1 : c4 ≤ 1048576) (e0 : 0 ≤ e) (e1 : e ≤ 1000000) : CPow (m * (c1 * k + c2) + c3 * k * k + c4) e := by
  have h1 := pmulB a0 a1 k0 k1
  have h2 := pmulB (a := m) (b := c1 * k + c2) (A := 4294967296) (B := 64 * 100001 + 1048576) m0 (by omega) (by omega) (by omega)
  have h3 := pmulB d0 d1 k0 k1
  have h4 := pmulB h3.1 h3.2 k0 k1
  exact ⟨e0, e1, by omega⟩
theorem cMul_mod {z M j : Int} (hM : 0 < M) (hM2 : M ≤ 4294967296) : cMul (z % M) j := by
  have h1 := Int.emod_nonneg z (b := M) (by omega)
  have h2 := Int.emod_lt_of_pos z hM
  exact .inl (.inl ⟨by omega, by omega⟩)
theorem mix3 {z k M c1 c2 c3 c4 e : Int} (hM : 0 < M) (hM2 : M ≤ 4294967296) (k0 : 0 ≤ k) (k1 : k ≤ 100001) (a0 : 0 ≤ c1) (a1 : c1 ≤ 64) (b0 : 0 ≤ c2) (b1 : c2 ≤ 1048576) (d0 : 0 ≤ c3) (d1 : c3 ≤ 1048576) (f0 : 0 ≤ c4) (f1 : c4 ≤ 1048576) (e0 : 0 ≤ e) (e1 : e ≤ 1000000) : CPow (z % M * (c1 * k + c2) + c3 * k * k + c4) e :=
  mix2 (Int.emod_nonneg z (by omega)) (Int.lt_of_lt_of_le (Int.emod_lt_of_pos z hM) hM2) k0 k1 a0 a1 b0 b1 d0 d1 f0 f1 e0 e1
theorem rngD_len {lo : Int} {n : Nat} : (rngD lo n).length = n := by simp [rngD]
theorem rngD_get {lo : Int} {n i : Nat} {d : D} (h : (rngD lo n)[i]? = some d) : i < n ∧ d = .int (lo + i) := by
  have hi : i < n := by
    have := (List.getElem?_eq_some_iff.mp h).1
    rwa [rngD_len] at this
  refine ⟨hi, ?_⟩
  unfold rngD at h
  rw [List.getElem?_map, List.getElem?_range hi] at h
  cases h
  rfl
theorem rngD_z {lo : Int} : rngD lo 0 = [] := (rfl)
theorem rngD_s {lo : Int} {n : Nat} : rngD lo (n + 1) = .int lo :: rngD (lo + 1) n := by
  unfold rngD
  rw [List.range_succ_eq_map, List.map_cons, List.map_map]
  congr 1
  · simp
  · apply List.map_congr_left
    intro i _
    simp only [Function.comp_apply, D.int.injEq]
    omega
theorem trim_app {cs tail : Sto} {R : PD} {d : D} (hk : okS cs.length cs) (hd : okD cs.length d) (h : R d cs) : trimR cs.length R d (cs ++ tail) :=
  .inr ⟨hd, by rw [List.take_left' rfl]; exact hk, by rw [List.take_left' rfl]; exact h⟩
/-! ### tuples and lists of ints compared -/
theorem eqv_ints : ∀ xs ys : List Int, PyData.eqvAll (xs.map .int) (ys.map .int) = decide (xs = ys)
  | [], [] => rfl
  | [], y :: ys => by simp [PyData.eqvAll]
  | x :: xs, [] => by simp [PyData.eqvAll]
  | x :: xs, y :: ys => by
    simp only [List.map_cons, PyData.eqvAll, eqv_ints xs ys]
    rw [Bool.eq_iff_iff]
    simp [PyData.eqv]
theorem shaped_ints (ns : List Int) : SeqAt.shaped (.tuple (ns.map PyData.int)) = true ∧ SeqAt.shaped (.list (ns.map PyData.int)) = true := by
  simp only [SeqAt.shaped, PyData.canLay0, lay_ints, PyData.depth, dep_ints]
  decide
theorem eqD_tints {cs : Sto} (neg : Bool) (xs ys : List Int) : eqD cs neg (.tup (xs.map .int)) (.tup (ys.map .int)) = some (True, .bl (if neg = true then !decide (xs = ys) else decide (xs = ys))) := by
  simp only [eqD, pyOf, toPy, toPyL_ints, (shaped_ints _).1, and_self, PyData.eqv, eqv_ints]
theorem eqD_lints {cs : Sto} (neg : Bool) (xs ys : List Int) : eqD cs neg (.lst (xs.map .int)) (.lst (ys.map .int)) = some (True, .bl (if neg = true then !decide (xs = ys) else decide (xs = ys))) := by
  simp only [eqD, pyOf, toPy, toPyL_ints, (shaped_ints _).2, and_self, PyData.eqv, eqv_ints]
theorem eqD_t2 {cs : Sto} (neg : Bool) (a b c d : Int) : eqD cs neg (.tup [.int a, .int b]) (.tup [.int c, .int d]) = some (True, .bl (if neg = true then !decide (a = c ∧ b = d) else decide (a = c ∧ b = d))) := by
  have h := eqD_tints (cs := cs) neg [a, b] [c, d]
  simp only [List.cons.injEq, and_true] at h
  exact h
end DL

namespace Law
open PySem PySem.Spec L2 DL
open PyProof.Rows (envOfC)
def top (i : Nat) : Stmt := PySem.Challenge.pw_lookmade_k03_amounts_by_own_products.main.body.getD i (.Pass ⟨0, 0, 0, 0⟩)
abbrev s__law_crock : Stmt := top 24
abbrev s_plus : Stmt := top 13
abbrev s_is_integer : Stmt := top 6
abbrev s_is_amount : Stmt := top 9
abbrev s_need_amount : Stmt := top 10
abbrev s_added : Stmt := top 18
abbrev s__law_times : Stmt := top 27
abbrev s__law_length : Stmt := top 30
abbrev s_is_within : Stmt := top 7
abbrev s_is_turn : Stmt := top 8
abbrev s_need_turn : Stmt := top 11
abbrev s_turn_by : Stmt := top 15
abbrev s_turned : Stmt := top 20
abbrev s__law_ladle : Stmt := top 25
abbrev s_length_in : Stmt := top 17
abbrev s_length_of : Stmt := top 22
abbrev s_times : Stmt := top 14
abbrev s_multiplied : Stmt := top 19
abbrev s_mirror : Stmt := top 16
abbrev s_mirrored : Stmt := top 21
abbrev s__law_turned : Stmt := top 28
abbrev s__law_lengths_right : Stmt := top 33
abbrev s__law_one : Stmt := top 26
abbrev s__law_amount : Stmt := top 31
abbrev s__law_plus : Stmt := top 29
abbrev s__law_right : Stmt := top 32
abbrev s_law : Stmt := top 34
abbrev N__law_crock : List Str := ["_law_script", "_law_cell"]
abbrev N_plus : List Str := ["one", "other"]
abbrev N_is_integer : List Str := ["value"]
abbrev N_is_amount : List Str := ["value", "number"]
abbrev N_need_amount : List Str := ["value", "part"]
abbrev N_added : List Str := ["one", "other"]
abbrev N__law_times : List Str := ["_law_one_here", "_law_other", "_law_found", "_law_at", "_law_mine", "_law_spot", "_law_its", "_law_place", "_law_sign"]
abbrev N__law_length : List Str := ["_law_amounts", "_law_whole", "_law_roots", "_law_a", "_law_b", "_law_c", "_law_d"]
abbrev N_is_within : List Str := ["value", "least", "most"]
abbrev N_is_turn : List Str := ["value"]
abbrev N_need_turn : List Str := ["value", "part"]
abbrev N_turn_by : List Str := ["amount", "turn", "rest", "a", "b", "c", "d"]
abbrev N_turned : List Str := ["amount", "turn", "told"]
abbrev N__law_ladle : List Str := ["_law_crock_here", "_law_many", "_law_at", "_law_cell", "_law_mixed", "_law_rest"]
abbrev N_length_in : List Str := ["amounts", "first", "second", "a", "b", "c", "d"]
abbrev N_length_of : List Str := ["amount"]
abbrev N_times : List Str := ["one", "other", "a", "b", "c", "d", "e", "f", "g", "h"]
abbrev N_multiplied : List Str := ["one", "other"]
abbrev N_mirror : List Str := ["amount", "a", "b", "c", "d"]
abbrev N_mirrored : List Str := ["amount"]
abbrev N__law_turned : List Str := ["_law_amount_here", "_law_turn", "_law_found", "_law_step"]
abbrev N__law_lengths_right : List Str := ["_law_crock_here", "_law_one_here", "_law_other", "_law_due", "_law_turn", "_law_told", "_law_later", "_law_p", "_law_q", "_law_s", "_law_t"]
abbrev N__law_one : List Str := ["_law_crock_here", "_law_some"]
abbrev N__law_amount : List Str := ["_law_crock_here", "_law_found", "_law_way", "_law_top", "_law_place", "_law_at", "_law_number"]
abbrev N__law_plus : List Str := ["_law_one_here", "_law_other", "_law_mine", "_law_its"]
abbrev N__law_right : List Str := ["_law_crock_here", "_law_due", "_law_one_here", "_law_other", "_law_third"]
abbrev N_law : List Str := ["_law_script", "_law_crock_here", "_law_lap", "_law_listed", "_law_told"]
structure Txt (K : PySem.W.Frag) (mg : Str → Option Value) where
  f__law_crock : Addr
  d__law_crock : FuncData
  F__law_crock : Fun K "_law_crock" "_law_crock" s__law_crock f__law_crock d__law_crock
  m__law_crock : mg "_law_crock" = some (.ref f__law_crock)
  b__law_crock : Binds K d__law_crock ["_law_script"] []
  f_plus : Addr
  d_plus : FuncData
  F_plus : Fun K "plus" "plus" s_plus f_plus d_plus
  m_plus : mg "plus" = some (.ref f_plus)
  b_plus : Binds K d_plus ["one", "other"] []
  f_is_integer : Addr
  d_is_integer : FuncData
  F_is_integer : Fun K "is_integer" "is_integer" s_is_integer f_is_integer d_is_integer
  m_is_integer : mg "is_integer" = some (.ref f_is_integer)
  b_is_integer : Binds K d_is_integer ["value"] []
  f_is_amount : Addr
  d_is_amount : FuncData
  F_is_amount : Fun K "is_amount" "is_amount" s_is_amount f_is_amount d_is_amount
  m_is_amount : mg "is_amount" = some (.ref f_is_amount)
  b_is_amount : Binds K d_is_amount ["value"] []
  f_need_amount : Addr
  d_need_amount : FuncData
  F_need_amount : Fun K "need_amount" "need_amount" s_need_amount f_need_amount d_need_amount
  m_need_amount : mg "need_amount" = some (.ref f_need_amount)
  b_need_amount : Binds K d_need_amount ["value", "part"] []
  f_added : Addr
  d_added : FuncData
  F_added : Fun K "added" "added" s_added f_added d_added
  m_added : mg "added" = some (.ref f_added)
  b_added : Binds K d_added ["one", "other"] []
  f__law_times : Addr
  d__law_times : FuncData
  F__law_times : Fun K "_law_times" "_law_times" s__law_times f__law_times d__law_times
  m__law_times : mg "_law_times" = some (.ref f__law_times)
  b__law_times : Binds K d__law_times ["_law_one_here", "_law_other"] []
  f__law_length : Addr
  d__law_length : FuncData
  F__law_length : Fun K "_law_length" "_law_length" s__law_length f__law_length d__law_length
  m__law_length : mg "_law_length" = some (.ref f__law_length)
  b__law_length : Binds K d__law_length ["_law_amounts"] []
  f_is_within : Addr
  d_is_within : FuncData
  F_is_within : Fun K "is_within" "is_within" s_is_within f_is_within d_is_within
  m_is_within : mg "is_within" = some (.ref f_is_within)
  b_is_within : Binds K d_is_within ["value", "least", "most"] []
  f_is_turn : Addr
  d_is_turn : FuncData
  F_is_turn : Fun K "is_turn" "is_turn" s_is_turn f_is_turn d_is_turn
  m_is_turn : mg "is_turn" = some (.ref f_is_turn)
  b_is_turn : Binds K d_is_turn ["value"] []
  f_need_turn : Addr
  d_need_turn : FuncData
  F_need_turn : Fun K "need_turn" "need_turn" s_need_turn f_need_turn d_need_turn
  m_need_turn : mg "need_turn" = some (.ref f_need_turn)
  b_need_turn : Binds K d_need_turn ["value", "part"] []
  f_turn_by : Addr
  d_turn_by : FuncData
  F_turn_by : Fun K "turn_by" "turn_by" s_turn_by f_turn_by d_turn_by
  m_turn_by : mg "turn_by" = some (.ref f_turn_by)
  b_turn_by : Binds K d_turn_by ["amount", "turn"] []
  f_turned : Addr
  d_turned : FuncData
  F_turned : Fun K "turned" "turned" s_turned f_turned d_turned
  m_turned : mg "turned" = some (.ref f_turned)
  b_turned : Binds K d_turned ["amount", "turn"] []
  f__law_ladle : Addr
  d__law_ladle : FuncData
  F__law_ladle : Fun K "_law_ladle" "_law_ladle" s__law_ladle f__law_ladle d__law_ladle
  m__law_ladle : mg "_law_ladle" = some (.ref f__law_ladle)
  b__law_ladle : Binds K d__law_ladle ["_law_crock_here", "_law_many"] []
  f_length_in : Addr
  d_length_in : FuncData
  F_length_in : Fun K "length_in" "length_in" s_length_in f_length_in d_length_in
  m_length_in : mg "length_in" = some (.ref f_length_in)
  b_length_in : Binds K d_length_in ["amounts"] []
  f_length_of : Addr
  d_length_of : FuncData
  F_length_of : Fun K "length_of" "length_of" s_length_of f_length_of d_length_of
  m_length_of : mg "length_of" = some (.ref f_length_of)
  b_length_of : Binds K d_length_of ["amount"] []
  f_times : Addr
  d_times : FuncData
  F_times : Fun K "times" "times" s_times f_times d_times
  m_times : mg "times" = some (.ref f_times)
  b_times : Binds K d_times ["one", "other"] []
  f_multiplied : Addr
  d_multiplied : FuncData
  F_multiplied : Fun K "multiplied" "multiplied" s_multiplied f_multiplied d_multiplied
  m_multiplied : mg "multiplied" = some (.ref f_multiplied)
  b_multiplied : Binds K d_multiplied ["one", "other"] []
  f_mirror : Addr
  d_mirror : FuncData
  F_mirror : Fun K "mirror" "mirror" s_mirror f_mirror d_mirror
  m_mirror : mg "mirror" = some (.ref f_mirror)
  b_mirror : Binds K d_mirror ["amount"] []
  f_mirrored : Addr
  d_mirrored : FuncData
  F_mirrored : Fun K "mirrored" "mirrored" s_mirrored f_mirrored d_mirrored
  m_mirrored : mg "mirrored" = some (.ref f_mirrored)
  b_mirrored : Binds K d_mirrored ["amount"] []
  f__law_turned : Addr
  d__law_turned : FuncData
  F__law_turned : Fun K "_law_turned" "_law_turned" s__law_turned f__law_turned d__law_turned
  m__law_turned : mg "_law_turned" = some (.ref f__law_turned)
  b__law_turned : Binds K d__law_turned ["_law_amount_here", "_law_turn"] []
  f__law_lengths_right : Addr
  d__law_lengths_right : FuncData
  F__law_lengths_right : Fun K "_law_lengths_right" "_law_lengths_right" s__law_lengths_right f__law_lengths_right d__law_lengths_right
  m__law_lengths_right : mg "_law_lengths_right" = some (.ref f__law_lengths_right)
  b__law_lengths_right : Binds K d__law_lengths_right ["_law_crock_here", "_law_one_here", "_law_other", "_law_due"] []
  f__law_one : Addr
  d__law_one : FuncData
  F__law_one : Fun K "_law_one" "_law_one" s__law_one f__law_one d__law_one
  m__law_one : mg "_law_one" = some (.ref f__law_one)
  b__law_one : Binds K d__law_one ["_law_crock_here", "_law_some"] []
  f__law_amount : Addr
  d__law_amount : FuncData
  F__law_amount : Fun K "_law_amount" "_law_amount" s__law_amount f__law_amount d__law_amount
  m__law_amount : mg "_law_amount" = some (.ref f__law_amount)
  b__law_amount : Binds K d__law_amount ["_law_crock_here"] []
  f__law_plus : Addr
  d__law_plus : FuncData
  F__law_plus : Fun K "_law_plus" "_law_plus" s__law_plus f__law_plus d__law_plus
  m__law_plus : mg "_law_plus" = some (.ref f__law_plus)
  b__law_plus : Binds K d__law_plus ["_law_one_here", "_law_other"] []
  f__law_right : Addr
  d__law_right : FuncData
  F__law_right : Fun K "_law_right" "_law_right" s__law_right f__law_right d__law_right
  m__law_right : mg "_law_right" = some (.ref f__law_right)
  b__law_right : Binds K d__law_right ["_law_crock_here"] []
  f_law : Addr
  d_law : FuncData
  F_law : Fun K "law" "law" s_law f_law d_law
  m_law : mg "law" = some (.ref f_law)
  b_law : Binds K d_law ["_law_script"] []
  z_abs : mg "abs" = none
  z_all : mg "all" = none
  z_bool : mg "bool" = none
  z_enumerate : mg "enumerate" = none
  z_int : mg "int" = none
  z_isinstance : mg "isinstance" = none
  z_len : mg "len" = none
  z_list : mg "list" = none
  z_range : mg "range" = none
  z_repr : mg "repr" = none
  z_tuple : mg "tuple" = none
  z_zip : mg "zip" = none
  k_TURNS : KonD K mg "TURNS" (D.int 8)
section
variable {P : Program} {w : World} {K : PySem.W.Frag} {mg : Str → Option Value} {base : Heap}
theorem kw_turned_0_turn_amount (T : Txt K mg) : KwB K T.d_turned ["amount", "turn"] 0 ["turn", "amount"] [1, 0] := Fun.kwb T.F_turned 0 ["turn", "amount"] [1, 0] (fun _ _ _ _ _ _ us ws h1 h2 => match us, ws, h1, h2 with | [], [_, _], _, _ => rfl)
theorem kw_mirrored_0_amount (T : Txt K mg) : KwB K T.d_mirrored ["amount"] 0 ["amount"] [0] := Fun.kwb T.F_mirrored 0 ["amount"] [0] (fun _ _ _ _ _ _ us ws h1 h2 => match us, ws, h1, h2 with | [], [_], _, _ => rfl)
theorem kw_length_of_0_amount (T : Txt K mg) : KwB K T.d_length_of ["amount"] 0 ["amount"] [0] := Fun.kwb T.F_length_of 0 ["amount"] [0] (fun _ _ _ _ _ _ us ws h1 h2 => match us, ws, h1, h2 with | [], [_], _, _ => rfl)
theorem kw_multiplied_0_other_one (T : Txt K mg) : KwB K T.d_multiplied ["one", "other"] 0 ["other", "one"] [1, 0] := Fun.kwb T.F_multiplied 0 ["other", "one"] [1, 0] (fun _ _ _ _ _ _ us ws h1 h2 => match us, ws, h1, h2 with | [], [_, _], _, _ => rfl)
theorem kw_added_0_other_one (T : Txt K mg) : KwB K T.d_added ["one", "other"] 0 ["other", "one"] [1, 0] := Fun.kwb T.F_added 0 ["other", "one"] [1, 0] (fun _ _ _ _ _ _ us ws h1 h2 => match us, ws, h1, h2 with | [], [_, _], _, _ => rfl)
theorem sc__law_crock : FnScope N__law_crock ["_law_script"] (defScope s__law_crock) := ⟨rfl, rfl, rfl, by decide +kernel, rfl, by decide +kernel, by decide +kernel⟩
theorem sc_plus : FnScope N_plus ["one", "other"] (defScope s_plus) := ⟨rfl, rfl, rfl, by decide +kernel, rfl, by decide +kernel, by decide +kernel⟩
theorem sc_is_integer : FnScope N_is_integer ["value"] (defScope s_is_integer) := ⟨rfl, rfl, rfl, by decide +kernel, rfl, by decide +kernel, by decide +kernel⟩
theorem sc_is_amount : FnScope N_is_amount ["value"] (defScope s_is_amount) := ⟨rfl, rfl, rfl, by decide +kernel, rfl, by decide +kernel, by decide +kernel⟩
theorem sc_need_amount : FnScope N_need_amount ["value", "part"] (defScope s_need_amount) := ⟨rfl, rfl, rfl, by decide +kernel, rfl, by decide +kernel, by decide +kernel⟩
theorem sc_added : FnScope N_added ["one", "other"] (defScope s_added) := ⟨rfl, rfl, rfl, by decide +kernel, rfl, by decide +kernel, by decide +kernel⟩
theorem sc__law_times : FnScope N__law_times ["_law_one_here", "_law_other"] (defScope s__law_times) := ⟨rfl, rfl, rfl, by decide +kernel, rfl, by decide +kernel, by decide +kernel⟩
theorem sc__law_length : FnScope N__law_length ["_law_amounts"] (defScope s__law_length) := ⟨rfl, rfl, rfl, by decide +kernel, rfl, by decide +kernel, by decide +kernel⟩
theorem sc_is_within : FnScope N_is_within ["value", "least", "most"] (defScope s_is_within) := ⟨rfl, rfl, rfl, by decide +kernel, rfl, by decide +kernel, by decide +kernel⟩
theorem sc_is_turn : FnScope N_is_turn ["value"] (defScope s_is_turn) := ⟨rfl, rfl, rfl, by decide +kernel, rfl, by decide +kernel, by decide +kernel⟩
theorem sc_need_turn : FnScope N_need_turn ["value", "part"] (defScope s_need_turn) := ⟨rfl, rfl, rfl, by decide +kernel, rfl, by decide +kernel, by decide +kernel⟩
theorem sc_turn_by : FnScope N_turn_by ["amount", "turn"] (defScope s_turn_by) := ⟨rfl, rfl, rfl, by decide +kernel, rfl, by decide +kernel, by decide +kernel⟩
theorem sc_turned : FnScope N_turned ["amount", "turn"] (defScope s_turned) := ⟨rfl, rfl, rfl, by decide +kernel, rfl, by decide +kernel, by decide +kernel⟩
theorem sc__law_ladle : FnScope N__law_ladle ["_law_crock_here", "_law_many"] (defScope s__law_ladle) := ⟨rfl, rfl, rfl, by decide +kernel, rfl, by decide +kernel, by decide +kernel⟩
theorem sc_length_in : FnScope N_length_in ["amounts"] (defScope s_length_in) := ⟨rfl, rfl, rfl, by decide +kernel, rfl, by decide +kernel, by decide +kernel⟩
theorem sc_length_of : FnScope N_length_of ["amount"] (defScope s_length_of) := ⟨rfl, rfl, rfl, by decide +kernel, rfl, by decide +kernel, by decide +kernel⟩
theorem sc_times : FnScope N_times ["one", "other"] (defScope s_times) := ⟨rfl, rfl, rfl, by decide +kernel, rfl, by decide +kernel, by decide +kernel⟩
theorem sc_multiplied : FnScope N_multiplied ["one", "other"] (defScope s_multiplied) := ⟨rfl, rfl, rfl, by decide +kernel, rfl, by decide +kernel, by decide +kernel⟩
theorem sc_mirror : FnScope N_mirror ["amount"] (defScope s_mirror) := ⟨rfl, rfl, rfl, by decide +kernel, rfl, by decide +kernel, by decide +kernel⟩
theorem sc_mirrored : FnScope N_mirrored ["amount"] (defScope s_mirrored) := ⟨rfl, rfl, rfl, by decide +kernel, rfl, by decide +kernel, by decide +kernel⟩
theorem sc__law_turned : FnScope N__law_turned ["_law_amount_here", "_law_turn"] (defScope s__law_turned) := ⟨rfl, rfl, rfl, by decide +kernel, rfl, by decide +kernel, by decide +kernel⟩
theorem sc__law_lengths_right : FnScope N__law_lengths_right ["_law_crock_here", "_law_one_here", "_law_other", "_law_due"] (defScope s__law_lengths_right) := ⟨rfl, rfl, rfl, by decide +kernel, rfl, by decide +kernel, by decide +kernel⟩
theorem sc__law_one : FnScope N__law_one ["_law_crock_here", "_law_some"] (defScope s__law_one) := ⟨rfl, rfl, rfl, by decide +kernel, rfl, by decide +kernel, by decide +kernel⟩
theorem sc__law_amount : FnScope N__law_amount ["_law_crock_here"] (defScope s__law_amount) := ⟨rfl, rfl, rfl, by decide +kernel, rfl, by decide +kernel, by decide +kernel⟩
theorem sc__law_plus : FnScope N__law_plus ["_law_one_here", "_law_other"] (defScope s__law_plus) := ⟨rfl, rfl, rfl, by decide +kernel, rfl, by decide +kernel, by decide +kernel⟩
theorem sc__law_right : FnScope N__law_right ["_law_crock_here"] (defScope s__law_right) := ⟨rfl, rfl, rfl, by decide +kernel, rfl, by decide +kernel, by decide +kernel⟩
theorem sc_law : FnScope N_law ["_law_script"] (defScope s_law) := ⟨rfl, rfl, rfl, by decide +kernel, rfl, by decide +kernel, by decide +kernel⟩
structure LI where
  i : Nat
  many : Int
  n : Nat
/-- four integers -/
structure Am where
  a : Int
  b : Int
  c : Int
  d : Int
def Am.ds (x : Am) : List D := [.int x.a, .int x.b, .int x.c, .int x.d]
def Am.t (x : Am) : D := .tup x.ds
def Am.py (x : Am) : PyData := .tuple [.int x.a, .int x.b, .int x.c, .int x.d]
structure Am.B (n : Nat) (x : Am) : Prop where
  a : Bd n x.a
  b : Bd n x.b
  c : Bd n x.c
  d : Bd n x.d
def Am.add (x y : Am) : Am := ⟨x.a + y.a, x.b + y.b, x.c + y.c, x.d + y.d⟩
def Am.mul (x y : Am) : Am := ⟨x.a * y.a - x.b * y.d - x.c * y.c - x.d * y.b, x.a * y.b + x.b * y.a - x.c * y.d - x.d * y.c, x.a * y.c + x.b * y.b + x.c * y.a - x.d * y.d, x.a * y.d + x.b * y.c + x.c * y.b + x.d * y.a⟩
def Am.mir (x : Am) : Am := ⟨x.a, -x.d, -x.c, -x.b⟩
def Am.tn1 (x : Am) : Am := ⟨-x.d, x.a, x.b, x.c⟩
def Am.tn : Nat → Am → Am
  | 0, x => x
  | n + 1, x => (Am.tn n x).tn1
def Am.l1 (x : Am) : Int := x.a * x.a + x.b * x.b + x.c * x.c + x.d * x.d
def Am.l2 (x : Am) : Int := x.a * x.b + x.b * x.c + x.c * x.d - x.d * x.a
abbrev SA := D × Am
def SA.ok (i : SA) (cs : Sto) : Prop := seqOf cs i.1 = some i.2.ds
theorem bd1 : Bd 64 1 := by unfold Bd; decide
theorem bdm1 : Bd 64 (-1) := by unfold Bd; decide
theorem ng1 (x : Int) : -1 * x = -x := by omega
structure MB where
  x : Am
  y : Am
  n : Nat
  m : Nat
def MB.ok (i : MB) : Prop := i.x.B i.n ∧ i.y.B i.m ∧ i.n + i.m ≤ 900000
theorem Am.ext' {x y : Am} (h1 : x.a = y.a) (h2 : x.b = y.b) (h3 : x.c = y.c) (h4 : x.d = y.d) : x = y := by
  cases x
  cases y
  simp_all
instance : DecidableEq Am := fun x y => decidable_of_iff (x.a = y.a ∧ x.b = y.b ∧ x.c = y.c ∧ x.d = y.d) ⟨fun h => Am.ext' h.1 h.2.1 h.2.2.1 h.2.2.2, fun h => by subst h; exact ⟨rfl, rfl, rfl, rfl⟩⟩
theorem seqOf_t (cs : Sto) (x : Am) : seqOf cs x.t = some x.ds := (rfl)
theorem eqA (cs : Sto) (neg : Bool) (x y : Am) : eqD cs neg x.t y.t = some (True, .bl (if neg = true then !decide (x = y) else decide (x = y))) := by
  have h := eqD_tints (cs := cs) neg [x.a, x.b, x.c, x.d] [y.a, y.b, y.c, y.d]
  have e : ([x.a, x.b, x.c, x.d] = [y.a, y.b, y.c, y.d]) ↔ x = y := ⟨fun h => by simp only [List.cons.injEq, and_true] at h; exact Am.ext' h.1 h.2.1 h.2.2.1 h.2.2.2, fun h => by subst h; rfl⟩
  simp only [e] at h
  exact h
theorem eqA4 (cs : Sto) (neg : Bool) (x : Am) (a b c d : Int) : eqD cs neg x.t (.tup [.int a, .int b, .int c, .int d]) = some (True, .bl (if neg = true then !decide (x = ⟨a, b, c, d⟩) else decide (x = ⟨a, b, c, d⟩))) := eqA cs neg x ⟨a, b, c, d⟩
theorem ixA0 (cs : Sto) (x : Am) : ixD cs x.t (.int 0) = some (True, .int x.a) := (rfl)
theorem ixA1 (cs : Sto) (x : Am) : ixD cs x.t (.int 1) = some (True, .int x.b) := (rfl)
theorem ixA2 (cs : Sto) (x : Am) : ixD cs x.t (.int 2) = some (True, .int x.c) := (rfl)
theorem ixA3 (cs : Sto) (x : Am) : ixD cs x.t (.int 3) = some (True, .int x.d) := (rfl)
theorem reprA {n : Nat} {x : Am} (h : x.B n) (l : n ≤ 1920 := by decide) (cs : Sto) : reprD cs x.t = some (True, shD x.t) :=
  reprD_ok (n := n) (k := 1) (by simp only [Am.t, Am.ds, DB, DBL, and_true]; exact ⟨h.a, h.b, h.c, h.d⟩) l (by decide) (by simp [Am.t, Am.ds, dwt, dwts])
theorem repr2 {n : Nat} {a b : Int} (h1 : Bd n a) (h2 : Bd n b) (l : n ≤ 1920 := by decide) (cs : Sto) : reprD cs (.tup [.int a, .int b]) = some (True, shD (.tup [.int a, .int b])) :=
  reprD_ok (n := n) (k := 1) (by simp only [DB, DBL, and_true]; exact ⟨h1, h2⟩) l (by decide) (by simp [dwt, dwts])
theorem Am.B.mono {n m : Nat} {x : Am} (h : x.B n) (l : n ≤ m) : x.B m := ⟨h.a.mono l, h.b.mono l, h.c.mono l, h.d.mono l⟩
theorem Am.B.add {n : Nat} {x y : Am} (h : x.B n) (k : y.B n) : (x.add y).B (n + 1) := ⟨h.a.add k.a, h.b.add k.b, h.c.add k.c, h.d.add k.d⟩
theorem Am.B.mir {n : Nat} {x : Am} (h : x.B n) : x.mir.B n := ⟨h.a, h.d.neg, h.c.neg, h.b.neg⟩
theorem Am.B.tn {n : Nat} {x : Am} (h : x.B n) : ∀ k, (Am.tn k x).B n
  | 0 => h
  | k + 1 => by
    have i := Am.B.tn h k
    exact ⟨i.d.neg, i.a, i.b, i.c⟩
theorem Am.B.mul {n m : Nat} {x y : Am} (h : x.B n) (k : y.B m) : (x.mul y).B (n + m + 3) :=
  ⟨(((h.a.mul k.a).sub (h.b.mul k.d)).sub ((h.c.mul k.c).mono (by omega))).sub ((h.d.mul k.b).mono (by omega)),
   (((h.a.mul k.b).add (h.b.mul k.a)).sub ((h.c.mul k.d).mono (by omega))).sub ((h.d.mul k.c).mono (by omega)),
   (((h.a.mul k.c).add (h.b.mul k.b)).add ((h.c.mul k.a).mono (by omega))).sub ((h.d.mul k.d).mono (by omega)),
   (((h.a.mul k.d).add (h.b.mul k.c)).add ((h.c.mul k.b).mono (by omega))).add ((h.d.mul k.a).mono (by omega))⟩
theorem Am.B.l1 {n : Nat} {x : Am} (h : x.B n) : Bd (n + n + 3) x.l1 := (((h.a.mul h.a).add (h.b.mul h.b)).add ((h.c.mul h.c).mono (by omega))).add ((h.d.mul h.d).mono (by omega))
theorem Am.B.l2 {n : Nat} {x : Am} (h : x.B n) : Bd (n + n + 3) x.l2 := (((h.a.mul h.b).add (h.b.mul h.c)).add ((h.c.mul h.d).mono (by omega))).sub ((h.d.mul h.a).mono (by omega))
theorem Am.add_comm (x y : Am) : y.add x = x.add y := by
  apply Am.ext' <;> simp only [Am.add] <;> omega
theorem Am.mul_comm (x y : Am) : y.mul x = x.mul y := by
  apply Am.ext' <;> simp only [Am.mul] <;> grind
theorem Am.mul_assoc (x y z : Am) : (x.mul y).mul z = x.mul (y.mul z) := by
  apply Am.ext' <;> simp only [Am.mul] <;> grind
theorem Am.mul_add (x y z : Am) : x.mul (y.add z) = (x.mul y).add (x.mul z) := by
  apply Am.ext' <;> simp only [Am.mul, Am.add] <;> grind
theorem Am.mul_mir (x : Am) : x.mul x.mir = ⟨x.l1, x.l2, 0, -x.l2⟩ := by
  apply Am.ext' <;> simp only [Am.mul, Am.mir, Am.l1, Am.l2] <;> grind
theorem Am.mir_mir (x : Am) : x.mir.mir = x := by
  apply Am.ext' <;> simp only [Am.mir] <;> omega
theorem Am.l1_mul (x y : Am) : (x.mul y).l1 = x.l1 * y.l1 + 2 * x.l2 * y.l2 := by
  simp only [Am.mul, Am.l1, Am.l2]
  grind
theorem Am.l2_mul (x y : Am) : (x.mul y).l2 = x.l1 * y.l2 + x.l2 * y.l1 := by
  simp only [Am.mul, Am.l1, Am.l2]
  grind
theorem Am.l1_tn (x : Am) : ∀ k, (Am.tn k x).l1 = x.l1
  | 0 => rfl
  | k + 1 => by
    rw [← Am.l1_tn x k]
    simp only [Am.tn, Am.tn1, Am.l1]
    grind
theorem Am.l2_tn (x : Am) : ∀ k, (Am.tn k x).l2 = x.l2
  | 0 => rfl
  | k + 1 => by
    rw [← Am.l2_tn x k]
    simp only [Am.tn, Am.tn1, Am.l2]
    grind
theorem Am.tn_tn (x : Am) (m : Nat) : ∀ k, Am.tn k (Am.tn m x) = Am.tn (m + k) x
  | 0 => rfl
  | k + 1 => by
    show (Am.tn k (Am.tn m x)).tn1 = (Am.tn (m + k) x).tn1
    rw [Am.tn_tn x m k]
theorem Am.tn8 (x : Am) (k : Nat) : Am.tn (k + 8) x = Am.tn k x := by
  show ((((((((Am.tn k x).tn1).tn1).tn1).tn1).tn1).tn1).tn1).tn1 = _
  apply Am.ext' <;> simp only [Am.tn1] <;> omega
theorem Am.tn_mod (x : Am) (k : Nat) (h : k < 16) : Am.tn (k % 8) x = Am.tn k x := by
  by_cases h8 : k < 8
  · rw [Nat.mod_eq_of_lt h8]
  · have e : k % 8 + 8 = k := by omega
    rw [← Am.tn8, e]
theorem Am.zero (x : Am) : (x.l1 = 0 ∧ x.l2 = 0) ↔ x = ⟨0, 0, 0, 0⟩ := by
  constructor
  · intro h
    have h1 : x.a * x.a + x.b * x.b + x.c * x.c + x.d * x.d = 0 := h.1
    have sq : ∀ y : Int, 0 ≤ y * y := fun y => by
      rcases Int.le_total 0 y with h | h
      · exact Int.mul_nonneg h h
      · exact Int.mul_nonneg_of_nonpos_of_nonpos h h
    have z : ∀ y : Int, y * y = 0 → y = 0 := fun y h => (Int.mul_eq_zero.mp h).elim id id
    have := sq x.a
    have := sq x.b
    have := sq x.c
    have := sq x.d
    exact Am.ext' (z _ (by omega)) (z _ (by omega)) (z _ (by omega)) (z _ (by omega))
  · intro h
    subst h
    exact ⟨rfl, rfl⟩

local macro_rules | `(tactic| walk_at "dl") => `(tactic| simp only [↓o1_eq, ↓oAbs_eq, ↓oAdd_eq, ↓oAll_eq, ↓oAny_eq, ↓oEq_eq, ↓oI_eq, ↓oIadd_eq, ↓oInt_eq, ↓oIsN_eq, ↓oIsi_eq, ↓oIx_eq, ↓oLen_eq, ↓oList_eq, ↓oMul_eq, ↓oRepr_eq, ↓oSl_eq, ↓oSum_eq, ↓oTru_eq, ↓oTup_eq, ↓oU_eq, ↓wAndV_eq, ↓wAnd_eq, ↓wAug_eq, ↓wB_eq, ↓wBreak_eq, ↓wC_eq, ↓wCall0_eq, ↓wCallK_eq, ↓wCall_eq, ↓wCel_eq, ↓wCons_eq, ↓wCont_eq, ↓wDrop_eq, ↓wEnum_eq, ↓wFor_eq, ↓wFrz_eq, ↓wIfS_eq, ↓wIf_eq, ↓wLc_eq, ↓wLst_eq, ↓wNext_eq, ↓wNil_eq, ↓wNotD_eq, ↓wNotV_eq, ↓wOp_eq, ↓wOrV_eq, ↓wOr_eq, ↓wPar3_eq, ↓wPar_eq, ↓wPat_eq, ↓wPn_eq, ↓wPs_eq, ↓wRetN_eq, ↓wRet_eq, ↓wRng1_eq, ↓wRng2_eq, ↓wSeqI_eq, ↓wSeq_eq, ↓wSet_eq, ↓wSl_eq, ↓wStore_eq, ↓wTruD_eq, ↓wTst_eq, ↓wTup_eq, ↓wUn_eq, ↓wVar_eq, ↓wWhile_eq, ↓wZip_eq, bindP_some, bindP_none, cond2_true, cond2_false, letE_eq, envAt_zero, envAt_none, envAt_succ, blD, wYes, wNever, cT, iD, uD, addD, iaddD, mulD, eqD_int, eqD_str, eqD_bl, isND, isNon, slD, intOf, absD, blsD, numsD, bls, nums, intD, rng1, rng2, en1, zip1, zipD, enD, stay, startE, patSet, patSets, wipeE, and_t, sz_le, gP, List.filterMap_cons, List.filterMap_nil,  Int.reducePow, Int.cast_ofNat_Int, cMul_l, cMul_r, CPow_lit, CDivW_lit, eqD_ints, List.length_map,  isi_non, isit_non, isi_bl, isit_bl, isi_int, isit_int, isi_str, isit_str, isi_tup, isit_tup, isi_lst, isit_lst, isi_dic, isit_dic, lstOf_lst, truD_non, truD_bl, truD_int, truD_str, truD_tup, truD_lst, truD_dic, lstOf_cell, seqOf_lst, seqOf_tup, seqOf_cell, seqI_lst, seqI_tup, seqI_cell, lenD_str, lenD_lst, lenD_tup, lenD_cell, ixD_lst, ixD_tup, ixD_cell, truD_cell, isi_cell, isit_cell, stoD_cell, frzD_eq, lstAt_app, lstAt_0, lstAt_s, set_app, List.set_set, Option.bind_some, Option.bind_none,  List.isEmpty_cons, List.isEmpty_nil, Option.map_none, and_true, atI_zero, atI_1, atI_2, atI_3, kB_int_int, kB_int_bool, kB_bool_int, kB_bool_bool, kB_list_lt, kB_tuple_lt, Option.map_some, List.map_cons, List.map_nil, List.cons_append, List.nil_append, List.append_nil, List.length_cons, List.length_nil, List.replicate, List.getElem?_cons_zero, List.getElem?_cons_succ, List.set_cons_zero, List.set_cons_succ, Nat.reduceSub, Nat.reduceAdd, Nat.sub_zero, Nat.zero_add, Bool.not_true, Bool.not_false, Bool.false_eq_true, ite_true, ite_false, reduceIte, reduceCtorEq, Nat.reduceLeDiff, eq_self, ix0, ix1, ix2, ix3, cutD_all, decide_true, decide_false, wAll, wCl, Int.reduceAdd, Int.reduceSub, Int.reduceMul, Int.reduceNeg, Int.reduceLT, Int.reduceLE, Int.reduceEq, Int.reduceMod, Int.reduceDiv, Int.reduceToNat, Int.toNat_natCast, Nat.reduceLT, Nat.reduceEqDiff, Nat.reduceMul, seqOf_t, eqA, eqA4, ixA0, ixA1, ixA2, ixA3, eqD_t2])
local macro_rules | `(tactic| walk_at "dlu") => `(tactic| simp only [↓o1_eq, ↓oAbs_eq, ↓oAdd_eq, ↓oAll_eq, ↓oAny_eq, ↓oEq_eq, ↓oI_eq, ↓oIadd_eq, ↓oInt_eq, ↓oIsN_eq, ↓oIsi_eq, ↓oIx_eq, ↓oLen_eq, ↓oList_eq, ↓oMul_eq, ↓oRepr_eq, ↓oSl_eq, ↓oSum_eq, ↓oTru_eq, ↓oTup_eq, ↓oU_eq, ↓wAndV_eq, ↓wAnd_eq, ↓wAug_eq, ↓wB_eq, ↓wBreak_eq, ↓wC_eq, ↓wCall0_eq, ↓wCallK_eq, ↓wCall_eq, ↓wCel_eq, ↓wCons_eq, ↓wCont_eq, ↓wDrop_eq, ↓wEnum_eq, ↓wFor_eq, ↓wFrz_eq, ↓wIfS_eq, ↓wIf_eq, ↓wLc_eq, ↓wLst_eq, ↓wNext_eq, ↓wNil_eq, ↓wNotD_eq, ↓wNotV_eq, ↓wOp_eq, ↓wOrV_eq, ↓wOr_eq, ↓wPar3_eq, ↓wPar_eq, ↓wPat_eq, ↓wPn_eq, ↓wPs_eq, ↓wRetN_eq, ↓wRet_eq, ↓wRng1_eq, ↓wRng2_eq, ↓wSeqI_eq, ↓wSeq_eq, ↓wSet_eq, ↓wSl_eq, ↓wStore_eq, ↓wTruD_eq, ↓wTst_eq, ↓wTup_eq, ↓wUn_eq, ↓wVar_eq, ↓wWhile_eq, ↓wZip_eq, bindP_some, bindP_none, cond2_true, cond2_false, letE_eq, envAt_zero, envAt_none, envAt_succ, blD, wYes, wNever, cT, iD, uD, addD, iaddD, mulD, eqD_int, eqD_str, eqD_bl, isND, isNon, slD, intOf, absD, blsD, numsD, bls, nums, intD, rng1, rng2, en1, zip1, zipD, enD, stay, startE, patSet, patSets, wipeE, and_t, sz_le, gP, List.filterMap_cons, List.filterMap_nil,  Int.reducePow, Int.cast_ofNat_Int, cMul_l, cMul_r, CPow_lit, CDivW_lit, eqD_ints, List.length_map,  isi_non, isit_non, isi_bl, isit_bl, isi_int, isit_int, isi_str, isit_str, isi_tup, isit_tup, isi_lst, isit_lst, isi_dic, isit_dic, lstOf_lst, truD_non, truD_bl, truD_int, truD_str, truD_tup, truD_lst, truD_dic, lstOf_cell, seqOf_lst, seqOf_tup, seqOf_cell, seqI_lst, seqI_tup, seqI_cell, lenD_str, lenD_lst, lenD_tup, lenD_cell, ixD_lst, ixD_tup, ixD_cell, truD_cell, isi_cell, isit_cell, stoD_cell, frzD_eq, lstAt_app, lstAt_0, lstAt_s, set_app, List.set_set, Option.bind_some, Option.bind_none,  List.isEmpty_cons, List.isEmpty_nil, Option.map_none, and_true, atI_zero, atI_1, atI_2, atI_3, kB_int_int, kB_int_bool, kB_bool_int, kB_bool_bool, kB_list_lt, kB_tuple_lt, Option.map_some, List.map_cons, List.map_nil, List.cons_append, List.nil_append, List.append_nil, List.length_cons, List.length_nil, List.replicate, List.getElem?_cons_zero, List.getElem?_cons_succ, List.set_cons_zero, List.set_cons_succ, Nat.reduceSub, Nat.reduceAdd, Nat.sub_zero, Nat.zero_add, Bool.not_true, Bool.not_false, Bool.false_eq_true, ite_true, ite_false, reduceIte, reduceCtorEq, Nat.reduceLeDiff, eq_self, ix0, ix1, ix2, ix3, cutD_all, decide_true, decide_false, wAll, wCl, Int.reduceAdd, Int.reduceSub, Int.reduceMul, Int.reduceNeg, Int.reduceLT, Int.reduceLE, Int.reduceEq, Int.reduceMod, Int.reduceDiv, Int.reduceToNat, Int.toNat_natCast, Nat.reduceLT, Nat.reduceEqDiff, Nat.reduceMul, rngD_z, rngD_s, forP_nil, forP_cons, lcP_nil, lcP_cons, seqOf_t, eqA, eqA4, ixA0, ixA1, ixA2, ixA3, eqD_t2])
local macro_rules | `(tactic| walk_at "dlh") => `(tactic| simp only [↓o1_eq, ↓oAbs_eq, ↓oAdd_eq, ↓oAll_eq, ↓oAny_eq, ↓oEq_eq, ↓oI_eq, ↓oIadd_eq, ↓oInt_eq, ↓oIsN_eq, ↓oIsi_eq, ↓oIx_eq, ↓oLen_eq, ↓oList_eq, ↓oMul_eq, ↓oRepr_eq, ↓oSl_eq, ↓oSum_eq, ↓oTru_eq, ↓oTup_eq, ↓oU_eq, ↓wAndV_eq, ↓wAnd_eq, ↓wAug_eq, ↓wB_eq, ↓wBreak_eq, ↓wC_eq, ↓wCall0_eq, ↓wCallK_eq, ↓wCall_eq, ↓wCel_eq, ↓wCons_eq, ↓wCont_eq, ↓wDrop_eq, ↓wEnum_eq, ↓wFor_eq, ↓wFrz_eq, ↓wIfS_eq, ↓wIf_eq, ↓wLc_eq, ↓wLst_eq, ↓wNext_eq, ↓wNil_eq, ↓wNotD_eq, ↓wNotV_eq, ↓wOp_eq, ↓wOrV_eq, ↓wOr_eq, ↓wPar3_eq, ↓wPar_eq, ↓wPat_eq, ↓wPn_eq, ↓wPs_eq, ↓wRetN_eq, ↓wRet_eq, ↓wRng1_eq, ↓wRng2_eq, ↓wSeqI_eq, ↓wSeq_eq, ↓wSet_eq, ↓wSl_eq, ↓wStore_eq, ↓wTruD_eq, ↓wTst_eq, ↓wTup_eq, ↓wUn_eq, ↓wVar_eq, ↓wWhile_eq, ↓wZip_eq, bindP_some, bindP_none, cond2_true, cond2_false, letE_eq, envAt_zero, envAt_none, envAt_succ, blD, wYes, wNever, cT, iD, uD, addD, iaddD, mulD, eqD_int, eqD_str, eqD_bl, isND, isNon, slD, intOf, absD, blsD, numsD, bls, nums, intD, rng1, rng2, en1, zip1, zipD, enD, stay, startE, patSet, patSets, wipeE, and_t, sz_le, gP, List.filterMap_cons, List.filterMap_nil,  Int.reducePow, Int.cast_ofNat_Int, cMul_l, cMul_r, CPow_lit, CDivW_lit, eqD_ints, List.length_map,  isi_non, isit_non, isi_bl, isit_bl, isi_int, isit_int, isi_str, isit_str, isi_tup, isit_tup, isi_lst, isit_lst, isi_dic, isit_dic, lstOf_lst, truD_non, truD_bl, truD_int, truD_str, truD_tup, truD_lst, truD_dic, lstOf_cell, seqOf_lst, seqOf_tup, seqOf_cell, seqI_lst, seqI_tup, seqI_cell, lenD_str, lenD_lst, lenD_tup, lenD_cell, ixD_lst, ixD_tup, ixD_cell, truD_cell, isi_cell, isit_cell, stoD_cell, frzD_eq, lstAt_app, lstAt_0, lstAt_s, set_app, List.set_set, Option.bind_some, Option.bind_none,  List.isEmpty_cons, List.isEmpty_nil, Option.map_none, and_true, atI_zero, atI_1, atI_2, atI_3, kB_int_int, kB_int_bool, kB_bool_int, kB_bool_bool, kB_list_lt, kB_tuple_lt, Option.map_some, List.map_cons, List.map_nil, List.cons_append, List.nil_append, List.append_nil, List.length_cons, List.length_nil, List.replicate, List.getElem?_cons_zero, List.getElem?_cons_succ, List.set_cons_zero, List.set_cons_succ, Nat.reduceSub, Nat.reduceAdd, Nat.sub_zero, Nat.zero_add, Bool.not_true, Bool.not_false, Bool.false_eq_true, ite_true, ite_false, reduceIte, reduceCtorEq, Nat.reduceLeDiff, eq_self, ix0, ix1, ix2, ix3, cutD_all, decide_true, decide_false, wAll, wCl, Int.reduceAdd, Int.reduceSub, Int.reduceMul, Int.reduceNeg, Int.reduceLT, Int.reduceLE, Int.reduceEq, Int.reduceMod, Int.reduceDiv, Int.reduceToNat, Int.toNat_natCast, Nat.reduceLT, Nat.reduceEqDiff, Nat.reduceMul, lstAt_set, lstAt_ne, lstAt_old, set_old, ne_eq, not_false_eq_true, *, seqOf_t, eqA, eqA4, ixA0, ixA1, ixA2, ixA3, eqD_t2])

abbrev sp__law_crock : FSpec := { ι := { ns : List Int // ns.length ≤ 63 }, args := fun ns => [.scr ns.1], pre := fun _ cs => cs = [], res := fun _ _ d cs' => d = .cell 0 ∧ ∃ ns, ns.length ≤ 60 ∧ cs' = [svc ns 0 0] }
theorem calm__law_crock : Calm sp__law_crock := ⟨fun _ _ _ _ h => h⟩
set_option maxHeartbeats 4000000 in
theorem ok__law_crock (T : Txt K mg) : FnG P w K mg base CX0 1 T.f__law_crock T.d__law_crock ["_law_script"] (dSp K sp__law_crock) := by
  refine dfun T.F__law_crock sc__law_crock (fun _ => rfl) fun cdv A outer s H E hr => ⟨_, (dss_one (ds_ret (de_cel (da_cons (de_lc (own := [("_law_cell", 1)]) rfl sc__law_crock.nd (di_seq (de_slice (dv 0) dp_none (dp_some de_int))) (blkOk_by (own := [("_law_cell", 1)]) (N := N__law_crock) (sc := defScope s__law_crock) (by decide +kernel)) (fun _ _ _ _ _ => (dg_nm 1 sc__law_crock.nd)) (fun _ _ _ _ _ => dts_nil) (fun _ _ _ _ _ => (de_callT cd_int T.z_int (by decide +kernel) (da_cons (dv 1) da_nil)))) (da_cons de_int (da_cons de_int da_nil)))))), fun i cs hp => ?_⟩
  obtain ⟨ns, hn⟩ := i
  cases hp
  simp only [sp__law_crock]
  walk_at "dl"
  rw [cutD_to _ (by decide), show (60 : Int).toNat = 60 from rfl, ← List.map_take]
  refine ⟨by have := sizeLine_eq; simp; omega, ?_⟩
  refine lcP_i (lc_map (fun d => d) (hW := trivial) _ _ (fun d hd => ?_) ?_)
  · obtain ⟨n, hn, rfl⟩ := List.mem_map.mp hd
    refine ⟨_, rfl, fun R h => ?_⟩
    walk_at "dl"
    exact h
  · walk_at "dl"
    refine ⟨ns.take 60, by simp; omega, ?_⟩
    simp [svc, Function.comp_def]
abbrev sp_plus : FSpec := { ι := Am × Am, args := fun i => [i.1.t, i.2.t], pre := fun _ _ => True, res := fun i cs d cs' => d = (i.1.add i.2).t ∧ cs' = cs }
theorem calm_plus : Calm sp_plus := ⟨fun _ _ _ _ h => h⟩
set_option maxHeartbeats 4000000 in
theorem ok_plus (T : Txt K mg) : FnG P w K mg base CX0 1 T.f_plus T.d_plus ["one", "other"] (dSp K sp_plus) := by
  refine dfun T.F_plus sc_plus (fun _ => rfl) fun cdv A outer s H E hr => ⟨_, (dss_one (ds_ret (de_tup (da_cons (de_op opd_add (de_ix (dv 0) de_int) (de_ix (dv 1) de_int)) (da_cons (de_op opd_add (de_ix (dv 0) de_int) (de_ix (dv 1) de_int)) (da_cons (de_op opd_add (de_ix (dv 0) de_int) (de_ix (dv 1) de_int)) (da_cons (de_op opd_add (de_ix (dv 0) de_int) (de_ix (dv 1) de_int)) da_nil))))))), fun i cs hp => ?_⟩
  obtain ⟨x, y⟩ := i
  simp only [sp_plus, Am.t, Am.ds]
  walk_at "dl"
  rfl
abbrev sp_is_integer : FSpec := { ι := Int, args := fun i => [.int i], pre := fun _ _ => True, res := fun i cs d cs' => d = .bl true ∧ cs' = cs }
theorem calm_is_integer : Calm sp_is_integer := ⟨fun _ _ _ _ h => h⟩
set_option maxHeartbeats 4000000 in
theorem ok_is_integer (T : Txt K mg) : FnG P w K mg base CX0 1 T.f_is_integer T.d_is_integer ["value"] (dSp K sp_is_integer) := by
  refine dfun T.F_is_integer sc_is_integer (fun _ => rfl) fun cdv A outer s H E hr => ⟨_, (dss_one (ds_ret (de_and (de_callB cd_isi T.z_isinstance (by decide +kernel) (da_cons (dv 0) (da_cons (de_bltn (D.ty "int") (v := .ty "int") (by rfl) T.z_int (by decide +kernel) rfl (fun _ => rfl)) da_nil))) (de_one (de_not (de_callB cd_isi T.z_isinstance (by decide +kernel) (da_cons (dv 0) (da_cons (de_bltn (D.ty "bool") (v := .ty "bool") (by rfl) T.z_bool (by decide +kernel) rfl (fun _ => rfl)) da_nil)))))))), fun i cs hp => ?_⟩
  simp only [sp_is_integer]
  walk_at "dl"
abbrev sp_is_amount : FSpec := { ι := SA, args := fun i => [i.1], pre := fun i cs => i.ok cs, res := fun i cs d cs' => d = .bl true ∧ cs' = cs }
theorem calm_is_amount : Calm sp_is_amount := ⟨fun _ _ _ _ h => h⟩
set_option maxHeartbeats 4000000 in
theorem ok_is_amount (T : Txt K mg) : FnG P w K mg base CX0 2 T.f_is_amount T.d_is_amount ["value"] (dSp K sp_is_amount) := by
  refine dfun T.F_is_amount sc_is_amount (fun _ => rfl) fun cdv A outer s H E hr => ⟨_, (dss_one (ds_ret (de_and (de_callB cd_isi T.z_isinstance (by decide +kernel) (da_cons (dv 0) (da_cons (de_tup (da_cons (de_bltn (D.ty "list") (v := .ty "list") (by rfl) T.z_list (by decide +kernel) rfl (fun _ => rfl)) (da_cons (de_bltn (D.ty "tuple") (v := .ty "tuple") (by rfl) T.z_tuple (by decide +kernel) rfl (fun _ => rfl)) da_nil))) da_nil))) (de_and (de_cmp (opd_eq hr.r.units) (de_callB cd_len T.z_len (by decide +kernel) (da_cons (dv 0) da_nil)) de_int) (de_one (de_callB (cd_all rfl) T.z_all (by decide +kernel) (da_cons (de_lc (own := [("number", 1)]) rfl sc_is_amount.nd (di_seq (dv 0)) (blkOk_by (own := [("number", 1)]) (N := N_is_amount) (sc := defScope s_is_amount) (by decide +kernel)) (fun _ _ _ _ _ => (dg_nm 1 sc_is_amount.nd)) (fun _ _ _ _ _ => dts_nil) (fun _ _ _ _ _ => (de_call calm_is_integer (ok_is_integer T) (hr.mono (by decide)) T.m_is_integer T.F_is_integer.kp T.b_is_integer (da_cons (dv 1) da_nil)))) da_nil))))))), fun i cs hp => ?_⟩
  obtain ⟨d, x⟩ := i
  have h : seqOf cs d = some x.ds := hp
  obtain ⟨W, hW, hw⟩ := seqI_seq h
  simp only [sp_is_amount]
  walk_at "dl"
  simp only [isiD_seq h]
  walk_at "dl"
  simp only [lenD_seq h, Am.ds]
  walk_at "dl"
  simp only [hW]
  walk_at "dl"
  have hs : ∀ d ∈ x.ds, ∃ n : Int, d = .int n := by simp [Am.ds]
  refine ⟨(by simp [Am.ds, sz_le]), lcP_i (lc_map (fun _ => .bl true) hw _ _ (fun d hd => ?_) ?_)⟩
  · obtain ⟨n, rfl⟩ := hs d hd
    refine ⟨_, rfl, fun R h => ?_⟩
    walk_at "dl"
    refine callP_i n rfl trivial ?_
    rintro _ _ ⟨rfl, rfl⟩
    exact h
  · simp only [Am.ds]
    walk_at "dl"
    rfl
abbrev sp_need_amount : FSpec := { ι := SA × Str, args := fun i => [i.1.1, .str i.2], pre := fun i cs => i.1.ok cs, res := fun i cs d cs' => d = i.1.2.t ∧ cs' = cs }
theorem calm_need_amount : Calm sp_need_amount := ⟨fun _ _ _ _ h => h⟩
set_option maxHeartbeats 4000000 in
theorem ok_need_amount (T : Txt K mg) : FnG P w K mg base CX0 3 T.f_need_amount T.d_need_amount ["value", "part"] (dSp K sp_need_amount) := by
  refine dfun T.F_need_amount sc_need_amount (fun _ => rfl) fun cdv A outer s H E hr => ⟨_, (dss_cons (ds_if (dt_not (dt_tru (de_call calm_is_amount (ok_is_amount T) (hr.mono (by decide)) T.m_is_amount T.F_is_amount.kp T.b_is_amount (da_cons (dv 0) da_nil)))) (dss_one ds_never) dss_nil)
      (dss_one (ds_ret (de_callT cd_tup T.z_tuple (by decide +kernel) (da_cons (dv 0) da_nil))))), fun i cs hp => ?_⟩
  obtain ⟨⟨d, x⟩, z⟩ := i
  have h : seqOf cs d = some x.ds := hp
  simp only [sp_need_amount]
  walk_at "dl"
  refine callP_i (d, x) rfl hp ?_
  rintro _ _ ⟨rfl, rfl⟩
  walk_at "dl"
  simp only [h]
  walk_at "dl"
  rfl
abbrev sp_added : FSpec := { ι := SA × SA, args := fun i => [i.1.1, i.2.1], pre := fun i cs => i.1.ok cs ∧ i.2.ok cs, res := fun i cs d cs' => d = (i.1.2.add i.2.2).t ∧ cs' = cs }
theorem added_i {d1 d2 : D} {x y : Am} {cs : Sto} {Q : PD} {z : Lz (sp_added, Q)} (h1 : seqOf cs d1 = some x.ds) (h2 : seqOf cs d2 = some y.ds) (q : Q (x.add y).t cs) : callP sp_added [d1, d2] cs Q z := callP_i ((d1, x), (d2, y)) rfl ⟨h1, h2⟩ fun _ _ ⟨e1, e2⟩ => by subst e1; subst e2; exact q
theorem calm_added : Calm sp_added := ⟨fun _ _ _ _ h => h⟩
set_option maxHeartbeats 4000000 in
theorem ok_added (T : Txt K mg) : FnG P w K mg base CX0 4 T.f_added T.d_added ["one", "other"] (dSp K sp_added) := by
  refine dfun T.F_added sc_added (fun _ => rfl) fun cdv A outer s H E hr => ⟨_, (dss_one (ds_ret (de_call calm_plus (ok_plus T) (hr.mono (by decide)) T.m_plus T.F_plus.kp T.b_plus (da_cons (de_call calm_need_amount (ok_need_amount T) (hr.mono (by decide)) T.m_need_amount T.F_need_amount.kp T.b_need_amount (da_cons (dv 0) (da_cons de_str da_nil))) (da_cons (de_call calm_need_amount (ok_need_amount T) (hr.mono (by decide)) T.m_need_amount T.F_need_amount.kp T.b_need_amount (da_cons (dv 1) (da_cons de_str da_nil))) da_nil))))), fun i cs hp => ?_⟩
  obtain ⟨x, y⟩ := i
  simp only [sp_added]
  walk_at "dl"
  refine callP_i (x, "one") rfl hp.1 ?_
  rintro _ _ ⟨rfl, rfl⟩
  walk_at "dl"
  refine callP_i (y, "other") rfl hp.2 ?_
  rintro _ _ ⟨rfl, rfl⟩
  walk_at "dl"
  refine callP_i (x.2, y.2) rfl trivial ?_
  rintro _ _ ⟨rfl, rfl⟩
  exact ⟨rfl, rfl⟩
abbrev sp__law_times : FSpec := { ι := MB, args := fun i => [i.x.t, i.y.t], pre := fun i _ => i.ok, res := fun i cs d cs' => d = (i.x.mul i.y).t ∧ cs' = cs }
theorem ltimes_i {x y : Am} {n m : Nat} {cs : Sto} {Q : PD} {z : Lz (sp__law_times, Q)} (b1 : x.B n) (b2 : y.B m) (l : n + m ≤ 900000) (q : Q (x.mul y).t cs) : callP sp__law_times [x.t, y.t] cs Q z := callP_i ⟨x, y, n, m⟩ rfl ⟨b1, b2, l⟩ fun _ _ ⟨e1, e2⟩ => by subst e1; subst e2; exact q
theorem calm__law_times : Calm sp__law_times := ⟨fun _ _ _ _ h => h⟩
set_option maxHeartbeats 4000000 in
theorem ok__law_times (T : Txt K mg) : FnG P w K mg base CX0 1 T.f__law_times T.d__law_times ["_law_one_here", "_law_other"] (dSp K sp__law_times) := by
  refine dfunT T.F__law_times sc__law_times (fun _ => rfl) fun cdv A outer s H E hr => ⟨_, (dss_cons (ds_set (i := 2) sc__law_times.nd (de_cel (da_cons de_int (da_cons de_int (da_cons de_int (da_cons de_int da_nil))))))
      (dss_cons (ds_for PassesOwn.never rfl (di_enum T.z_enumerate (da_cons (dv 0) da_nil)) (dg_tp rfl (dgs_cons (dg_nm 3 sc__law_times.nd) (dgs_cons (dg_nm 4 sc__law_times.nd) dgs_nil))) (dss_one (ds_for PassesOwn.never rfl (di_enum T.z_enumerate (da_cons (dv 1) da_nil)) (dg_tp rfl (dgs_cons (dg_nm 5 sc__law_times.nd) (dgs_cons (dg_nm 6 sc__law_times.nd) dgs_nil))) (dss_cons (ds_par (i := 7) (j := 8) rfl sc__law_times.nd (da_cons (de_op opd_add (dv 3) (dv 5)) (da_cons de_int da_nil)))
      (dss_cons (ds_if (dt_cmp opd_gt (dv 7) de_int) (dss_one (ds_par (i := 7) (j := 8) rfl sc__law_times.nd (da_cons (de_op opd_sub (dv 7) de_int) (da_cons (de_un und_neg de_int) da_nil)))) dss_nil)
      (dss_one (ds_store (de_op opd_add (de_ix (dv 2) (dv 7)) (de_op opd_mul (de_op opd_mul (dv 8) (dv 4)) (dv 6))) (dv 2) (dv 7))))))))
      (dss_one (ds_ret (de_callT cd_tup T.z_tuple (by decide +kernel) (da_cons (dv 2) da_nil)))))), fun i cs hk hp => ?_⟩
  obtain ⟨x, y, n, m⟩ := i
  obtain ⟨⟨x1, x2, x3, x4⟩, ⟨y1, y2, y3, y4⟩, hl⟩ := hp
  simp only [Am.t, Am.ds] at *
  walk_at "dlu"
  simp only [Int.one_mul, ng1, Int.zero_add]
  repeat' apply And.intro
  all_goals first | exact Bd.ok (by assumption) (by assumption) hl | exact Bd.ok (Bd.neg (by assumption)) (by assumption) hl | skip
  refine trim_app hk (by simp [okD, okDs]) ⟨?_, rfl⟩
  simp only [Am.mul, D.tup.injEq, List.cons.injEq, D.int.injEq, and_true]
  repeat' apply And.intro
  all_goals grind
abbrev sp__law_length : FSpec := { ι := Am × Nat, args := fun i => [.lst [i.1.t]], pre := fun i _ => i.1.B i.2 ∧ i.2 + i.2 + 1 ≤ 900000, res := fun i cs d cs' => d = .tup [.int i.1.l1, .int i.1.l2] ∧ cs' = cs }
theorem llength_i {x : Am} {n : Nat} {cs : Sto} {Q : PD} {z : Lz (sp__law_length, Q)} (b1 : x.B n) (l : n + n + 1 ≤ 900000) (q : Q (.tup [.int x.l1, .int x.l2]) cs) : callP sp__law_length [.lst [x.t]] cs Q z := callP_i (x, n) rfl ⟨b1, l⟩ fun _ _ ⟨e1, e2⟩ => by subst e1; subst e2; exact q
theorem calm__law_length : Calm sp__law_length := ⟨fun _ _ _ _ h => h⟩
set_option maxHeartbeats 4000000 in
theorem ok__law_length (T : Txt K mg) : FnG P w K mg base CX0 1 T.f__law_length T.d__law_length ["_law_amounts"] (dSp K sp__law_length) := by
  refine dfun T.F__law_length sc__law_length (fun _ => rfl) fun cdv A outer s H E hr => ⟨_, (dss_cons (ds_pat (dg_tp rfl (dgs_cons (dg_nm 1 sc__law_length.nd) (dgs_cons (dg_nm 2 sc__law_length.nd) dgs_nil))) (de_tup (da_cons de_int (da_cons de_int da_nil))))
      (dss_cons (ds_for PassesOwn.never rfl (di_seq (dv 0)) (dg_tp rfl (dgs_cons (dg_nm 3 sc__law_length.nd) (dgs_cons (dg_nm 4 sc__law_length.nd) (dgs_cons (dg_nm 5 sc__law_length.nd) (dgs_cons (dg_nm 6 sc__law_length.nd) dgs_nil))))) (dss_cons (ds_set (i := 1) sc__law_length.nd (de_op opd_add (de_op opd_add (de_op opd_add (de_op opd_add (dv 1) (de_op opd_mul (dv 3) (dv 3))) (de_op opd_mul (dv 4) (dv 4))) (de_op opd_mul (dv 5) (dv 5))) (de_op opd_mul (dv 6) (dv 6))))
      (dss_one (ds_set (i := 2) sc__law_length.nd (de_op opd_add (de_op opd_add (dv 2) (de_op opd_mul (dv 4) (de_op opd_add (dv 3) (dv 5)))) (de_op opd_mul (dv 6) (de_op opd_sub (dv 5) (dv 3))))))))
      (dss_one (ds_ret (de_tup (da_cons (dv 1) (da_cons (dv 2) da_nil))))))), fun i cs hp => ?_⟩
  obtain ⟨x, n⟩ := i
  obtain ⟨⟨x1, x2, x3, x4⟩, hl⟩ := hp
  simp only [Am.t, Am.ds] at *
  have e : x.b * (x.a + x.c) + x.d * (x.c - x.a) = x.l2 := by
    unfold Am.l2
    grind
  walk_at "dlu"
  simp only [Int.zero_add, e]
  have hm : n + n ≤ 900000 := by omega
  have hm2 : n + (n + 1) ≤ 900000 := by omega
  exact ⟨x1.ok x1 hm, x2.ok x2 hm, x3.ok x3 hm, x4.ok x4 hm, x2.ok (x1.add x3) hm2, x4.ok (x3.sub x1) hm2, rfl⟩
abbrev sp_is_within : FSpec := { ι := Int × Int × Int, args := fun i => [.int i.1, .int i.2.1, .int i.2.2], pre := fun i _ => i.2.1 ≤ i.1 ∧ i.1 ≤ i.2.2, res := fun i cs d cs' => d = .bl true ∧ cs' = cs }
theorem calm_is_within : Calm sp_is_within := ⟨fun _ _ _ _ h => h⟩
set_option maxHeartbeats 4000000 in
theorem ok_is_within (T : Txt K mg) : FnG P w K mg base CX0 2 T.f_is_within T.d_is_within ["value", "least", "most"] (dSp K sp_is_within) := by
  refine dfun T.F_is_within sc_is_within (fun _ => rfl) fun cdv A outer s H E hr => ⟨_, (dss_cons (ds_if (dt_not (dt_tru (de_call calm_is_integer (ok_is_integer T) (hr.mono (by decide)) T.m_is_integer T.F_is_integer.kp T.b_is_integer (da_cons (dv 0) da_nil)))) (dss_one (ds_ret de_bl)) dss_nil)
      (dss_one (ds_ret (de_and (de_or (de_cmp opd_is (dv 1) de_non) (de_one (de_cmp opd_le (dv 1) (dv 0)))) (de_one (de_or (de_cmp opd_is (dv 2) de_non) (de_one (de_cmp opd_le (dv 0) (dv 2))))))))), fun i cs hp => ?_⟩
  obtain ⟨v, a, b⟩ := i
  obtain ⟨h1, h2⟩ := hp
  simp only [sp_is_within] at *
  walk_at "dl"
  refine callP_i v rfl trivial ?_
  rintro _ _ ⟨rfl, rfl⟩
  walk_at "dl"
  simp only [eq_true h1]
  walk_at "dl"
  simp only [eq_true h2, decide_true]
abbrev sp_is_turn : FSpec := { ι := Int, args := fun i => [.int i], pre := fun i _ => 0 ≤ i ∧ i < 8, res := fun i cs d cs' => d = .bl true ∧ cs' = cs }
theorem calm_is_turn : Calm sp_is_turn := ⟨fun _ _ _ _ h => h⟩
set_option maxHeartbeats 4000000 in
theorem ok_is_turn (T : Txt K mg) : FnG P w K mg base CX0 3 T.f_is_turn T.d_is_turn ["value"] (dSp K sp_is_turn) := by
  refine dfun T.F_is_turn sc_is_turn (fun _ => rfl) fun cdv A outer s H E hr => ⟨_, (dss_one (ds_ret (de_call calm_is_within (ok_is_within T) (hr.mono (by decide)) T.m_is_within T.F_is_within.kp T.b_is_within (da_cons (dv 0) (da_cons de_int (da_cons (de_op opd_sub (T.k_TURNS.de rfl) de_int) da_nil)))))), fun i cs hp => ?_⟩
  simp only [sp_is_turn] at *
  walk_at "dl"
  refine callP_i (i, 0, 7) rfl ⟨hp.1, Int.le_of_lt_add_one hp.2⟩ ?_
  rintro _ _ ⟨rfl, rfl⟩
  exact ⟨rfl, rfl⟩
abbrev sp_need_turn : FSpec := { ι := Int × Str, args := fun i => [.int i.1, .str i.2], pre := fun i _ => 0 ≤ i.1 ∧ i.1 < 8, res := fun i cs d cs' => d = .non ∧ cs' = cs }
theorem calm_need_turn : Calm sp_need_turn := ⟨fun _ _ _ _ h => h⟩
set_option maxHeartbeats 4000000 in
theorem ok_need_turn (T : Txt K mg) : FnG P w K mg base CX0 4 T.f_need_turn T.d_need_turn ["value", "part"] (dSp K sp_need_turn) := by
  refine dfun T.F_need_turn sc_need_turn (fun _ => rfl) fun cdv A outer s H E hr => ⟨_, (dss_one (ds_if (dt_not (dt_tru (de_call calm_is_turn (ok_is_turn T) (hr.mono (by decide)) T.m_is_turn T.F_is_turn.kp T.b_is_turn (da_cons (dv 0) da_nil)))) (dss_one ds_never) dss_nil)), fun i cs hp => ?_⟩
  simp only [sp_need_turn] at *
  walk_at "dl"
  refine callP_i i.1 rfl hp ?_
  rintro _ _ ⟨rfl, rfl⟩
  walk_at "dl"
abbrev sp_turn_by : FSpec := { ι := Am × Int, args := fun i => [i.1.t, .int i.2], pre := fun i _ => 0 ≤ i.2 ∧ i.2 < 8, res := fun i cs d cs' => d = (Am.tn i.2.toNat i.1).t ∧ cs' = cs }
theorem calm_turn_by : Calm sp_turn_by := ⟨fun _ _ _ _ h => h⟩
set_option maxHeartbeats 4000000 in
theorem ok_turn_by (T : Txt K mg) : FnG P w K mg base CX0 1 T.f_turn_by T.d_turn_by ["amount", "turn"] (dSp K sp_turn_by) := by
  refine dfun T.F_turn_by sc_turn_by (fun _ => rfl) fun cdv A outer s H E hr => ⟨_, (dss_cons (ds_pat (dg_tp rfl (dgs_cons (dg_nm 3 sc_turn_by.nd) (dgs_cons (dg_nm 4 sc_turn_by.nd) (dgs_cons (dg_nm 5 sc_turn_by.nd) (dgs_cons (dg_nm 6 sc_turn_by.nd) dgs_nil))))) (dv 0))
      (dss_cons (ds_set (i := 2) sc_turn_by.nd (de_op opd_mod (dv 1) de_int))
      (dss_cons (ds_if (dt_cmp (opd_eq hr.r.units) (dv 2) de_int) (dss_one (ds_pat (dg_tp rfl (dgs_cons (dg_nm 3 sc_turn_by.nd) (dgs_cons (dg_nm 4 sc_turn_by.nd) (dgs_cons (dg_nm 5 sc_turn_by.nd) (dgs_cons (dg_nm 6 sc_turn_by.nd) dgs_nil))))) (de_tup (da_cons (de_un und_neg (dv 6)) (da_cons (dv 3) (da_cons (dv 4) (da_cons (dv 5) da_nil))))))) dss_nil)
      (dss_cons (ds_if (dt_cmp (opd_eq hr.r.units) (dv 2) de_int) (dss_one (ds_pat (dg_tp rfl (dgs_cons (dg_nm 3 sc_turn_by.nd) (dgs_cons (dg_nm 4 sc_turn_by.nd) (dgs_cons (dg_nm 5 sc_turn_by.nd) (dgs_cons (dg_nm 6 sc_turn_by.nd) dgs_nil))))) (de_tup (da_cons (de_un und_neg (dv 5)) (da_cons (de_un und_neg (dv 6)) (da_cons (dv 3) (da_cons (dv 4) da_nil))))))) dss_nil)
      (dss_cons (ds_if (dt_cmp (opd_eq hr.r.units) (dv 2) de_int) (dss_one (ds_pat (dg_tp rfl (dgs_cons (dg_nm 3 sc_turn_by.nd) (dgs_cons (dg_nm 4 sc_turn_by.nd) (dgs_cons (dg_nm 5 sc_turn_by.nd) (dgs_cons (dg_nm 6 sc_turn_by.nd) dgs_nil))))) (de_tup (da_cons (de_un und_neg (dv 4)) (da_cons (de_un und_neg (dv 5)) (da_cons (de_un und_neg (dv 6)) (da_cons (dv 3) da_nil))))))) dss_nil)
      (dss_one (ds_ret (de_if (dt_cmp opd_lt (de_op opd_mod (dv 1) de_int) de_int) (de_tup (da_cons (dv 3) (da_cons (dv 4) (da_cons (dv 5) (da_cons (dv 6) da_nil))))) (de_tup (da_cons (de_un und_neg (dv 3)) (da_cons (de_un und_neg (dv 4)) (da_cons (de_un und_neg (dv 5)) (da_cons (de_un und_neg (dv 6)) da_nil))))))))))))), fun i cs hp => ?_⟩
  obtain ⟨x, n⟩ := i
  obtain ⟨h0, h1⟩ : 0 ≤ n ∧ n < 8 := hp
  have hn : n = 0 ∨ n = 1 ∨ n = 2 ∨ n = 3 ∨ n = 4 ∨ n = 5 ∨ n = 6 ∨ n = 7 := by omega
  simp only [sp_turn_by, Am.t, Am.ds]
  rcases hn with rfl | rfl | rfl | rfl | rfl | rfl | rfl | rfl
  all_goals walk_at "dl"
  all_goals simp only [Int.reduceToNat, Am.tn, Am.tn1, Int.neg_neg]
abbrev sp_turned : FSpec := { ι := SA × Int, args := fun i => [i.1.1, .int i.2], pre := fun i cs => i.1.ok cs ∧ 0 ≤ i.2 ∧ i.2 < 8, res := fun i cs d cs' => d = (Am.tn i.2.toNat i.1.2).t ∧ cs' = cs }
theorem turned_i {d1 : D} {x : Am} {n : Int} {cs : Sto} {Q : PD} {z : Lz (sp_turned, Q)} (h1 : seqOf cs d1 = some x.ds) (b0 : 0 ≤ n) (b1 : n < 8) (q : Q (Am.tn n.toNat x).t cs) : callP sp_turned [d1, .int n] cs Q z := callP_i ((d1, x), n) rfl ⟨h1, b0, b1⟩ fun _ _ ⟨e1, e2⟩ => by subst e1; subst e2; exact q
theorem calm_turned : Calm sp_turned := ⟨fun _ _ _ _ h => h⟩
set_option maxHeartbeats 4000000 in
theorem ok_turned (T : Txt K mg) : FnG P w K mg base CX0 5 T.f_turned T.d_turned ["amount", "turn"] (dSp K sp_turned) := by
  refine dfun T.F_turned sc_turned (fun _ => rfl) fun cdv A outer s H E hr => ⟨_, (dss_cons (ds_set (i := 2) sc_turned.nd (de_call calm_need_amount (ok_need_amount T) (hr.mono (by decide)) T.m_need_amount T.F_need_amount.kp T.b_need_amount (da_cons (dv 0) (da_cons de_str da_nil))))
      (dss_cons (ds_expr (de_call calm_need_turn (ok_need_turn T) (hr.mono (by decide)) T.m_need_turn T.F_need_turn.kp T.b_need_turn (da_cons (dv 1) (da_cons de_str da_nil))))
      (dss_one (ds_ret (de_call calm_turn_by (ok_turn_by T) (hr.mono (by decide)) T.m_turn_by T.F_turn_by.kp T.b_turn_by (da_cons (dv 2) (da_cons (dv 1) da_nil))))))), fun i cs hp => ?_⟩
  obtain ⟨x, n⟩ := i
  simp only [sp_turned]
  walk_at "dl"
  refine callP_i (x, "amount") rfl hp.1 ?_
  rintro _ _ ⟨rfl, rfl⟩
  walk_at "dl"
  refine callP_i (n, "turn") rfl hp.2 ?_
  rintro _ _ ⟨rfl, rfl⟩
  walk_at "dl"
  refine callP_i (x.2, n) rfl hp.2 ?_
  rintro _ _ ⟨rfl, rfl⟩
  exact ⟨rfl, rfl⟩
abbrev sp__law_ladle : FSpec := { ι := LI, args := fun l => [.cell l.i, .int l.many], pre := fun l cs => SvN l.i l.n cs ∧ 0 < l.many ∧ l.many < 2 ^ 64 ∧ l.n ≤ 100000, res := fun l cs d cs' => ∃ r, d = .int r ∧ 0 ≤ r ∧ r < l.many ∧ Mv l.i (l.n + 1) cs cs' }
theorem ladle_i {j n : Nat} {m : Int} {cs : Sto} {Q : PD} {z : Lz (sp__law_ladle, Q)} (h1 : SvN j n cs) (h2 : 0 < m) (h3 : m < 2 ^ 64) (h4 : n ≤ 100000) (q : ∀ r cs', 0 ≤ r → r < m → Mv j (n + 1) cs cs' → Q (.int r) cs') : callP sp__law_ladle [.cell j, .int m] cs Q z :=
  callP_i ⟨j, m, n⟩ rfl ⟨h1, h2, h3, h4⟩ fun d cs' ⟨r, e, a, b, mv⟩ => by subst e; exact q r cs' a b mv
theorem calm__law_ladle : Calm sp__law_ladle := ⟨fun _ _ _ _ h => h⟩
set_option maxHeartbeats 4000000 in
theorem ok__law_ladle (T : Txt K mg) : FnG P w K mg base CX0 1 T.f__law_ladle T.d__law_ladle ["_law_crock_here", "_law_many"] (dSp K sp__law_ladle) := by
  refine dfun T.F__law_ladle sc__law_ladle (fun _ => rfl) fun cdv A outer s H E hr => ⟨_, (dss_cons (ds_if (dt_cmp opd_gt (de_ix (dv 0) de_int) de_int) (dss_cons (ds_set (i := 5) sc__law_ladle.nd (de_callT cd_int T.z_int (by decide +kernel) (da_cons (de_ix (dv 0) de_int) da_nil)))
      (dss_cons (ds_store (de_op opd_fdiv (dv 5) (dv 1)) (dv 0) de_int)
      (dss_one (ds_ret (de_op opd_mod (de_callT cd_int T.z_int (by decide +kernel) (da_cons (dv 5) da_nil)) (dv 1)))))) dss_nil)
      (dss_cons (ds_set (i := 2) sc__law_ladle.nd (de_ix (dv 0) de_int))
      (dss_cons (ds_store (de_op opd_add (dv 2) de_int) (dv 0) de_int)
      (dss_cons (ds_set (i := 3) sc__law_ladle.nd (de_op opd_add (de_op opd_mul de_int (dv 2)) de_int))
      (dss_cons (ds_if (dt_cmp (opd_ne hr.r.units) (de_ix (dv 0) de_int) (de_lst da_nil)) (dss_one (ds_set (i := 3) sc__law_ladle.nd (de_ix (de_ix (dv 0) de_int) (de_op opd_mod (de_callT cd_int T.z_int (by decide +kernel) (da_cons (dv 2) da_nil)) (de_callB cd_len T.z_len (by decide +kernel) (da_cons (de_ix (dv 0) de_int) da_nil)))))) dss_nil)
      (dss_cons (ds_if (dt_of (dw_and (dt_cmp opd_lt (dv 2) (de_callB cd_len T.z_len (by decide +kernel) (da_cons (de_ix (dv 0) de_int) da_nil))) (dw_and1 (dt_cmp opd_ge (de_callB cd_abs T.z_abs (by decide +kernel) (da_cons (dv 3) da_nil)) (de_op opd_pow de_int de_int))))) (dss_cons (ds_set (i := 5) sc__law_ladle.nd (de_op opd_add (de_op opd_mul de_int (de_op opd_sub (de_callB cd_abs T.z_abs (by decide +kernel) (da_cons (dv 3) da_nil)) (de_op opd_pow de_int de_int))) (de_callT cd_int T.z_int (by decide +kernel) (da_cons (de_cmp opd_lt (dv 3) de_int) da_nil))))
      (dss_cons (ds_store (de_op opd_fdiv (de_callT cd_int T.z_int (by decide +kernel) (da_cons (dv 5) da_nil)) (dv 1)) (dv 0) de_int)
      (dss_one (ds_ret (de_op opd_mod (de_callT cd_int T.z_int (by decide +kernel) (da_cons (dv 5) da_nil)) (dv 1)))))) dss_nil)
      (dss_cons (ds_set (i := 4) sc__law_ladle.nd (de_op opd_mod (de_callT cd_int T.z_int (by decide +kernel) (da_cons (de_op opd_pow (de_op opd_add (de_op opd_add (de_op opd_mod (de_callT cd_int T.z_int (by decide +kernel) (da_cons (dv 3) da_nil)) de_int) (de_op opd_mul de_int (dv 2))) de_int) de_int) da_nil)) de_int))
      (dss_cons (ds_set (i := 4) sc__law_ladle.nd (de_op opd_mod (de_callT cd_int T.z_int (by decide +kernel) (da_cons (de_op opd_pow (de_op opd_add (de_op opd_add (de_op opd_mul (dv 4) (de_op opd_add (de_op opd_mul de_int (dv 2)) de_int)) (de_op opd_mul (de_op opd_mul de_int (dv 2)) (dv 2))) de_int) de_int) da_nil)) de_int))
      (dss_one (ds_ret (de_op opd_mod (de_callT cd_int T.z_int (by decide +kernel) (da_cons (de_op opd_fdiv (dv 4) de_int) da_nil)) (dv 1)))))))))))), fun i cs hp => ?_⟩
  obtain ⟨j, many, n⟩ := i
  obtain ⟨⟨ns, k, r, hc, k0, k1, hl⟩, m0, m1, hn⟩ := hp
  have hj : j < cs.length := (List.getElem?_eq_some_iff.mp hc).1
  have hL : lstAt cs j = some [.lst (ns.map .int), .int k, .int r] := lstAt_get hc
  have m2 : many < 18446744073709551616 := by have m1' : many < 2 ^ 64 := m1; omega
  have k2 : k ≤ 100000 := by have hn' : n ≤ 100000 := hn; have k1' : k ≤ (n : Int) := k1; omega
  have k3 : -18446744073709551616 < k := by omega
  have k4 : k < 18446744073709551616 := by omega
  have k5 : k ≤ (n : Int) := k1
  have k6 : k ≤ (n : Int) + 1 := by omega
  have k7 : k + 1 ≤ (n : Int) + 1 := by omega
  have k8 : 0 ≤ k + 1 := by omega
  have m4 : 0 < many := m0
  have fin : ∀ x k' r' : Int, 0 ≤ k' → k' ≤ (n : Int) + 1 → ∃ y, D.int (x % many) = D.int y ∧ 0 ≤ y ∧ y < many ∧ Mv j (n + 1) cs (cs.set j (svc ns k' r')) := fun x k' r' h1 h2 =>
    ⟨_, rfl, Int.emod_nonneg _ (by omega), Int.emod_lt_of_pos _ m4, Mv.set hj h1 h2 hl⟩
  clear hc m1 hn k1 m0
  walk_at "dlh"
  refine cond2_d (fun h => ?_) (fun h => ?_)
  · walk_at "dlh"
    exact fin _ _ _ k0 k6
  walk_at "dlh"
  refine cond2_i (fun hb => ?_) (fun hb => ?_)
  case' refine_1 =>
    have hb' : ns.isEmpty = false := by simpa using hb
    obtain ⟨x, hx⟩ := atI_mod hb' k0
    have hp := len_pos hb'
  all_goals
    walk_at "dlh"
    refine cond2_d (fun h1 => ?_) (fun h1 => ?_)
  case' refine_1.refine_1 =>
    walk_at "dlh"
    refine cond2_d (fun h2 => ?_) (fun h2 => ?_)
  case' refine_2.refine_1 =>
    walk_at "dlh"
    refine cond2_d (fun h2 => ?_) (fun h2 => ?_)
  all_goals walk_at "dlh"
  all_goals first
    | exact fin _ _ _ k8 k7
    | exact ⟨mix1 (by decide) (by decide) k0 (Int.le_trans k2 (by decide)) (by decide) (by decide) (by decide) (by decide) (by decide) (by decide), cMul_mod (by decide) (by decide), mix3 (by decide) (by decide) k0 (Int.le_trans k2 (by decide)) (by decide) (by decide) (by decide) (by decide) (by decide) (by decide) (by decide) (by decide) (by decide) (by decide), fin _ _ _ k8 k7⟩
abbrev sp_length_in : FSpec := { ι := Am × Nat, args := fun i => [.lst [i.1.t]], pre := fun i _ => i.1.B i.2 ∧ i.2 + i.2 ≤ 900000, res := fun i cs d cs' => d = .tup [.int i.1.l1, .int i.1.l2] ∧ cs' = cs }
theorem calm_length_in : Calm sp_length_in := ⟨fun _ _ _ _ h => h⟩
set_option maxHeartbeats 4000000 in
theorem ok_length_in (T : Txt K mg) : FnG P w K mg base CX0 1 T.f_length_in T.d_length_in ["amounts"] (dSp K sp_length_in) := by
  refine dfun T.F_length_in sc_length_in (fun _ => rfl) fun cdv A outer s H E hr => ⟨_, (dss_cons (ds_pat (dg_tp rfl (dgs_cons (dg_nm 1 sc_length_in.nd) (dgs_cons (dg_nm 2 sc_length_in.nd) dgs_nil))) (de_tup (da_cons de_int (da_cons de_int da_nil))))
      (dss_cons (ds_for PassesOwn.never rfl (di_seq (dv 0)) (dg_tp rfl (dgs_cons (dg_nm 3 sc_length_in.nd) (dgs_cons (dg_nm 4 sc_length_in.nd) (dgs_cons (dg_nm 5 sc_length_in.nd) (dgs_cons (dg_nm 6 sc_length_in.nd) dgs_nil))))) (dss_cons (ds_aug (i := 1) sc_length_in.nd opd_iadd (de_op opd_add (de_op opd_add (de_op opd_add (de_op opd_mul (dv 3) (dv 3)) (de_op opd_mul (dv 4) (dv 4))) (de_op opd_mul (dv 5) (dv 5))) (de_op opd_mul (dv 6) (dv 6))))
      (dss_one (ds_aug (i := 2) sc_length_in.nd opd_iadd (de_op opd_sub (de_op opd_add (de_op opd_add (de_op opd_mul (dv 3) (dv 4)) (de_op opd_mul (dv 4) (dv 5))) (de_op opd_mul (dv 5) (dv 6))) (de_op opd_mul (dv 6) (dv 3)))))))
      (dss_one (ds_ret (de_tup (da_cons (dv 1) (da_cons (dv 2) da_nil))))))), fun i cs hp => ?_⟩
  obtain ⟨x, n⟩ := i
  obtain ⟨⟨x1, x2, x3, x4⟩, hl⟩ := hp
  simp only [sp_length_in, Am.t, Am.ds] at *
  walk_at "dlu"
  simp only [Int.zero_add]
  repeat' apply And.intro
  all_goals first | exact Bd.ok (by assumption) (by assumption) hl | rfl
abbrev sp_length_of : FSpec := { ι := SA × Nat, args := fun i => [i.1.1], pre := fun i cs => i.1.ok cs ∧ i.1.2.B i.2 ∧ i.2 + i.2 ≤ 900000, res := fun i cs d cs' => d = .tup [.int i.1.2.l1, .int i.1.2.l2] ∧ cs' = cs }
theorem length_of_i {d1 : D} {x : Am} {n : Nat} {cs : Sto} {Q : PD} {z : Lz (sp_length_of, Q)} (h1 : seqOf cs d1 = some x.ds) (b1 : x.B n) (l : n + n ≤ 900000) (q : Q (.tup [.int x.l1, .int x.l2]) cs) : callP sp_length_of [d1] cs Q z := callP_i ((d1, x), n) rfl ⟨h1, b1, l⟩ fun _ _ ⟨e1, e2⟩ => by subst e1; subst e2; exact q
theorem calm_length_of : Calm sp_length_of := ⟨fun _ _ _ _ h => h⟩
set_option maxHeartbeats 4000000 in
theorem ok_length_of (T : Txt K mg) : FnG P w K mg base CX0 4 T.f_length_of T.d_length_of ["amount"] (dSp K sp_length_of) := by
  refine dfun T.F_length_of sc_length_of (fun _ => rfl) fun cdv A outer s H E hr => ⟨_, (dss_one (ds_ret (de_call calm_length_in (ok_length_in T) (hr.mono (by decide)) T.m_length_in T.F_length_in.kp T.b_length_in (da_cons (de_lst (da_cons (de_call calm_need_amount (ok_need_amount T) (hr.mono (by decide)) T.m_need_amount T.F_need_amount.kp T.b_need_amount (da_cons (dv 0) (da_cons de_str da_nil))) da_nil)) da_nil)))), fun i cs hp => ?_⟩
  obtain ⟨x, n⟩ := i
  simp only [sp_length_of]
  walk_at "dl"
  refine callP_i (x, "amount") rfl hp.1 ?_
  rintro _ _ ⟨rfl, rfl⟩
  walk_at "dl"
  refine callP_i (x.2, n) rfl hp.2 ?_
  rintro _ _ ⟨rfl, rfl⟩
  exact ⟨rfl, rfl⟩
abbrev sp_times : FSpec := { ι := MB, args := fun i => [i.x.t, i.y.t], pre := fun i _ => i.ok, res := fun i cs d cs' => d = (i.x.mul i.y).t ∧ cs' = cs }
theorem calm_times : Calm sp_times := ⟨fun _ _ _ _ h => h⟩
set_option maxHeartbeats 4000000 in
theorem ok_times (T : Txt K mg) : FnG P w K mg base CX0 1 T.f_times T.d_times ["one", "other"] (dSp K sp_times) := by
  refine dfun T.F_times sc_times (fun _ => rfl) fun cdv A outer s H E hr => ⟨_, (dss_cons (ds_pat (dg_tp rfl (dgs_cons (dg_nm 2 sc_times.nd) (dgs_cons (dg_nm 3 sc_times.nd) (dgs_cons (dg_nm 4 sc_times.nd) (dgs_cons (dg_nm 5 sc_times.nd) dgs_nil))))) (dv 0))
      (dss_cons (ds_pat (dg_tp rfl (dgs_cons (dg_nm 6 sc_times.nd) (dgs_cons (dg_nm 7 sc_times.nd) (dgs_cons (dg_nm 8 sc_times.nd) (dgs_cons (dg_nm 9 sc_times.nd) dgs_nil))))) (dv 1))
      (dss_one (ds_ret (de_tup (da_cons (de_op opd_sub (de_op opd_sub (de_op opd_sub (de_op opd_mul (dv 2) (dv 6)) (de_op opd_mul (dv 3) (dv 9))) (de_op opd_mul (dv 4) (dv 8))) (de_op opd_mul (dv 5) (dv 7))) (da_cons (de_op opd_sub (de_op opd_sub (de_op opd_add (de_op opd_mul (dv 2) (dv 7)) (de_op opd_mul (dv 3) (dv 6))) (de_op opd_mul (dv 4) (dv 9))) (de_op opd_mul (dv 5) (dv 8))) (da_cons (de_op opd_sub (de_op opd_add (de_op opd_add (de_op opd_mul (dv 2) (dv 8)) (de_op opd_mul (dv 3) (dv 7))) (de_op opd_mul (dv 4) (dv 6))) (de_op opd_mul (dv 5) (dv 9))) (da_cons (de_op opd_add (de_op opd_add (de_op opd_add (de_op opd_mul (dv 2) (dv 9)) (de_op opd_mul (dv 3) (dv 8))) (de_op opd_mul (dv 4) (dv 7))) (de_op opd_mul (dv 5) (dv 6))) da_nil))))))))), fun i cs hp => ?_⟩
  obtain ⟨x, y, n, m⟩ := i
  obtain ⟨hx, hy, hl⟩ := hp
  obtain ⟨x1, x2, x3, x4⟩ := hx
  obtain ⟨y1, y2, y3, y4⟩ := hy
  simp only [sp_times, Am.t, Am.ds] at *
  walk_at "dl"
  repeat' apply And.intro
  all_goals first | exact Bd.ok (by assumption) (by assumption) hl | rfl
structure MS where
  x : SA
  y : SA
  n : Nat
  m : Nat
def MS.mb (i : MS) : MB := ⟨i.x.2, i.y.2, i.n, i.m⟩
abbrev sp_multiplied : FSpec := { ι := MS, args := fun i => [i.x.1, i.y.1], pre := fun i cs => i.x.ok cs ∧ i.y.ok cs ∧ i.mb.ok, res := fun i cs d cs' => d = (i.x.2.mul i.y.2).t ∧ cs' = cs }
theorem multiplied_i {d1 d2 : D} {x y : Am} {n m : Nat} {cs : Sto} {Q : PD} {z : Lz (sp_multiplied, Q)} (h1 : seqOf cs d1 = some x.ds) (h2 : seqOf cs d2 = some y.ds) (b1 : x.B n) (b2 : y.B m) (l : n + m ≤ 900000) (q : Q (x.mul y).t cs) : callP sp_multiplied [d1, d2] cs Q z := callP_i ⟨(d1, x), (d2, y), n, m⟩ rfl ⟨h1, h2, b1, b2, l⟩ fun _ _ ⟨e1, e2⟩ => by subst e1; subst e2; exact q
theorem calm_multiplied : Calm sp_multiplied := ⟨fun _ _ _ _ h => h⟩
set_option maxHeartbeats 4000000 in
theorem ok_multiplied (T : Txt K mg) : FnG P w K mg base CX0 4 T.f_multiplied T.d_multiplied ["one", "other"] (dSp K sp_multiplied) := by
  refine dfun T.F_multiplied sc_multiplied (fun _ => rfl) fun cdv A outer s H E hr => ⟨_, (dss_one (ds_ret (de_call calm_times (ok_times T) (hr.mono (by decide)) T.m_times T.F_times.kp T.b_times (da_cons (de_call calm_need_amount (ok_need_amount T) (hr.mono (by decide)) T.m_need_amount T.F_need_amount.kp T.b_need_amount (da_cons (dv 0) (da_cons de_str da_nil))) (da_cons (de_call calm_need_amount (ok_need_amount T) (hr.mono (by decide)) T.m_need_amount T.F_need_amount.kp T.b_need_amount (da_cons (dv 1) (da_cons de_str da_nil))) da_nil))))), fun i cs hp => ?_⟩
  obtain ⟨x, y, n, m⟩ := i
  simp only [sp_multiplied]
  walk_at "dl"
  refine callP_i (x, "one") rfl hp.1 ?_
  rintro _ _ ⟨rfl, rfl⟩
  walk_at "dl"
  refine callP_i (y, "other") rfl hp.2.1 ?_
  rintro _ _ ⟨rfl, rfl⟩
  walk_at "dl"
  refine callP_i ⟨x.2, y.2, n, m⟩ rfl hp.2.2 ?_
  rintro _ _ ⟨rfl, rfl⟩
  exact ⟨rfl, rfl⟩
abbrev sp_mirror : FSpec := { ι := Am, args := fun i => [i.t], pre := fun _ _ => True, res := fun i cs d cs' => d = i.mir.t ∧ cs' = cs }
theorem calm_mirror : Calm sp_mirror := ⟨fun _ _ _ _ h => h⟩
set_option maxHeartbeats 4000000 in
theorem ok_mirror (T : Txt K mg) : FnG P w K mg base CX0 1 T.f_mirror T.d_mirror ["amount"] (dSp K sp_mirror) := by
  refine dfun T.F_mirror sc_mirror (fun _ => rfl) fun cdv A outer s H E hr => ⟨_, (dss_cons (ds_pat (dg_tp rfl (dgs_cons (dg_nm 1 sc_mirror.nd) (dgs_cons (dg_nm 2 sc_mirror.nd) (dgs_cons (dg_nm 3 sc_mirror.nd) (dgs_cons (dg_nm 4 sc_mirror.nd) dgs_nil))))) (dv 0))
      (dss_one (ds_ret (de_tup (da_cons (dv 1) (da_cons (de_un und_neg (dv 4)) (da_cons (de_un und_neg (dv 3)) (da_cons (de_un und_neg (dv 2)) da_nil)))))))), fun i cs hp => ?_⟩
  simp only [sp_mirror, Am.t, Am.ds]
  walk_at "dl"
  rfl
abbrev sp_mirrored : FSpec := { ι := SA, args := fun i => [i.1], pre := fun i cs => i.ok cs, res := fun i cs d cs' => d = i.2.mir.t ∧ cs' = cs }
theorem mirrored_i {d1 : D} {x : Am} {cs : Sto} {Q : PD} {z : Lz (sp_mirrored, Q)} (h1 : seqOf cs d1 = some x.ds) (q : Q x.mir.t cs) : callP sp_mirrored [d1] cs Q z := callP_i (d1, x) rfl h1 fun _ _ ⟨e1, e2⟩ => by subst e1; subst e2; exact q
theorem calm_mirrored : Calm sp_mirrored := ⟨fun _ _ _ _ h => h⟩
set_option maxHeartbeats 4000000 in
theorem ok_mirrored (T : Txt K mg) : FnG P w K mg base CX0 4 T.f_mirrored T.d_mirrored ["amount"] (dSp K sp_mirrored) := by
  refine dfun T.F_mirrored sc_mirrored (fun _ => rfl) fun cdv A outer s H E hr => ⟨_, (dss_one (ds_ret (de_call calm_mirror (ok_mirror T) (hr.mono (by decide)) T.m_mirror T.F_mirror.kp T.b_mirror (da_cons (de_call calm_need_amount (ok_need_amount T) (hr.mono (by decide)) T.m_need_amount T.F_need_amount.kp T.b_need_amount (da_cons (dv 0) (da_cons de_str da_nil))) da_nil)))), fun i cs hp => ?_⟩
  simp only [sp_mirrored]
  walk_at "dl"
  refine callP_i (i, "amount") rfl hp ?_
  rintro _ _ ⟨rfl, rfl⟩
  walk_at "dl"
  refine callP_i i.2 rfl trivial ?_
  rintro _ _ ⟨rfl, rfl⟩
  exact ⟨rfl, rfl⟩
abbrev sp__law_turned : FSpec := { ι := Am × Int, args := fun i => [i.1.t, .int i.2], pre := fun i _ => 0 ≤ i.2 ∧ i.2 < 1000, res := fun i cs d cs' => d = (Am.tn (i.2 % 8).toNat i.1).t ∧ cs' = cs }
theorem lturned_i {x : Am} {n : Int} {cs : Sto} {Q : PD} {z : Lz (sp__law_turned, Q)} (b0 : 0 ≤ n) (b1 : n < 1000) (q : Q (Am.tn (n % 8).toNat x).t cs) : callP sp__law_turned [x.t, .int n] cs Q z := callP_i (x, n) rfl ⟨b0, b1⟩ fun _ _ ⟨e1, e2⟩ => by subst e1; subst e2; exact q
theorem calm__law_turned : Calm sp__law_turned := ⟨fun _ _ _ _ h => h⟩
set_option maxHeartbeats 4000000 in
theorem ok__law_turned (T : Txt K mg) : FnG P w K mg base CX0 1 T.f__law_turned T.d__law_turned ["_law_amount_here", "_law_turn"] (dSp K sp__law_turned) := by
  refine dfun T.F__law_turned sc__law_turned (fun _ => rfl) fun cdv A outer s H E hr => ⟨_, (dss_cons (ds_set (i := 2) sc__law_turned.nd (de_callT cd_tup T.z_tuple (by decide +kernel) (da_cons (dv 0) da_nil)))
      (dss_cons (ds_for PassesOwn.never rfl (di_range1 T.z_range (da_cons (de_op opd_mod (de_callT cd_int T.z_int (by decide +kernel) (da_cons (dv 1) da_nil)) de_int) da_nil)) (dg_nm 3 sc__law_turned.nd) (dss_one (ds_set (i := 2) sc__law_turned.nd (de_tup (da_cons (de_un und_neg (de_ix (dv 2) de_int)) (da_cons (de_ix (dv 2) de_int) (da_cons (de_ix (dv 2) de_int) (da_cons (de_ix (dv 2) de_int) da_nil))))))))
      (dss_one (ds_ret (dv 2))))), fun i cs hp => ?_⟩
  obtain ⟨x, n⟩ := i
  obtain ⟨h0, h1⟩ : 0 ≤ n ∧ n < 1000 := hp
  have s : seqOf cs x.t = some x.ds := rfl
  walk_at "dl"
  refine ⟨by omega, forP_i (for_inv (fun k env cs' => (∃ o, env = [some x.t, some (.int n), some (Am.tn k x).t, o]) ∧ cs' = cs) _ _ _ ⟨⟨_, rfl⟩, rfl⟩ (fun _ _ _ _ => trivial) ?_ ?_)⟩
  · rintro k d _ _ hd ⟨⟨o, rfl⟩, rfl⟩
    refine ⟨_, rfl, fun E' hn _ _ _ => ?_⟩
    simp only [Am.t, Am.ds]
    walk_at "dl"
    exact hn _ _ ⟨⟨_, rfl⟩, rfl⟩
  · rintro _ _ ⟨⟨o, rfl⟩, rfl⟩
    walk_at "dl"
    rw [rngD_len]
structure LL where
  i : Nat
  n : Nat
  x : Am
  y : Am
abbrev sp__law_lengths_right : FSpec := { ι := LL, args := fun l => [.cell l.i, l.x.t, l.y.t, (l.x.mul l.y).t], pre := fun l cs => SvN l.i l.n cs ∧ l.n ≤ 90000 ∧ l.x.B 48 ∧ l.y.B 48, res := fun l cs d cs' => d = .bl true ∧ Mv l.i (l.n + 2) cs cs' }
theorem lengths_i {j n : Nat} {x y : Am} {cs : Sto} {Q : PD} {z : Lz (sp__law_lengths_right, Q)} (h : SvN j n cs) (l : n ≤ 90000) (b1 : x.B 48) (b2 : y.B 48) (q : ∀ cs', Mv j (n + 2) cs cs' → Q (.bl true) cs') : callP sp__law_lengths_right [.cell j, x.t, y.t, (x.mul y).t] cs Q z := callP_i ⟨j, n, x, y⟩ rfl ⟨h, l, b1, b2⟩ fun d cs' ⟨e, mv⟩ => by subst e; exact q cs' mv
theorem calm__law_lengths_right : Calm sp__law_lengths_right := ⟨fun _ _ _ _ h => h⟩
set_option maxHeartbeats 4000000 in
theorem ok__law_lengths_right (T : Txt K mg) : FnG P w K mg base CX0 6 T.f__law_lengths_right T.d__law_lengths_right ["_law_crock_here", "_law_one_here", "_law_other", "_law_due"] (dSp K sp__law_lengths_right) := by
  refine dfun T.F__law_lengths_right sc__law_lengths_right (fun _ => rfl) fun cdv A outer s H E hr => ⟨_, (dss_cons (ds_pat (dg_tp rfl (dgs_cons (dg_tp rfl (dgs_cons (dg_nm 7 sc__law_lengths_right.nd) (dgs_cons (dg_nm 8 sc__law_lengths_right.nd) dgs_nil))) (dgs_cons (dg_tp rfl (dgs_cons (dg_nm 9 sc__law_lengths_right.nd) (dgs_cons (dg_nm 10 sc__law_lengths_right.nd) dgs_nil))) dgs_nil))) (de_tup (da_cons (de_call calm__law_length (ok__law_length T) (hr.mono (by decide)) T.m__law_length T.F__law_length.kp T.b__law_length (da_cons (de_lst (da_cons (dv 1) da_nil)) da_nil)) (da_cons (de_call calm__law_length (ok__law_length T) (hr.mono (by decide)) T.m__law_length T.F__law_length.kp T.b__law_length (da_cons (de_lst (da_cons (dv 2) da_nil)) da_nil)) da_nil))))
      (dss_cons (ds_if (dt_of (dw_or (dt_cmp (opd_ne hr.r.units) (de_callB (cd_repr hr.gd hr.r.units) T.z_repr (by decide +kernel) (da_cons (de_call calm_length_of (ok_length_of T) (hr.mono (by decide)) T.m_length_of T.F_length_of.kp T.b_length_of (da_cons (dv 1) da_nil)) da_nil)) (de_callB (cd_repr hr.gd hr.r.units) T.z_repr (by decide +kernel) (da_cons (de_tup (da_cons (dv 7) (da_cons (dv 8) da_nil))) da_nil))) (dw_or1 (dt_cmp (opd_ne hr.r.units) (de_callK0 calm_length_of (ok_length_of T) (hr.mono (by decide)) T.m_length_of T.F_length_of.kp (kw_length_of_0_amount T) (dk_cons (de_callT cd_list T.z_list (by decide +kernel) (da_cons (dv 2) da_nil)) dk_nil)) (de_tup (da_cons (dv 9) (da_cons (dv 10) da_nil))))))) (dss_one (ds_ret de_bl)) dss_nil)
      (dss_cons (ds_if (dt_of (dw_or (dt_cmp (opd_ne hr.r.units) (de_call calm_length_of (ok_length_of T) (hr.mono (by decide)) T.m_length_of T.F_length_of.kp T.b_length_of (da_cons (dv 3) da_nil)) (de_tup (da_cons (de_op opd_add (de_op opd_mul (dv 7) (dv 9)) (de_op opd_mul (de_op opd_mul de_int (dv 8)) (dv 10))) (da_cons (de_op opd_add (de_op opd_mul (dv 7) (dv 10)) (de_op opd_mul (dv 8) (dv 9))) da_nil)))) (dw_or1 (dt_cmp (opd_ne hr.r.units) (de_call calm_multiplied (ok_multiplied T) (hr.mono (by decide)) T.m_multiplied T.F_multiplied.kp T.b_multiplied (da_cons (dv 1) (da_cons (de_call calm_mirrored (ok_mirrored T) (hr.mono (by decide)) T.m_mirrored T.F_mirrored.kp T.b_mirrored (da_cons (dv 1) da_nil)) da_nil))) (de_tup (da_cons (dv 7) (da_cons (dv 8) (da_cons de_int (da_cons (de_un und_neg (dv 8)) da_nil))))))))) (dss_one (ds_ret de_bl)) dss_nil)
      (dss_cons (ds_if (dt_of (dw_or (dt_cmp (opd_ne hr.r.units) (de_callB (cd_repr hr.gd hr.r.units) T.z_repr (by decide +kernel) (da_cons (de_callK0 calm_mirrored (ok_mirrored T) (hr.mono (by decide)) T.m_mirrored T.F_mirrored.kp (kw_mirrored_0_amount T) (dk_cons (de_callT cd_list T.z_list (by decide +kernel) (da_cons (dv 1) da_nil)) dk_nil)) da_nil)) (de_callB (cd_repr hr.gd hr.r.units) T.z_repr (by decide +kernel) (da_cons (de_tup (da_cons (de_ix (dv 1) de_int) (da_cons (de_un und_neg (de_ix (dv 1) de_int)) (da_cons (de_un und_neg (de_ix (dv 1) de_int)) (da_cons (de_un und_neg (de_ix (dv 1) de_int)) da_nil))))) da_nil))) (dw_or1 (dt_cmp (opd_ne hr.r.units) (de_call calm_mirrored (ok_mirrored T) (hr.mono (by decide)) T.m_mirrored T.F_mirrored.kp T.b_mirrored (da_cons (de_call calm_mirrored (ok_mirrored T) (hr.mono (by decide)) T.m_mirrored T.F_mirrored.kp T.b_mirrored (da_cons (dv 1) da_nil)) da_nil)) (dv 1))))) (dss_one (ds_ret de_bl)) dss_nil)
      (dss_cons (ds_for PassesOwn.never rfl (di_range1 T.z_range (da_cons de_int da_nil)) (dg_nm 4 sc__law_lengths_right.nd) (dss_cons (ds_set (i := 5) sc__law_lengths_right.nd (de_call calm_turned (ok_turned T) (hr.mono (by decide)) T.m_turned T.F_turned.kp T.b_turned (da_cons (dv 1) (da_cons (dv 4) da_nil))))
      (dss_one (ds_if (dt_of (dw_or (dt_cmp (opd_ne hr.r.units) (de_callB (cd_repr hr.gd hr.r.units) T.z_repr (by decide +kernel) (da_cons (dv 5) da_nil)) (de_callB (cd_repr hr.gd hr.r.units) T.z_repr (by decide +kernel) (da_cons (de_call calm__law_turned (ok__law_turned T) (hr.mono (by decide)) T.m__law_turned T.F__law_turned.kp T.b__law_turned (da_cons (dv 1) (da_cons (dv 4) da_nil))) da_nil))) (dw_or (dt_cmp (opd_ne hr.r.units) (de_call calm_length_of (ok_length_of T) (hr.mono (by decide)) T.m_length_of T.F_length_of.kp T.b_length_of (da_cons (dv 5) da_nil)) (de_tup (da_cons (dv 7) (da_cons (dv 8) da_nil)))) (dw_or1 (dt_cmp (opd_ne hr.r.units) (de_callK0 calm_turned (ok_turned T) (hr.mono (by decide)) T.m_turned T.F_turned.kp (kw_turned_0_turn_amount T) (dk_cons (dv 4) (dk_cons (de_callT cd_list T.z_list (by decide +kernel) (da_cons (dv 1) da_nil)) dk_nil))) (dv 5)))))) (dss_one (ds_ret de_bl)) dss_nil))))
      (dss_cons (ds_par (i := 4) (j := 6) rfl sc__law_lengths_right.nd (da_cons (de_call calm__law_ladle (ok__law_ladle T) (hr.mono (by decide)) T.m__law_ladle T.F__law_ladle.kp T.b__law_ladle (da_cons (dv 0) (da_cons de_int da_nil))) (da_cons (de_call calm__law_ladle (ok__law_ladle T) (hr.mono (by decide)) T.m__law_ladle T.F__law_ladle.kp T.b__law_ladle (da_cons (dv 0) (da_cons de_int da_nil))) da_nil)))
      (dss_one (ds_ret (de_and (de_cmp (opd_eq hr.r.units) (de_call calm_turned (ok_turned T) (hr.mono (by decide)) T.m_turned T.F_turned.kp T.b_turned (da_cons (de_call calm_turned (ok_turned T) (hr.mono (by decide)) T.m_turned T.F_turned.kp T.b_turned (da_cons (dv 1) (da_cons (dv 4) da_nil))) (da_cons (dv 6) da_nil))) (de_call calm__law_turned (ok__law_turned T) (hr.mono (by decide)) T.m__law_turned T.F__law_turned.kp T.b__law_turned (da_cons (dv 1) (da_cons (de_op opd_add (dv 4) (dv 6)) da_nil)))) (de_one (de_cmp (opd_eq hr.r.units) (de_cmp (opd_eq hr.r.units) (de_tup (da_cons (dv 7) (da_cons (dv 8) da_nil))) (de_tup (da_cons de_int (da_cons de_int da_nil)))) (de_cmp (opd_eq hr.r.units) (dv 1) (de_tup (da_cons de_int (da_cons de_int (da_cons de_int (da_cons de_int da_nil))))))))))))))))), fun i cs hp => ?_⟩
  obtain ⟨j, n, x, y⟩ := i
  obtain ⟨h1, h2, hx, hy⟩ : SvN j n cs ∧ n ≤ 90000 ∧ x.B 48 ∧ y.B 48 := hp
  have rl := repr2 hx.l1 hx.l2
  have rm := reprA hx.mir
  have hm := hx.mul hy
  have L1 := hx.l1
  have L2 := hx.l2
  have M1 := hy.l1
  have M2 := hy.l2
  have c1 := eq_true (L1.ok M1 (by decide))
  have c2 := eq_true (L1.ok M2 (by decide))
  have c3 := eq_true (L2.ok M1 (by decide))
  have c4 := eq_true (((show Bd 2 2 by unfold Bd; decide).mul L2).ok M2 (by decide))
  walk_at "dl"
  refine llength_i hx (by decide) ?_
  walk_at "dl"
  refine llength_i hy (by decide) ?_
  walk_at "dl"
  refine length_of_i rfl hx (by decide) ?_
  walk_at "dl"
  simp only [rl]
  walk_at "dl"
  simp only [rl]
  walk_at "dl"
  refine length_of_i rfl hy (by decide) ?_
  walk_at "dl"
  refine length_of_i rfl hm (by decide) ?_
  walk_at "dl"
  simp only [c1, c2, c3, c4, Am.l1_mul, Am.l2_mul]
  walk_at "dl"
  refine mirrored_i rfl ?_
  walk_at "dl"
  refine multiplied_i rfl rfl hx hx.mir (by decide) ?_
  walk_at "dl"
  simp only [Am.mul_mir]
  walk_at "dl"
  refine mirrored_i rfl ?_
  walk_at "dl"
  simp only [rm]
  walk_at "dl"
  have em : D.tup [.int x.a, .int (-x.d), .int (-x.c), .int (-x.b)] = x.mir.t := rfl
  simp only [em, rm]
  walk_at "dl"
  refine mirrored_i rfl ?_
  walk_at "dl"
  refine mirrored_i rfl ?_
  simp only [Am.mir_mir]
  walk_at "dl"
  refine forP_i (for_inv (fun k env cs' => (∃ o1 o2, env = [some (.cell j), some x.t, some y.t, some (x.mul y).t, o1, o2, none, some (.int x.l1), some (.int x.l2), some (.int y.l1), some (.int y.l2)]) ∧ cs' = cs) _ _ _ ⟨⟨_, _, rfl⟩, rfl⟩ (fun _ _ _ _ => trivial) ?_ ?_)
  · rintro k d _ _ hd ⟨⟨o1, o2, rfl⟩, rfl⟩
    obtain ⟨hk, rfl⟩ := rngD_get hd
    have hk' : k < 8 := hk
    have k0 : (0 : Int) ≤ 0 + (k : Int) := by omega
    have k1 : (0 : Int) + (k : Int) < 8 := by omega
    have k2 : ((0 : Int) + (k : Int)) % 8 = 0 + (k : Int) := Int.emod_eq_of_lt k0 k1
    have rt := reprA (hx.tn ((0 : Int) + (k : Int)).toNat)
    refine ⟨_, rfl, fun E' hn _ _ _ => ?_⟩
    walk_at "dl"
    refine turned_i rfl k0 k1 ?_
    walk_at "dl"
    simp only [rt]
    walk_at "dl"
    refine lturned_i k0 (by omega) ?_
    simp only [k2]
    walk_at "dl"
    simp only [rt]
    walk_at "dl"
    refine length_of_i rfl (hx.tn _) (by decide) ?_
    simp only [Am.l1_tn, Am.l2_tn]
    walk_at "dl"
    refine turned_i rfl k0 k1 ?_
    walk_at "dl"
    exact hn _ _ ⟨⟨_, _, rfl⟩, rfl⟩
  · rintro _ _ ⟨⟨o1, o2, rfl⟩, rfl⟩
    walk_at "dl"
    refine ladle_i (n := n) h1 (by decide) (by decide) (by omega) fun t cs1 t0 t1 mv1 => ?_
    walk_at "dl"
    refine ladle_i (n := n + 1) mv1.sv (by decide) (by decide) (by omega) fun u cs2 u0 u1 mv2 => ?_
    have mv := mv1.trans mv2
    walk_at "dl"
    refine turned_i rfl t0 t1 ?_
    walk_at "dl"
    refine turned_i rfl u0 u1 ?_
    walk_at "dl"
    refine lturned_i (by omega) (by omega) ?_
    have e : Am.tn u.toNat (Am.tn t.toNat x) = Am.tn ((t + u) % 8).toNat x := by
      rw [Am.tn_tn, ← Am.tn_mod _ _ (by omega)]
      congr 1
      omega
    simp only [e]
    walk_at "dl"
    have z : decide (x.l1 = 0 ∧ x.l2 = 0) = decide (x = ⟨0, 0, 0, 0⟩) := by
      rw [Bool.eq_iff_iff, decide_eq_true_iff, decide_eq_true_iff]
      exact x.zero
    simp only [z]
    exact ⟨by rw [beq_self_eq_true], mv⟩
structure LO where
  i : Nat
  ds : List D
  n : Nat
abbrev sp__law_one : FSpec := { ι := LO, args := fun l => [.cell l.i, .lst l.ds], pre := fun l cs => SvN l.i l.n cs ∧ 0 < l.ds.length ∧ l.ds.length < 1000000 ∧ l.n ≤ 100000, res := fun l cs d cs' => d ∈ l.ds ∧ Mv l.i (l.n + 1) cs cs' }
theorem one_i {j n : Nat} {ds : List D} {cs : Sto} {Q : PD} {z : Lz (sp__law_one, Q)} (h1 : SvN j n cs) (h2 : 0 < ds.length) (h3 : ds.length < 1000000) (h4 : n ≤ 100000) (q : ∀ d cs', d ∈ ds → Mv j (n + 1) cs cs' → Q d cs') : callP sp__law_one [.cell j, .lst ds] cs Q z :=
  callP_i ⟨j, ds, n⟩ rfl ⟨h1, h2, h3, h4⟩ fun d cs' ⟨hd, mv⟩ => q d cs' hd mv
theorem calm__law_one : Calm sp__law_one := ⟨fun _ _ _ _ h => h⟩
set_option maxHeartbeats 4000000 in
theorem ok__law_one (T : Txt K mg) : FnG P w K mg base CX0 2 T.f__law_one T.d__law_one ["_law_crock_here", "_law_some"] (dSp K sp__law_one) := by
  refine dfun T.F__law_one sc__law_one (fun _ => rfl) fun cdv A outer s H E hr => ⟨_, (dss_one (ds_ret (de_ix (dv 1) (de_call calm__law_ladle (ok__law_ladle T) (hr.mono (by decide)) T.m__law_ladle T.F__law_ladle.kp T.b__law_ladle (da_cons (dv 0) (da_cons (de_callB cd_len T.z_len (by decide +kernel) (da_cons (dv 1) da_nil)) da_nil)))))), fun i cs hp => ?_⟩
  obtain ⟨j, ds, n⟩ := i
  obtain ⟨h1, h2, h3, h4⟩ := hp
  have h2' : 0 < ds.length := h2
  have h3' : ds.length < 1000000 := h3
  walk_at "dl"
  refine callP_i ⟨j, ds.length, n⟩ rfl ⟨h1, by show (0 : Int) < ds.length; omega, by show (ds.length : Int) < 2 ^ 64; omega, h4⟩ ?_
  rintro _ cs' ⟨r, rfl, r0, r1, mv⟩
  obtain ⟨m, rfl⟩ := Int.eq_ofNat_of_zero_le r0
  have hm : m < ds.length := by
    have r1' : (m : Int) < ds.length := r1
    omega
  walk_at "dl"
  simp only [DL.atI_nat, List.getElem?_eq_getElem hm]
  walk_at "dl"
  exact ⟨List.getElem_mem hm, mv⟩
structure LA where
  i : Nat
  n : Nat
abbrev sp__law_amount : FSpec := { ι := LA, args := fun l => [.cell l.i], pre := fun l cs => SvN l.i l.n cs ∧ l.n ≤ 90000, res := fun l cs d cs' => ∃ x : Am, d = x.t ∧ x.B 48 ∧ Mv l.i (l.n + 7) cs cs' }
theorem lamount_i {j n : Nat} {cs : Sto} {Q : PD} {z : Lz (sp__law_amount, Q)} (h : SvN j n cs) (l : n ≤ 90000) (q : ∀ (x : Am) (cs' : Sto), x.B 48 → Mv j (n + 7) cs cs' → Q x.t cs') : callP sp__law_amount [.cell j] cs Q z := callP_i ⟨j, n⟩ rfl ⟨h, l⟩ fun d cs' ⟨x, e, b, mv⟩ => by subst e; exact q x cs' b mv
theorem calm__law_amount : Calm sp__law_amount := ⟨fun _ _ _ _ h => h⟩
set_option maxHeartbeats 4000000 in
theorem ok__law_amount (T : Txt K mg) : FnG P w K mg base CX0 3 T.f__law_amount T.d__law_amount ["_law_crock_here"] (dSp K sp__law_amount) := by
  refine dfun T.F__law_amount sc__law_amount (fun _ => rfl) fun cdv A outer s H E hr => ⟨_, (dss_cons (ds_pat (dg_tp rfl (dgs_cons (dg_nm 2 sc__law_amount.nd) (dgs_cons (dg_nm 3 sc__law_amount.nd) dgs_nil))) (de_tup (da_cons (de_call calm__law_ladle (ok__law_ladle T) (hr.mono (by decide)) T.m__law_ladle T.F__law_ladle.kp T.b__law_ladle (da_cons (dv 0) (da_cons de_int da_nil))) (da_cons (de_call calm__law_one (ok__law_one T) (hr.mono (by decide)) T.m__law_one T.F__law_one.kp T.b__law_one (da_cons (dv 0) (da_cons (de_lst (da_cons de_int (da_cons de_int (da_cons (de_op opd_pow de_int de_int) da_nil)))) da_nil))) da_nil))))
      (dss_cons (ds_setLc (i := 1) (own := [("_law_place", 4)]) rfl sc__law_amount.nd (sw_true rfl rfl rfl (by decide +kernel)) (di_range1 T.z_range (da_cons de_int da_nil)) (blkOk_by (own := [("_law_place", 4)]) (N := N__law_amount) (sc := defScope s__law_amount) (by decide +kernel)) (fun _ _ _ _ _ => (dg_nm 4 sc__law_amount.nd)) (fun _ _ _ _ _ => dts_nil) (fun _ _ _ _ _ => (de_op opd_add (de_op opd_sub (de_call calm__law_ladle (ok__law_ladle T) (hr.mono (by decide)) T.m__law_ladle T.F__law_ladle.kp T.b__law_ladle (da_cons (dv 0) (da_cons (de_op opd_mul de_int (dv 3)) da_nil))) (dv 3)) de_int)))
      (dss_cons (ds_if (dt_cmp (opd_eq hr.r.units) (dv 2) de_int) (dss_one (ds_ret (de_tup (da_cons de_int (da_cons de_int (da_cons de_int (da_cons de_int da_nil))))))) dss_nil)
      (dss_cons (ds_if (dt_cmp (opd_eq hr.r.units) (dv 2) de_int) (dss_cons (ds_set (i := 4) sc__law_amount.nd (de_call calm__law_ladle (ok__law_ladle T) (hr.mono (by decide)) T.m__law_ladle T.F__law_ladle.kp T.b__law_ladle (da_cons (dv 0) (da_cons de_int da_nil))))
      (dss_one (ds_ret (de_callT cd_tup T.z_tuple (by decide +kernel) (da_cons (de_lc (own := [("_law_at", 5), ("_law_number", 6)]) rfl sc__law_amount.nd (di_enum T.z_enumerate (da_cons (dv 1) da_nil)) (blkOk_by (own := [("_law_at", 5), ("_law_number", 6)]) (N := N__law_amount) (sc := defScope s__law_amount) (by decide +kernel)) (fun _ _ _ _ _ => (dg_tp rfl (dgs_cons (dg_nm 5 sc__law_amount.nd) (dgs_cons (dg_nm 6 sc__law_amount.nd) dgs_nil)))) (fun _ _ _ _ _ => dts_nil) (fun _ _ _ _ _ => (de_op opd_mul (dv 6) (de_callT cd_int T.z_int (by decide +kernel) (da_cons (de_cmp (opd_eq hr.r.units) (dv 5) (dv 4)) da_nil))))) da_nil))))) dss_nil)
      (dss_one (ds_ret (de_callT cd_tup T.z_tuple (by decide +kernel) (da_cons (dv 1) da_nil)))))))), fun i cs hp => ?_⟩
  obtain ⟨j, n⟩ := i
  obtain ⟨h1, h2⟩ : SvN j n cs ∧ n ≤ 90000 := hp
  walk_at "dlu"
  refine ladle_i (n := n) h1 (by decide) (by decide) (by omega) fun w cs1 w0 w1 mv1 => ?_
  walk_at "dlu"
  refine one_i (n := n + 1) mv1.sv (by decide) (by decide) (by omega) fun d cs2 hd mv2 => ?_
  obtain ⟨t, rfl, t0, t1⟩ : ∃ t : Int, d = .int t ∧ 0 < t ∧ t ≤ 100000000000000 := by
    simp only [List.mem_cons, List.not_mem_nil, or_false] at hd
    rcases hd with rfl | rfl | rfl
    · exact ⟨_, rfl, by decide, by decide⟩
    · exact ⟨_, rfl, by decide, by decide⟩
    · exact ⟨_, rfl, by decide, by decide⟩
  have bd : ∀ r : Int, 0 ≤ r → r < 2 * t → Bd 47 (r - t + 1) := fun r r0 r1 => by
    unfold Bd
    omega
  have t2 : (0 : Int) < 2 * t := by omega
  have t3 : 2 * t < 2 ^ 64 := by omega
  walk_at "dlu"
  refine ladle_i (n := n + 2) mv2.sv (t2) (t3) (by omega) fun a cs3 a0 a1 mv3 => ?_
  walk_at "dlu"
  refine ladle_i (n := n + 3) mv3.sv (t2) (t3) (by omega) fun b cs4 b0 b1 mv4 => ?_
  walk_at "dlu"
  refine ladle_i (n := n + 4) mv4.sv (t2) (t3) (by omega) fun c cs5 c0 c1 mv5 => ?_
  walk_at "dlu"
  refine ladle_i (n := n + 5) mv5.sv (t2) (t3) (by omega) fun e cs6 e0 e1 mv6 => ?_
  have mv : Mv j (n + 6) cs cs6 := ((((mv1.trans mv2).trans mv3).trans mv4).trans mv5).trans mv6
  have A := bd a a0 a1
  have B := bd b b0 b1
  have C := bd c c0 c1
  have F := bd e e0 e1
  walk_at "dlu"
  generalize a - t + 1 = a at *
  generalize b - t + 1 = b at *
  generalize c - t + 1 = c at *
  generalize e - t + 1 = e at *
  have z : Bd 48 0 := by unfold Bd; decide
  refine cond2_d (fun hw => ?_) (fun hw => ?_)
  · walk_at "dlu"
    exact ⟨⟨0, 0, 0, 0⟩, rfl, ⟨z, z, z, z⟩, mv.mono (by omega)⟩
  walk_at "dlu"
  refine cond2_d (fun hw2 => ?_) (fun hw2 => ?_)
  · walk_at "dlu"
    refine ladle_i (n := n + 6) mv.sv (by decide) (by decide) (by omega) fun p cs7 p0 p1 mv7 => ?_
    have mw := mv.trans mv7
    have hp : p = 0 ∨ p = 1 ∨ p = 2 ∨ p = 3 := by omega
    rcases hp with rfl | rfl | rfl | rfl
    all_goals walk_at "dlu"
    all_goals simp only [Int.mul_zero, Int.mul_one]
    · exact ⟨⟨a, 0, 0, 0⟩, rfl, ⟨A.mono (by decide), z, z, z⟩, mw⟩
    · exact ⟨⟨0, b, 0, 0⟩, rfl, ⟨z, B.mono (by decide), z, z⟩, mw⟩
    · exact ⟨⟨0, 0, c, 0⟩, rfl, ⟨z, z, C.mono (by decide), z⟩, mw⟩
    · exact ⟨⟨0, 0, 0, e⟩, rfl, ⟨z, z, z, F.mono (by decide)⟩, mw⟩
  walk_at "dlu"
  exact ⟨⟨a, b, c, e⟩, rfl, ⟨A.mono (by decide), B.mono (by decide), C.mono (by decide), F.mono (by decide)⟩, mv.mono (by omega)⟩
abbrev sp__law_plus : FSpec := { ι := Am × Am, args := fun i => [i.1.t, i.2.t], pre := fun _ _ => True, res := fun i cs d cs' => d = (i.1.add i.2).t ∧ cs' = cs }
theorem lplus_i {x y : Am} {cs : Sto} {Q : PD} {z : Lz (sp__law_plus, Q)} (q : Q (x.add y).t cs) : callP sp__law_plus [x.t, y.t] cs Q z := callP_i (x, y) rfl trivial fun _ _ ⟨e1, e2⟩ => by subst e1; subst e2; exact q
theorem calm__law_plus : Calm sp__law_plus := ⟨fun _ _ _ _ h => h⟩
set_option maxHeartbeats 4000000 in
theorem ok__law_plus (T : Txt K mg) : FnG P w K mg base CX0 1 T.f__law_plus T.d__law_plus ["_law_one_here", "_law_other"] (dSp K sp__law_plus) := by
  refine dfun T.F__law_plus sc__law_plus (fun _ => rfl) fun cdv A outer s H E hr => ⟨_, (dss_one (ds_ret (de_callT cd_tup T.z_tuple (by decide +kernel) (da_cons (de_lc (own := [("_law_mine", 2), ("_law_its", 3)]) rfl sc__law_plus.nd (di_zip T.z_zip (da_cons (dv 0) (da_cons (dv 1) da_nil))) (blkOk_by (own := [("_law_mine", 2), ("_law_its", 3)]) (N := N__law_plus) (sc := defScope s__law_plus) (by decide +kernel)) (fun _ _ _ _ _ => (dg_tp rfl (dgs_cons (dg_nm 2 sc__law_plus.nd) (dgs_cons (dg_nm 3 sc__law_plus.nd) dgs_nil)))) (fun _ _ _ _ _ => dts_nil) (fun _ _ _ _ _ => (de_op opd_add (dv 2) (dv 3)))) da_nil)))), fun i cs hp => ?_⟩
  obtain ⟨x, y⟩ := i
  simp only [Am.t, Am.ds]
  walk_at "dlu"
  rfl
abbrev sp__law_right : FSpec := { ι := LA, args := fun l => [.cell l.i], pre := fun l cs => SvN l.i l.n cs ∧ l.n ≤ 80000, res := fun l cs d cs' => d = .bl true ∧ Mv l.i (l.n + 23) cs cs' }
theorem right_i {j n : Nat} {cs : Sto} {Q : PD} {z : Lz (sp__law_right, Q)} (h : SvN j n cs) (l : n ≤ 80000) (q : ∀ cs', Mv j (n + 23) cs cs' → Q (.bl true) cs') : callP sp__law_right [.cell j] cs Q z := callP_i ⟨j, n⟩ rfl ⟨h, l⟩ fun d cs' ⟨e, mv⟩ => by subst e; exact q cs' mv
theorem calm__law_right : Calm sp__law_right := ⟨fun _ _ _ _ h => h⟩
set_option maxHeartbeats 4000000 in
theorem ok__law_right (T : Txt K mg) : FnG P w K mg base CX0 7 T.f__law_right T.d__law_right ["_law_crock_here"] (dSp K sp__law_right) := by
  refine dfun T.F__law_right sc__law_right (fun _ => rfl) fun cdv A outer s H E hr => ⟨_, (dss_cons (ds_par3 (i := 2) (j := 3) (k := 4) rfl sc__law_right.nd (da_cons (de_call calm__law_amount (ok__law_amount T) (hr.mono (by decide)) T.m__law_amount T.F__law_amount.kp T.b__law_amount (da_cons (dv 0) da_nil)) (da_cons (de_call calm__law_amount (ok__law_amount T) (hr.mono (by decide)) T.m__law_amount T.F__law_amount.kp T.b__law_amount (da_cons (dv 0) da_nil)) (da_cons (de_call calm__law_amount (ok__law_amount T) (hr.mono (by decide)) T.m__law_amount T.F__law_amount.kp T.b__law_amount (da_cons (dv 0) da_nil)) da_nil))))
      (dss_cons (ds_if (dt_of (dw_or (dt_cmp (opd_ne hr.r.units) (de_callB (cd_repr hr.gd hr.r.units) T.z_repr (by decide +kernel) (da_cons (de_call calm_added (ok_added T) (hr.mono (by decide)) T.m_added T.F_added.kp T.b_added (da_cons (de_callT cd_list T.z_list (by decide +kernel) (da_cons (dv 2) da_nil)) (da_cons (dv 3) da_nil))) da_nil)) (de_callB (cd_repr hr.gd hr.r.units) T.z_repr (by decide +kernel) (da_cons (de_call calm__law_plus (ok__law_plus T) (hr.mono (by decide)) T.m__law_plus T.F__law_plus.kp T.b__law_plus (da_cons (dv 2) (da_cons (dv 3) da_nil))) da_nil))) (dw_or1 (dt_cmp (opd_ne hr.r.units) (de_callK0 calm_added (ok_added T) (hr.mono (by decide)) T.m_added T.F_added.kp (kw_added_0_other_one T) (dk_cons (dv 2) (dk_cons (dv 3) dk_nil))) (de_call calm__law_plus (ok__law_plus T) (hr.mono (by decide)) T.m__law_plus T.F__law_plus.kp T.b__law_plus (da_cons (dv 2) (da_cons (dv 3) da_nil))))))) (dss_one (ds_ret de_bl)) dss_nil)
      (dss_cons (ds_set (i := 1) sc__law_right.nd (de_call calm__law_times (ok__law_times T) (hr.mono (by decide)) T.m__law_times T.F__law_times.kp T.b__law_times (da_cons (dv 2) (da_cons (dv 3) da_nil))))
      (dss_cons (ds_if (dt_of (dw_or (dt_cmp (opd_ne hr.r.units) (de_callB (cd_repr hr.gd hr.r.units) T.z_repr (by decide +kernel) (da_cons (de_call calm_multiplied (ok_multiplied T) (hr.mono (by decide)) T.m_multiplied T.F_multiplied.kp T.b_multiplied (da_cons (dv 2) (da_cons (de_callT cd_list T.z_list (by decide +kernel) (da_cons (dv 3) da_nil)) da_nil))) da_nil)) (de_callB (cd_repr hr.gd hr.r.units) T.z_repr (by decide +kernel) (da_cons (dv 1) da_nil))) (dw_or1 (dt_cmp (opd_ne hr.r.units) (de_callK0 calm_multiplied (ok_multiplied T) (hr.mono (by decide)) T.m_multiplied T.F_multiplied.kp (kw_multiplied_0_other_one T) (dk_cons (dv 2) (dk_cons (dv 3) dk_nil))) (dv 1))))) (dss_one (ds_ret de_bl)) dss_nil)
      (dss_cons (ds_if (dt_cmp (opd_ne hr.r.units) (de_call calm_multiplied (ok_multiplied T) (hr.mono (by decide)) T.m_multiplied T.F_multiplied.kp T.b_multiplied (da_cons (de_call calm_multiplied (ok_multiplied T) (hr.mono (by decide)) T.m_multiplied T.F_multiplied.kp T.b_multiplied (da_cons (dv 2) (da_cons (dv 3) da_nil))) (da_cons (dv 4) da_nil))) (de_call calm__law_times (ok__law_times T) (hr.mono (by decide)) T.m__law_times T.F__law_times.kp T.b__law_times (da_cons (dv 2) (da_cons (de_call calm__law_times (ok__law_times T) (hr.mono (by decide)) T.m__law_times T.F__law_times.kp T.b__law_times (da_cons (dv 3) (da_cons (dv 4) da_nil))) da_nil)))) (dss_one (ds_ret de_bl)) dss_nil)
      (dss_cons (ds_if (dt_cmp (opd_ne hr.r.units) (de_call calm_multiplied (ok_multiplied T) (hr.mono (by decide)) T.m_multiplied T.F_multiplied.kp T.b_multiplied (da_cons (dv 2) (da_cons (de_call calm_added (ok_added T) (hr.mono (by decide)) T.m_added T.F_added.kp T.b_added (da_cons (dv 3) (da_cons (dv 4) da_nil))) da_nil))) (de_call calm__law_plus (ok__law_plus T) (hr.mono (by decide)) T.m__law_plus T.F__law_plus.kp T.b__law_plus (da_cons (dv 1) (da_cons (de_call calm__law_times (ok__law_times T) (hr.mono (by decide)) T.m__law_times T.F__law_times.kp T.b__law_times (da_cons (dv 2) (da_cons (dv 4) da_nil))) da_nil)))) (dss_one (ds_ret de_bl)) dss_nil)
      (dss_one (ds_ret (de_call calm__law_lengths_right (ok__law_lengths_right T) (hr.mono (by decide)) T.m__law_lengths_right T.F__law_lengths_right.kp T.b__law_lengths_right (da_cons (dv 0) (da_cons (dv 2) (da_cons (dv 3) (da_cons (dv 1) da_nil))))))))))))), fun i cs hp => ?_⟩
  obtain ⟨j, n⟩ := i
  obtain ⟨h1, h2⟩ : SvN j n cs ∧ n ≤ 80000 := hp
  walk_at "dl"
  refine lamount_i h1 (by omega) fun x cs1 hx mv1 => ?_
  walk_at "dl"
  refine lamount_i mv1.sv (by omega) fun y cs2 hy mv2 => ?_
  walk_at "dl"
  refine lamount_i mv2.sv (by omega) fun w cs3 hw mv3 => ?_
  have mv := (mv1.trans mv2).trans mv3
  have ra := reprA (hx.add hy)
  have rm := reprA (hx.mul hy)
  walk_at "dl"
  refine added_i rfl rfl ?_
  walk_at "dl"
  simp only [ra]
  walk_at "dl"
  refine lplus_i ?_
  walk_at "dl"
  simp only [ra]
  walk_at "dl"
  refine added_i rfl rfl ?_
  simp only [Am.add_comm x y]
  walk_at "dl"
  refine lplus_i ?_
  walk_at "dl"
  refine ltimes_i hx hy (by decide) ?_
  walk_at "dl"
  refine multiplied_i rfl rfl hx hy (by decide) ?_
  walk_at "dl"
  simp only [rm]
  walk_at "dl"
  simp only [rm]
  walk_at "dl"
  refine multiplied_i rfl rfl hy hx (by decide) ?_
  simp only [Am.mul_comm x y]
  walk_at "dl"
  refine multiplied_i rfl rfl hx hy (by decide) ?_
  walk_at "dl"
  refine multiplied_i rfl rfl (hx.mul hy) hw (by decide) ?_
  walk_at "dl"
  refine ltimes_i hy hw (by decide) ?_
  walk_at "dl"
  refine ltimes_i hx (hy.mul hw) (by decide) ?_
  simp only [Am.mul_assoc]
  walk_at "dl"
  refine added_i rfl rfl ?_
  walk_at "dl"
  refine multiplied_i rfl rfl hx (hy.add hw) (by decide) ?_
  walk_at "dl"
  refine ltimes_i hx hw (by decide) ?_
  walk_at "dl"
  refine lplus_i ?_
  simp only [Am.mul_add]
  walk_at "dl"
  refine lengths_i mv.sv (by omega) hx hy fun cs4 mv4 => ?_
  exact ⟨rfl, mv.trans mv4⟩
abbrev sp_law : FSpec := spLaw 63
theorem calm_law : Calm sp_law := ⟨fun _ _ _ _ h => h⟩
set_option maxHeartbeats 4000000 in
theorem ok_law (T : Txt K mg) : FnG P w K mg base CX0 8 T.f_law T.d_law ["_law_script"] (dSp K sp_law) := by
  refine dfun T.F_law sc_law (fun _ => rfl) fun cdv A outer s H E hr => ⟨_, (dss_cons (ds_set (i := 1) sc_law.nd (de_call calm__law_crock (ok__law_crock T) (hr.mono (by decide)) T.m__law_crock T.F__law_crock.kp T.b__law_crock (da_cons (dv 0) da_nil)))
      (dss_cons (ds_for PassesOwn.never rfl (di_range1 T.z_range (da_cons de_int da_nil)) (dg_nm 2 sc_law.nd) (dss_one (ds_if (dt_not (dt_tru (de_call calm__law_right (ok__law_right T) (hr.mono (by decide)) T.m__law_right T.F__law_right.kp T.b__law_right (da_cons (dv 1) da_nil)))) (dss_one (ds_ret de_bl)) dss_nil)))
      (dss_cons (ds_set (i := 3) sc_law.nd (de_cel (da_cons de_int (da_cons de_int (da_cons de_int (da_cons de_int da_nil))))))
      (dss_cons (ds_set (i := 4) sc_law.nd (de_call calm_added (ok_added T) (hr.mono (by decide)) T.m_added T.F_added.kp T.b_added (da_cons (dv 3) (da_cons (de_tup (da_cons de_int (da_cons de_int (da_cons de_int (da_cons de_int da_nil))))) da_nil))))
      (dss_cons (ds_store de_int (dv 3) de_int)
      (dss_one (ds_ret (de_and (de_cmp (opd_eq hr.r.units) (dv 4) (de_tup (da_cons de_int (da_cons de_int (da_cons de_int (da_cons de_int da_nil)))))) (de_one (de_cmp (opd_eq hr.r.units) (de_call calm_turned (ok_turned T) (hr.mono (by decide)) T.m_turned T.F_turned.kp T.b_turned (da_cons (de_lst (da_cons de_int (da_cons de_int (da_cons de_int (da_cons de_int da_nil))))) (da_cons de_int da_nil))) (de_tup (da_cons (de_un und_neg de_int) (da_cons de_int (da_cons de_int (da_cons de_int da_nil))))))))))))))), fun i cs hp => ?_⟩
  obtain ⟨ns, hn⟩ := i
  cases hp
  simp only [sp_law, spLaw]
  walk_at "dl"
  refine callP_i ⟨ns, hn⟩ rfl rfl ?_
  rintro _ _ ⟨rfl, ms, hms, rfl⟩
  walk_at "dl"
  refine forP_i (for_inv (fun k env cs' => (∃ o, env = [some (.scr ns), some (.cell 0), o, none, none]) ∧ SvN 0 (23 * k) cs' ∧ cs'.length = 1 ∧ k ≤ 4) _ _ _ ⟨⟨_, rfl⟩, ⟨ms, 0, 0, rfl, by omega, by omega, hms⟩, rfl, by omega⟩ (fun _ _ _ _ => trivial) ?_ ?_)
  · rintro k d _ cs hd ⟨⟨o, rfl⟩, hs, hl, _⟩
    obtain ⟨hk, rfl⟩ := rngD_get hd
    have hk' : k < 4 := hk
    refine ⟨_, rfl, fun E' hn _ _ _ => ?_⟩
    walk_at "dl"
    refine right_i hs (by omega) fun cs' mv => ?_
    walk_at "dl"
    exact hn _ _ ⟨⟨_, rfl⟩, mv.sv, by rw [mv.len, hl], by omega⟩
  · rintro _ cs ⟨⟨o, rfl⟩, hs, hl, _⟩
    walk_at "dl"
    refine added_i (x := ⟨1, 2, 3, 4⟩) (y := ⟨0, 0, 0, 0⟩) (by rw [seqOf_cell, lstAt_app]; rfl) rfl ?_
    walk_at "dl"
    simp only [Am.add, Int.reduceAdd]
    walk_at "dl"
    refine turned_i (x := ⟨0, 0, 0, 1⟩) rfl (by decide) (by decide) ?_
    walk_at "dl"
    rfl

set_option maxHeartbeats 4000000 in
theorem all_mk {q : PySem.W.OpenLaw} {w : World} {K : PySem.W.Frag} {h : Heap} {mg : Str → Option Value} {fa : Addr} (X : K.In h) (G : h.Ns mainGlobals mg) (hfa : mg "law" = some (.ref fa))
    {f0 : Addr} {oc0 kV0 dc0 pm0 cd0 ct0 : Value} {od0 an0 : Option Addr} {sl0 : Array (Option Value)}
    (a0 : PySem.W.nsIn K mainGlobals "_law_crock" = some (some (.ref f0))) (l0 : K.lookup f0 = some ⟨oc0, od0, .func (PySem.W.fnOf "_law_crock" "_law_crock" (defArgs s__law_crock) (defBody s__law_crock) (defScope s__law_crock) .none kV0 dc0 pm0 an0 cd0 ct0), sl0⟩) (c0 : PySem.W.codeIn K cd0 "_law_crock" = true) (k0 : PySem.W.keepIn K (.ref f0) = true)
    {f1 : Addr} {oc1 kV1 dc1 pm1 cd1 ct1 : Value} {od1 an1 : Option Addr} {sl1 : Array (Option Value)}
    (a1 : PySem.W.nsIn K mainGlobals "plus" = some (some (.ref f1))) (l1 : K.lookup f1 = some ⟨oc1, od1, .func (PySem.W.fnOf "plus" "plus" (defArgs s_plus) (defBody s_plus) (defScope s_plus) .none kV1 dc1 pm1 an1 cd1 ct1), sl1⟩) (c1 : PySem.W.codeIn K cd1 "plus" = true) (k1 : PySem.W.keepIn K (.ref f1) = true)
    {f2 : Addr} {oc2 kV2 dc2 pm2 cd2 ct2 : Value} {od2 an2 : Option Addr} {sl2 : Array (Option Value)}
    (a2 : PySem.W.nsIn K mainGlobals "is_integer" = some (some (.ref f2))) (l2 : K.lookup f2 = some ⟨oc2, od2, .func (PySem.W.fnOf "is_integer" "is_integer" (defArgs s_is_integer) (defBody s_is_integer) (defScope s_is_integer) .none kV2 dc2 pm2 an2 cd2 ct2), sl2⟩) (c2 : PySem.W.codeIn K cd2 "is_integer" = true) (k2 : PySem.W.keepIn K (.ref f2) = true)
    {f3 : Addr} {oc3 kV3 dc3 pm3 cd3 ct3 : Value} {od3 an3 : Option Addr} {sl3 : Array (Option Value)}
    (a3 : PySem.W.nsIn K mainGlobals "is_amount" = some (some (.ref f3))) (l3 : K.lookup f3 = some ⟨oc3, od3, .func (PySem.W.fnOf "is_amount" "is_amount" (defArgs s_is_amount) (defBody s_is_amount) (defScope s_is_amount) .none kV3 dc3 pm3 an3 cd3 ct3), sl3⟩) (c3 : PySem.W.codeIn K cd3 "is_amount" = true) (k3 : PySem.W.keepIn K (.ref f3) = true)
    {f4 : Addr} {oc4 kV4 dc4 pm4 cd4 ct4 : Value} {od4 an4 : Option Addr} {sl4 : Array (Option Value)}
    (a4 : PySem.W.nsIn K mainGlobals "need_amount" = some (some (.ref f4))) (l4 : K.lookup f4 = some ⟨oc4, od4, .func (PySem.W.fnOf "need_amount" "need_amount" (defArgs s_need_amount) (defBody s_need_amount) (defScope s_need_amount) .none kV4 dc4 pm4 an4 cd4 ct4), sl4⟩) (c4 : PySem.W.codeIn K cd4 "need_amount" = true) (k4 : PySem.W.keepIn K (.ref f4) = true)
    {f5 : Addr} {oc5 kV5 dc5 pm5 cd5 ct5 : Value} {od5 an5 : Option Addr} {sl5 : Array (Option Value)}
    (a5 : PySem.W.nsIn K mainGlobals "added" = some (some (.ref f5))) (l5 : K.lookup f5 = some ⟨oc5, od5, .func (PySem.W.fnOf "added" "added" (defArgs s_added) (defBody s_added) (defScope s_added) .none kV5 dc5 pm5 an5 cd5 ct5), sl5⟩) (c5 : PySem.W.codeIn K cd5 "added" = true) (k5 : PySem.W.keepIn K (.ref f5) = true)
    {f6 : Addr} {oc6 kV6 dc6 pm6 cd6 ct6 : Value} {od6 an6 : Option Addr} {sl6 : Array (Option Value)}
    (a6 : PySem.W.nsIn K mainGlobals "_law_times" = some (some (.ref f6))) (l6 : K.lookup f6 = some ⟨oc6, od6, .func (PySem.W.fnOf "_law_times" "_law_times" (defArgs s__law_times) (defBody s__law_times) (defScope s__law_times) .none kV6 dc6 pm6 an6 cd6 ct6), sl6⟩) (c6 : PySem.W.codeIn K cd6 "_law_times" = true) (k6 : PySem.W.keepIn K (.ref f6) = true)
    {f7 : Addr} {oc7 kV7 dc7 pm7 cd7 ct7 : Value} {od7 an7 : Option Addr} {sl7 : Array (Option Value)}
    (a7 : PySem.W.nsIn K mainGlobals "_law_length" = some (some (.ref f7))) (l7 : K.lookup f7 = some ⟨oc7, od7, .func (PySem.W.fnOf "_law_length" "_law_length" (defArgs s__law_length) (defBody s__law_length) (defScope s__law_length) .none kV7 dc7 pm7 an7 cd7 ct7), sl7⟩) (c7 : PySem.W.codeIn K cd7 "_law_length" = true) (k7 : PySem.W.keepIn K (.ref f7) = true)
    {f8 : Addr} {oc8 kV8 dc8 pm8 cd8 ct8 : Value} {od8 an8 : Option Addr} {sl8 : Array (Option Value)}
    (a8 : PySem.W.nsIn K mainGlobals "is_within" = some (some (.ref f8))) (l8 : K.lookup f8 = some ⟨oc8, od8, .func (PySem.W.fnOf "is_within" "is_within" (defArgs s_is_within) (defBody s_is_within) (defScope s_is_within) .none kV8 dc8 pm8 an8 cd8 ct8), sl8⟩) (c8 : PySem.W.codeIn K cd8 "is_within" = true) (k8 : PySem.W.keepIn K (.ref f8) = true)
    {f9 : Addr} {oc9 kV9 dc9 pm9 cd9 ct9 : Value} {od9 an9 : Option Addr} {sl9 : Array (Option Value)}
    (a9 : PySem.W.nsIn K mainGlobals "is_turn" = some (some (.ref f9))) (l9 : K.lookup f9 = some ⟨oc9, od9, .func (PySem.W.fnOf "is_turn" "is_turn" (defArgs s_is_turn) (defBody s_is_turn) (defScope s_is_turn) .none kV9 dc9 pm9 an9 cd9 ct9), sl9⟩) (c9 : PySem.W.codeIn K cd9 "is_turn" = true) (k9 : PySem.W.keepIn K (.ref f9) = true)
    {f10 : Addr} {oc10 kV10 dc10 pm10 cd10 ct10 : Value} {od10 an10 : Option Addr} {sl10 : Array (Option Value)}
    (a10 : PySem.W.nsIn K mainGlobals "need_turn" = some (some (.ref f10))) (l10 : K.lookup f10 = some ⟨oc10, od10, .func (PySem.W.fnOf "need_turn" "need_turn" (defArgs s_need_turn) (defBody s_need_turn) (defScope s_need_turn) .none kV10 dc10 pm10 an10 cd10 ct10), sl10⟩) (c10 : PySem.W.codeIn K cd10 "need_turn" = true) (k10 : PySem.W.keepIn K (.ref f10) = true)
    {f11 : Addr} {oc11 kV11 dc11 pm11 cd11 ct11 : Value} {od11 an11 : Option Addr} {sl11 : Array (Option Value)}
    (a11 : PySem.W.nsIn K mainGlobals "turn_by" = some (some (.ref f11))) (l11 : K.lookup f11 = some ⟨oc11, od11, .func (PySem.W.fnOf "turn_by" "turn_by" (defArgs s_turn_by) (defBody s_turn_by) (defScope s_turn_by) .none kV11 dc11 pm11 an11 cd11 ct11), sl11⟩) (c11 : PySem.W.codeIn K cd11 "turn_by" = true) (k11 : PySem.W.keepIn K (.ref f11) = true)
    {f12 : Addr} {oc12 kV12 dc12 pm12 cd12 ct12 : Value} {od12 an12 : Option Addr} {sl12 : Array (Option Value)}
    (a12 : PySem.W.nsIn K mainGlobals "turned" = some (some (.ref f12))) (l12 : K.lookup f12 = some ⟨oc12, od12, .func (PySem.W.fnOf "turned" "turned" (defArgs s_turned) (defBody s_turned) (defScope s_turned) .none kV12 dc12 pm12 an12 cd12 ct12), sl12⟩) (c12 : PySem.W.codeIn K cd12 "turned" = true) (k12 : PySem.W.keepIn K (.ref f12) = true)
    {f13 : Addr} {oc13 kV13 dc13 pm13 cd13 ct13 : Value} {od13 an13 : Option Addr} {sl13 : Array (Option Value)}
    (a13 : PySem.W.nsIn K mainGlobals "_law_ladle" = some (some (.ref f13))) (l13 : K.lookup f13 = some ⟨oc13, od13, .func (PySem.W.fnOf "_law_ladle" "_law_ladle" (defArgs s__law_ladle) (defBody s__law_ladle) (defScope s__law_ladle) .none kV13 dc13 pm13 an13 cd13 ct13), sl13⟩) (c13 : PySem.W.codeIn K cd13 "_law_ladle" = true) (k13 : PySem.W.keepIn K (.ref f13) = true)
    {f14 : Addr} {oc14 kV14 dc14 pm14 cd14 ct14 : Value} {od14 an14 : Option Addr} {sl14 : Array (Option Value)}
    (a14 : PySem.W.nsIn K mainGlobals "length_in" = some (some (.ref f14))) (l14 : K.lookup f14 = some ⟨oc14, od14, .func (PySem.W.fnOf "length_in" "length_in" (defArgs s_length_in) (defBody s_length_in) (defScope s_length_in) .none kV14 dc14 pm14 an14 cd14 ct14), sl14⟩) (c14 : PySem.W.codeIn K cd14 "length_in" = true) (k14 : PySem.W.keepIn K (.ref f14) = true)
    {f15 : Addr} {oc15 kV15 dc15 pm15 cd15 ct15 : Value} {od15 an15 : Option Addr} {sl15 : Array (Option Value)}
    (a15 : PySem.W.nsIn K mainGlobals "length_of" = some (some (.ref f15))) (l15 : K.lookup f15 = some ⟨oc15, od15, .func (PySem.W.fnOf "length_of" "length_of" (defArgs s_length_of) (defBody s_length_of) (defScope s_length_of) .none kV15 dc15 pm15 an15 cd15 ct15), sl15⟩) (c15 : PySem.W.codeIn K cd15 "length_of" = true) (k15 : PySem.W.keepIn K (.ref f15) = true)
    {f16 : Addr} {oc16 kV16 dc16 pm16 cd16 ct16 : Value} {od16 an16 : Option Addr} {sl16 : Array (Option Value)}
    (a16 : PySem.W.nsIn K mainGlobals "times" = some (some (.ref f16))) (l16 : K.lookup f16 = some ⟨oc16, od16, .func (PySem.W.fnOf "times" "times" (defArgs s_times) (defBody s_times) (defScope s_times) .none kV16 dc16 pm16 an16 cd16 ct16), sl16⟩) (c16 : PySem.W.codeIn K cd16 "times" = true) (k16 : PySem.W.keepIn K (.ref f16) = true)
    {f17 : Addr} {oc17 kV17 dc17 pm17 cd17 ct17 : Value} {od17 an17 : Option Addr} {sl17 : Array (Option Value)}
    (a17 : PySem.W.nsIn K mainGlobals "multiplied" = some (some (.ref f17))) (l17 : K.lookup f17 = some ⟨oc17, od17, .func (PySem.W.fnOf "multiplied" "multiplied" (defArgs s_multiplied) (defBody s_multiplied) (defScope s_multiplied) .none kV17 dc17 pm17 an17 cd17 ct17), sl17⟩) (c17 : PySem.W.codeIn K cd17 "multiplied" = true) (k17 : PySem.W.keepIn K (.ref f17) = true)
    {f18 : Addr} {oc18 kV18 dc18 pm18 cd18 ct18 : Value} {od18 an18 : Option Addr} {sl18 : Array (Option Value)}
    (a18 : PySem.W.nsIn K mainGlobals "mirror" = some (some (.ref f18))) (l18 : K.lookup f18 = some ⟨oc18, od18, .func (PySem.W.fnOf "mirror" "mirror" (defArgs s_mirror) (defBody s_mirror) (defScope s_mirror) .none kV18 dc18 pm18 an18 cd18 ct18), sl18⟩) (c18 : PySem.W.codeIn K cd18 "mirror" = true) (k18 : PySem.W.keepIn K (.ref f18) = true)
    {f19 : Addr} {oc19 kV19 dc19 pm19 cd19 ct19 : Value} {od19 an19 : Option Addr} {sl19 : Array (Option Value)}
    (a19 : PySem.W.nsIn K mainGlobals "mirrored" = some (some (.ref f19))) (l19 : K.lookup f19 = some ⟨oc19, od19, .func (PySem.W.fnOf "mirrored" "mirrored" (defArgs s_mirrored) (defBody s_mirrored) (defScope s_mirrored) .none kV19 dc19 pm19 an19 cd19 ct19), sl19⟩) (c19 : PySem.W.codeIn K cd19 "mirrored" = true) (k19 : PySem.W.keepIn K (.ref f19) = true)
    {f20 : Addr} {oc20 kV20 dc20 pm20 cd20 ct20 : Value} {od20 an20 : Option Addr} {sl20 : Array (Option Value)}
    (a20 : PySem.W.nsIn K mainGlobals "_law_turned" = some (some (.ref f20))) (l20 : K.lookup f20 = some ⟨oc20, od20, .func (PySem.W.fnOf "_law_turned" "_law_turned" (defArgs s__law_turned) (defBody s__law_turned) (defScope s__law_turned) .none kV20 dc20 pm20 an20 cd20 ct20), sl20⟩) (c20 : PySem.W.codeIn K cd20 "_law_turned" = true) (k20 : PySem.W.keepIn K (.ref f20) = true)
    {f21 : Addr} {oc21 kV21 dc21 pm21 cd21 ct21 : Value} {od21 an21 : Option Addr} {sl21 : Array (Option Value)}
    (a21 : PySem.W.nsIn K mainGlobals "_law_lengths_right" = some (some (.ref f21))) (l21 : K.lookup f21 = some ⟨oc21, od21, .func (PySem.W.fnOf "_law_lengths_right" "_law_lengths_right" (defArgs s__law_lengths_right) (defBody s__law_lengths_right) (defScope s__law_lengths_right) .none kV21 dc21 pm21 an21 cd21 ct21), sl21⟩) (c21 : PySem.W.codeIn K cd21 "_law_lengths_right" = true) (k21 : PySem.W.keepIn K (.ref f21) = true)
    {f22 : Addr} {oc22 kV22 dc22 pm22 cd22 ct22 : Value} {od22 an22 : Option Addr} {sl22 : Array (Option Value)}
    (a22 : PySem.W.nsIn K mainGlobals "_law_one" = some (some (.ref f22))) (l22 : K.lookup f22 = some ⟨oc22, od22, .func (PySem.W.fnOf "_law_one" "_law_one" (defArgs s__law_one) (defBody s__law_one) (defScope s__law_one) .none kV22 dc22 pm22 an22 cd22 ct22), sl22⟩) (c22 : PySem.W.codeIn K cd22 "_law_one" = true) (k22 : PySem.W.keepIn K (.ref f22) = true)
    {f23 : Addr} {oc23 kV23 dc23 pm23 cd23 ct23 : Value} {od23 an23 : Option Addr} {sl23 : Array (Option Value)}
    (a23 : PySem.W.nsIn K mainGlobals "_law_amount" = some (some (.ref f23))) (l23 : K.lookup f23 = some ⟨oc23, od23, .func (PySem.W.fnOf "_law_amount" "_law_amount" (defArgs s__law_amount) (defBody s__law_amount) (defScope s__law_amount) .none kV23 dc23 pm23 an23 cd23 ct23), sl23⟩) (c23 : PySem.W.codeIn K cd23 "_law_amount" = true) (k23 : PySem.W.keepIn K (.ref f23) = true)
    {f24 : Addr} {oc24 kV24 dc24 pm24 cd24 ct24 : Value} {od24 an24 : Option Addr} {sl24 : Array (Option Value)}
    (a24 : PySem.W.nsIn K mainGlobals "_law_plus" = some (some (.ref f24))) (l24 : K.lookup f24 = some ⟨oc24, od24, .func (PySem.W.fnOf "_law_plus" "_law_plus" (defArgs s__law_plus) (defBody s__law_plus) (defScope s__law_plus) .none kV24 dc24 pm24 an24 cd24 ct24), sl24⟩) (c24 : PySem.W.codeIn K cd24 "_law_plus" = true) (k24 : PySem.W.keepIn K (.ref f24) = true)
    {f25 : Addr} {oc25 kV25 dc25 pm25 cd25 ct25 : Value} {od25 an25 : Option Addr} {sl25 : Array (Option Value)}
    (a25 : PySem.W.nsIn K mainGlobals "_law_right" = some (some (.ref f25))) (l25 : K.lookup f25 = some ⟨oc25, od25, .func (PySem.W.fnOf "_law_right" "_law_right" (defArgs s__law_right) (defBody s__law_right) (defScope s__law_right) .none kV25 dc25 pm25 an25 cd25 ct25), sl25⟩) (c25 : PySem.W.codeIn K cd25 "_law_right" = true) (k25 : PySem.W.keepIn K (.ref f25) = true)
    {f26 : Addr} {oc26 kV26 dc26 pm26 cd26 ct26 : Value} {od26 an26 : Option Addr} {sl26 : Array (Option Value)}
    (a26 : PySem.W.nsIn K mainGlobals "law" = some (some (.ref f26))) (l26 : K.lookup f26 = some ⟨oc26, od26, .func (PySem.W.fnOf "law" "law" (defArgs s_law) (defBody s_law) (defScope s_law) .none kV26 dc26 pm26 an26 cd26 ct26), sl26⟩) (c26 : PySem.W.codeIn K cd26 "law" = true) (k26 : PySem.W.keepIn K (.ref f26) = true)
    (z_abs : PySem.W.nsIn K mainGlobals "abs" = some none)
    (z_all : PySem.W.nsIn K mainGlobals "all" = some none)
    (z_bool : PySem.W.nsIn K mainGlobals "bool" = some none)
    (z_enumerate : PySem.W.nsIn K mainGlobals "enumerate" = some none)
    (z_int : PySem.W.nsIn K mainGlobals "int" = some none)
    (z_isinstance : PySem.W.nsIn K mainGlobals "isinstance" = some none)
    (z_len : PySem.W.nsIn K mainGlobals "len" = some none)
    (z_list : PySem.W.nsIn K mainGlobals "list" = some none)
    (z_range : PySem.W.nsIn K mainGlobals "range" = some none)
    (z_repr : PySem.W.nsIn K mainGlobals "repr" = some none)
    (z_tuple : PySem.W.nsIn K mainGlobals "tuple" = some none)
    (z_zip : PySem.W.nsIn K mainGlobals "zip" = some none)
    {tok_TURNS : Tok} (q_TURNS : PySem.W.nsIn K mainGlobals "TURNS" = some (some (.int 8 tok_TURNS)))
    : ∃ fd : FuncData, (∀ (s : Shared) (v : Value), BindsTo s fd ⟨[v], []⟩ [("_law_script", v)]) ∧ ∀ base : Heap, K.In base → base.Ns mainGlobals mg → FnG q.prog w K mg base CX0 8 fa fd ["_law_script"] (dSp K (spLaw 63)) := by
  have e := hfa.symm.trans (PySem.W.mg_of X G a26)
  cases e
  have F0 := fun_mk (st := s__law_crock) l0 c0 k0
  have B0 := F0.binds (ps := ["_law_script"]) fun _ _ _ _ _ _ us hl => match us, hl with | [_], _ => rfl
  have F1 := fun_mk (st := s_plus) l1 c1 k1
  have B1 := F1.binds (ps := ["one", "other"]) fun _ _ _ _ _ _ us hl => match us, hl with | [_, _], _ => rfl
  have F2 := fun_mk (st := s_is_integer) l2 c2 k2
  have B2 := F2.binds (ps := ["value"]) fun _ _ _ _ _ _ us hl => match us, hl with | [_], _ => rfl
  have F3 := fun_mk (st := s_is_amount) l3 c3 k3
  have B3 := F3.binds (ps := ["value"]) fun _ _ _ _ _ _ us hl => match us, hl with | [_], _ => rfl
  have F4 := fun_mk (st := s_need_amount) l4 c4 k4
  have B4 := F4.binds (ps := ["value", "part"]) fun _ _ _ _ _ _ us hl => match us, hl with | [_, _], _ => rfl
  have F5 := fun_mk (st := s_added) l5 c5 k5
  have B5 := F5.binds (ps := ["one", "other"]) fun _ _ _ _ _ _ us hl => match us, hl with | [_, _], _ => rfl
  have F6 := fun_mk (st := s__law_times) l6 c6 k6
  have B6 := F6.binds (ps := ["_law_one_here", "_law_other"]) fun _ _ _ _ _ _ us hl => match us, hl with | [_, _], _ => rfl
  have F7 := fun_mk (st := s__law_length) l7 c7 k7
  have B7 := F7.binds (ps := ["_law_amounts"]) fun _ _ _ _ _ _ us hl => match us, hl with | [_], _ => rfl
  have F8 := fun_mk (st := s_is_within) l8 c8 k8
  have B8 := F8.binds (ps := ["value", "least", "most"]) fun _ _ _ _ _ _ us hl => match us, hl with | [_, _, _], _ => rfl
  have F9 := fun_mk (st := s_is_turn) l9 c9 k9
  have B9 := F9.binds (ps := ["value"]) fun _ _ _ _ _ _ us hl => match us, hl with | [_], _ => rfl
  have F10 := fun_mk (st := s_need_turn) l10 c10 k10
  have B10 := F10.binds (ps := ["value", "part"]) fun _ _ _ _ _ _ us hl => match us, hl with | [_, _], _ => rfl
  have F11 := fun_mk (st := s_turn_by) l11 c11 k11
  have B11 := F11.binds (ps := ["amount", "turn"]) fun _ _ _ _ _ _ us hl => match us, hl with | [_, _], _ => rfl
  have F12 := fun_mk (st := s_turned) l12 c12 k12
  have B12 := F12.binds (ps := ["amount", "turn"]) fun _ _ _ _ _ _ us hl => match us, hl with | [_, _], _ => rfl
  have F13 := fun_mk (st := s__law_ladle) l13 c13 k13
  have B13 := F13.binds (ps := ["_law_crock_here", "_law_many"]) fun _ _ _ _ _ _ us hl => match us, hl with | [_, _], _ => rfl
  have F14 := fun_mk (st := s_length_in) l14 c14 k14
  have B14 := F14.binds (ps := ["amounts"]) fun _ _ _ _ _ _ us hl => match us, hl with | [_], _ => rfl
  have F15 := fun_mk (st := s_length_of) l15 c15 k15
  have B15 := F15.binds (ps := ["amount"]) fun _ _ _ _ _ _ us hl => match us, hl with | [_], _ => rfl
  have F16 := fun_mk (st := s_times) l16 c16 k16
  have B16 := F16.binds (ps := ["one", "other"]) fun _ _ _ _ _ _ us hl => match us, hl with | [_, _], _ => rfl
  have F17 := fun_mk (st := s_multiplied) l17 c17 k17
  have B17 := F17.binds (ps := ["one", "other"]) fun _ _ _ _ _ _ us hl => match us, hl with | [_, _], _ => rfl
  have F18 := fun_mk (st := s_mirror) l18 c18 k18
  have B18 := F18.binds (ps := ["amount"]) fun _ _ _ _ _ _ us hl => match us, hl with | [_], _ => rfl
  have F19 := fun_mk (st := s_mirrored) l19 c19 k19
  have B19 := F19.binds (ps := ["amount"]) fun _ _ _ _ _ _ us hl => match us, hl with | [_], _ => rfl
  have F20 := fun_mk (st := s__law_turned) l20 c20 k20
  have B20 := F20.binds (ps := ["_law_amount_here", "_law_turn"]) fun _ _ _ _ _ _ us hl => match us, hl with | [_, _], _ => rfl
  have F21 := fun_mk (st := s__law_lengths_right) l21 c21 k21
  have B21 := F21.binds (ps := ["_law_crock_here", "_law_one_here", "_law_other", "_law_due"]) fun _ _ _ _ _ _ us hl => match us, hl with | [_, _, _, _], _ => rfl
  have F22 := fun_mk (st := s__law_one) l22 c22 k22
  have B22 := F22.binds (ps := ["_law_crock_here", "_law_some"]) fun _ _ _ _ _ _ us hl => match us, hl with | [_, _], _ => rfl
  have F23 := fun_mk (st := s__law_amount) l23 c23 k23
  have B23 := F23.binds (ps := ["_law_crock_here"]) fun _ _ _ _ _ _ us hl => match us, hl with | [_], _ => rfl
  have F24 := fun_mk (st := s__law_plus) l24 c24 k24
  have B24 := F24.binds (ps := ["_law_one_here", "_law_other"]) fun _ _ _ _ _ _ us hl => match us, hl with | [_, _], _ => rfl
  have F25 := fun_mk (st := s__law_right) l25 c25 k25
  have B25 := F25.binds (ps := ["_law_crock_here"]) fun _ _ _ _ _ _ us hl => match us, hl with | [_], _ => rfl
  have F26 := fun_mk (st := s_law) l26 c26 k26
  have B26 := F26.binds (ps := ["_law_script"]) fun _ _ _ _ _ _ us hl => match us, hl with | [_], _ => rfl
  let T : Txt K mg := { f__law_crock := f0, d__law_crock := _, F__law_crock := F0, m__law_crock := PySem.W.mg_of X G a0, b__law_crock := B0, f_plus := f1, d_plus := _, F_plus := F1, m_plus := PySem.W.mg_of X G a1, b_plus := B1, f_is_integer := f2, d_is_integer := _, F_is_integer := F2, m_is_integer := PySem.W.mg_of X G a2, b_is_integer := B2, f_is_amount := f3, d_is_amount := _, F_is_amount := F3, m_is_amount := PySem.W.mg_of X G a3, b_is_amount := B3, f_need_amount := f4, d_need_amount := _, F_need_amount := F4, m_need_amount := PySem.W.mg_of X G a4, b_need_amount := B4, f_added := f5, d_added := _, F_added := F5, m_added := PySem.W.mg_of X G a5, b_added := B5, f__law_times := f6, d__law_times := _, F__law_times := F6, m__law_times := PySem.W.mg_of X G a6, b__law_times := B6, f__law_length := f7, d__law_length := _, F__law_length := F7, m__law_length := PySem.W.mg_of X G a7, b__law_length := B7, f_is_within := f8, d_is_within := _, F_is_within := F8, m_is_within := PySem.W.mg_of X G a8, b_is_within := B8, f_is_turn := f9, d_is_turn := _, F_is_turn := F9, m_is_turn := PySem.W.mg_of X G a9, b_is_turn := B9, f_need_turn := f10, d_need_turn := _, F_need_turn := F10, m_need_turn := PySem.W.mg_of X G a10, b_need_turn := B10, f_turn_by := f11, d_turn_by := _, F_turn_by := F11, m_turn_by := PySem.W.mg_of X G a11, b_turn_by := B11, f_turned := f12, d_turned := _, F_turned := F12, m_turned := PySem.W.mg_of X G a12, b_turned := B12, f__law_ladle := f13, d__law_ladle := _, F__law_ladle := F13, m__law_ladle := PySem.W.mg_of X G a13, b__law_ladle := B13, f_length_in := f14, d_length_in := _, F_length_in := F14, m_length_in := PySem.W.mg_of X G a14, b_length_in := B14, f_length_of := f15, d_length_of := _, F_length_of := F15, m_length_of := PySem.W.mg_of X G a15, b_length_of := B15, f_times := f16, d_times := _, F_times := F16, m_times := PySem.W.mg_of X G a16, b_times := B16, f_multiplied := f17, d_multiplied := _, F_multiplied := F17, m_multiplied := PySem.W.mg_of X G a17, b_multiplied := B17, f_mirror := f18, d_mirror := _, F_mirror := F18, m_mirror := PySem.W.mg_of X G a18, b_mirror := B18, f_mirrored := f19, d_mirrored := _, F_mirrored := F19, m_mirrored := PySem.W.mg_of X G a19, b_mirrored := B19, f__law_turned := f20, d__law_turned := _, F__law_turned := F20, m__law_turned := PySem.W.mg_of X G a20, b__law_turned := B20, f__law_lengths_right := f21, d__law_lengths_right := _, F__law_lengths_right := F21, m__law_lengths_right := PySem.W.mg_of X G a21, b__law_lengths_right := B21, f__law_one := f22, d__law_one := _, F__law_one := F22, m__law_one := PySem.W.mg_of X G a22, b__law_one := B22, f__law_amount := f23, d__law_amount := _, F__law_amount := F23, m__law_amount := PySem.W.mg_of X G a23, b__law_amount := B23, f__law_plus := f24, d__law_plus := _, F__law_plus := F24, m__law_plus := PySem.W.mg_of X G a24, b__law_plus := B24, f__law_right := f25, d__law_right := _, F__law_right := F25, m__law_right := PySem.W.mg_of X G a25, b__law_right := B25, f_law := fa, d_law := _, F_law := F26, m_law := PySem.W.mg_of X G a26, b_law := B26, z_abs := PySem.W.mg_none_of X G z_abs, z_all := PySem.W.mg_none_of X G z_all, z_bool := PySem.W.mg_none_of X G z_bool, z_enumerate := PySem.W.mg_none_of X G z_enumerate, z_int := PySem.W.mg_none_of X G z_int, z_isinstance := PySem.W.mg_none_of X G z_isinstance, z_len := PySem.W.mg_none_of X G z_len, z_list := PySem.W.mg_none_of X G z_list, z_range := PySem.W.mg_none_of X G z_range, z_repr := PySem.W.mg_none_of X G z_repr, z_tuple := PySem.W.mg_none_of X G z_tuple, z_zip := PySem.W.mg_none_of X G z_zip, k_TURNS := kon_int X G q_TURNS }
  exact ⟨T.d_law, fun s v => .of_eq rfl, fun base _ _ => ok_law T⟩
end
end Law
open PySem PySem.W PyProof.Rows
set_option maxRecDepth 100000 in
set_option maxHeartbeats 0 in
theorem PySem.Challenge.cw_lookmade_k03_amounts_by_own_products_holds : PySem.Challenge.rw_lookmade_k03_amounts_by_own_products.Holds := by
  w_on; o_law; k_head; (case hw => w_witness2)
  k_fill
  refine DL.walk_D (l := PySem.Challenge.rw_lookmade_k03_amounts_by_own_products) (n := 63) (k := 8) (x := "_law_script") rfl (by decide) rfl ⟨⟨rfl, by decide, by decide⟩, rfl⟩ (fun w h Y => PySem.W.kIn_of Y) ?F
  case F =>
    intro w mg fa h KX G hmg
    refine' Law.all_mk KX G hmg ?a0 ?l0 ?c0 ?k0 ?a1 ?l1 ?c1 ?k1 ?a2 ?l2 ?c2 ?k2 ?a3 ?l3 ?c3 ?k3 ?a4 ?l4 ?c4 ?k4 ?a5 ?l5 ?c5 ?k5 ?a6 ?l6 ?c6 ?k6 ?a7 ?l7 ?c7 ?k7 ?a8 ?l8 ?c8 ?k8 ?a9 ?l9 ?c9 ?k9 ?a10 ?l10 ?c10 ?k10 ?a11 ?l11 ?c11 ?k11 ?a12 ?l12 ?c12 ?k12 ?a13 ?l13 ?c13 ?k13 ?a14 ?l14 ?c14 ?k14 ?a15 ?l15 ?c15 ?k15 ?a16 ?l16 ?c16 ?k16 ?a17 ?l17 ?c17 ?k17 ?a18 ?l18 ?c18 ?k18 ?a19 ?l19 ?c19 ?k19 ?a20 ?l20 ?c20 ?k20 ?a21 ?l21 ?c21 ?k21 ?a22 ?l22 ?c22 ?k22 ?a23 ?l23 ?c23 ?k23 ?a24 ?l24 ?c24 ?k24 ?a25 ?l25 ?c25 ?k25 ?a26 ?l26 ?c26 ?k26 ?z_abs ?z_all ?z_bool ?z_enumerate ?z_int ?z_isinstance ?z_len ?z_list ?z_range ?z_repr ?z_tuple ?z_zip ?q_TURNS
    (case a0 => k_is)
    (case l0 => k_is)
    (case c0 => k_is)
    (case k0 => k_is)
    (case a1 => k_is)
    (case l1 => k_is)
    (case c1 => k_is)
    (case k1 => k_is)
    (case a2 => k_is)
    (case l2 => k_is)
    (case c2 => k_is)
    (case k2 => k_is)
    (case a3 => k_is)
    (case l3 => k_is)
    (case c3 => k_is)
    (case k3 => k_is)
    (case a4 => k_is)
    (case l4 => k_is)
    (case c4 => k_is)
    (case k4 => k_is)
    (case a5 => k_is)
    (case l5 => k_is)
    (case c5 => k_is)
    (case k5 => k_is)
    (case a6 => k_is)
    (case l6 => k_is)
    (case c6 => k_is)
    (case k6 => k_is)
    (case a7 => k_is)
    (case l7 => k_is)
    (case c7 => k_is)
    (case k7 => k_is)
    (case a8 => k_is)
    (case l8 => k_is)
    (case c8 => k_is)
    (case k8 => k_is)
    (case a9 => k_is)
    (case l9 => k_is)
    (case c9 => k_is)
    (case k9 => k_is)
    (case a10 => k_is)
    (case l10 => k_is)
    (case c10 => k_is)
    (case k10 => k_is)
    (case a11 => k_is)
    (case l11 => k_is)
    (case c11 => k_is)
    (case k11 => k_is)
    (case a12 => k_is)
    (case l12 => k_is)
    (case c12 => k_is)
    (case k12 => k_is)
    (case a13 => k_is)
    (case l13 => k_is)
    (case c13 => k_is)
    (case k13 => k_is)
    (case a14 => k_is)
    (case l14 => k_is)
    (case c14 => k_is)
    (case k14 => k_is)
    (case a15 => k_is)
    (case l15 => k_is)
    (case c15 => k_is)
    (case k15 => k_is)
    (case a16 => k_is)
    (case l16 => k_is)
    (case c16 => k_is)
    (case k16 => k_is)
    (case a17 => k_is)
    (case l17 => k_is)
    (case c17 => k_is)
    (case k17 => k_is)
    (case a18 => k_is)
    (case l18 => k_is)
    (case c18 => k_is)
    (case k18 => k_is)
    (case a19 => k_is)
    (case l19 => k_is)
    (case c19 => k_is)
    (case k19 => k_is)
    (case a20 => k_is)
    (case l20 => k_is)
    (case c20 => k_is)
    (case k20 => k_is)
    (case a21 => k_is)
    (case l21 => k_is)
    (case c21 => k_is)
    (case k21 => k_is)
    (case a22 => k_is)
    (case l22 => k_is)
    (case c22 => k_is)
    (case k22 => k_is)
    (case a23 => k_is)
    (case l23 => k_is)
    (case c23 => k_is)
    (case k23 => k_is)
    (case a24 => k_is)
    (case l24 => k_is)
    (case c24 => k_is)
    (case k24 => k_is)
    (case a25 => k_is)
    (case l25 => k_is)
    (case c25 => k_is)
    (case k25 => k_is)
    (case a26 => k_is)
    (case l26 => k_is)
    (case c26 => k_is)
    (case k26 => k_is)
    (case z_abs => k_is)
    (case z_all => k_is)
    (case z_bool => k_is)
    (case z_enumerate => k_is)
    (case z_int => k_is)
    (case z_isinstance => k_is)
    (case z_len => k_is)
    (case z_list => k_is)
    (case z_range => k_is)
    (case z_repr => k_is)
    (case z_tuple => k_is)
    (case z_zip => k_is)
    (case q_TURNS => k_is)
