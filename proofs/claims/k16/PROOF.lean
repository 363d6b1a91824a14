import PyProof.Rows.All
import HandS.ForMost
import HandS.Flow
import HandS.Wide
import HandS.IsInst
import HandS.Conv
import HandS.Zip
import HandS.TupAny
import HandS.Style
import HandS.NoneIn
import HandS.RaiseMore
import HandS.TupMul
import PyProof.ReprReads
import PyProof.ReprLen
import KE.GoesMore
import PyProof.Draws
import HandS.WideBits
import HandS.Deep
import KE.DataAny
import HandS.TupSets
import HandS.SetFor
import PyProof.ReprRoads
import HandS.More
import HandS.Star
import PySem.Challenge.RW_lookmade_k16_whole_what_is_undone_and_be
set_option Elab.async false
set_option linter.all false
set_option maxRecDepth 100000
set_option maxHeartbeats 4000000
/-! DBase: a layer over HandS in which values are trees of data: what a piece of a program does is told over data alone. -/
namespace DL
open PySem PySem.Spec PyProof.Rows L2

/-- data: what a value is, with its parts -/
inductive D where
  | non | bl (b : Bool) | int (i : Int) | str (x : Str) | ty (n : String) | ref (a : Addr)
  | tup (xs : List D) | lst (xs : List D) | dic (kvs : List (Key × D)) | obj (C : Addr) (fs : List (Str × D)) | cell (i : Nat) | scr (ns : List Int)

/-- what is known beside the heap: what stays as it is (Z), where the changing objects are (as), objects kept apart (rs) -/
structure G where
  Z : Hp
  as : List Addr
  rs : List (Addr × HO)

section
variable (K : PySem.W.Frag) (g : G)
mutual
/-- the value v is the data d -/
def Rep : D → V → Prop
  | .non, v => v = .non
  | .bl b, v => v = .bl b
  | .int i, v => v = .int i
  | .str x, v => v = .str x
  | .ty n, v => v = .ty n
  | .ref a, v => v = .ref a
  | .tup ds, v => ∃ a vs, v = .ref a ∧ SqT K g.Z a vs ∧ RepL ds vs
  | .lst ds, v => ∃ a vs, v = .ref a ∧ g.Z a = some (.lst vs) ∧ RepL ds vs
  | .dic ds, v => ∃ a vs, v = .ref a ∧ g.Z a = some (.dK vs) ∧ RepK ds vs
  | .obj C ds, v => ∃ a dx vs, v = .ref a ∧ g.Z a = some (.ins C dx vs) ∧ RepF ds vs
  | .cell i, v => ∃ a, v = .ref a ∧ g.as[i]? = some a
  | .scr ns, v => ∃ a, v = .ref a ∧ SqL K g.Z a (ns.map V.int)
def RepL : List D → List V → Prop
  | [], vs => vs = []
  | d :: ds, vs => ∃ v r, vs = v :: r ∧ Rep d v ∧ RepL ds r
def RepK : List (Key × D) → List (Key × V) → Prop
  | [], vs => vs = []
  | (k, d) :: ds, vs => ∃ v r, vs = (k, v) :: r ∧ Rep d v ∧ RepK ds r
def RepF : List (Str × D) → List (Str × V) → Prop
  | [], vs => vs = []
  | (k, d) :: ds, vs => ∃ v r, vs = (k, v) :: r ∧ Rep d v ∧ RepF ds r
end
end

/-- more is known -/
structure Sub (g g' : G) : Prop where
  z : ∀ a o, g.Z a = some o → g'.Z a = some o
  a : ∃ t, g'.as = g.as ++ t
structure Ext (g g' : G) : Prop where
  z : ∀ a o, g.Z a = some o → g'.Z a = some o
  a : ∃ t, g'.as = g.as ++ t
  r : g'.rs = g.rs
theorem Ext.sub {g g' : G} (e : Ext g g') : Sub g g' := ⟨e.z, e.a⟩
theorem Sub.at {g g' : G} (e : Sub g g') {i : Nat} {a : Addr} (h : g.as[i]? = some a) : g'.as[i]? = some a := by
  obtain ⟨t, q⟩ := e.a
  rw [q, List.getElem?_append_left (List.getElem?_eq_some_iff.mp h).1]
  exact h
theorem Ext.refl (g : G) : Ext g g := ⟨fun _ _ h => h, ⟨[], by simp⟩, rfl⟩
theorem Ext.trans {g g1 g2 : G} (a : Ext g g1) (b : Ext g1 g2) : Ext g g2 :=
  ⟨fun c o h => b.z c o (a.z c o h), by
    obtain ⟨t, e⟩ := a.a
    obtain ⟨u, e2⟩ := b.a
    exact ⟨t ++ u, by rw [e2, e, List.append_assoc]⟩, b.r.trans a.r⟩
theorem Ext.at {g g' : G} (e : Ext g g') {i : Nat} {a : Addr} (h : g.as[i]? = some a) : g'.as[i]? = some a := by
  obtain ⟨t, q⟩ := e.a
  rw [q, List.getElem?_append_left (List.getElem?_eq_some_iff.mp h).1]
  exact h
theorem Ext.len {g g' : G} (e : Ext g g') : g.as.length ≤ g'.as.length := by
  obtain ⟨t, q⟩ := e.a
  rw [q, List.length_append]
  omega
section
variable {K : PySem.W.Frag} {g g' : G}
theorem sqT_mono {Z Z' : Hp} (z : ∀ a o, Z a = some o → Z' a = some o) {a : Addr} {xs : List V} (h : SqT K Z a xs) : SqT K Z' a xs := by
  rcases h with (h | ⟨o, h⟩) | h
  · exact .inl (.inl (z _ _ h))
  · exact .inl (.inr ⟨o, z _ _ h⟩)
  · exact .inr h
theorem sqL_mono {Z Z' : Hp} (z : ∀ a o, Z a = some o → Z' a = some o) {a : Addr} {xs : List V} (h : SqL K Z a xs) : SqL K Z' a xs := by
  rcases h with (h | ⟨o, h⟩) | h
  · exact .inl (.inl (z _ _ h))
  · exact .inl (.inr ⟨o, z _ _ h⟩)
  · exact .inr h
mutual
theorem Rep.sub (e : Sub g g') : ∀ (d : D) (v : V), Rep K g d v → Rep K g' d v
  | .non, _, h => h
  | .bl _, _, h => h
  | .int _, _, h => h
  | .str _, _, h => h
  | .ty _, _, h => h
  | .ref _, _, h => h
  | .tup ds, v, h => by
    obtain ⟨a, vs, e1, h1, h2⟩ := h
    exact ⟨a, vs, e1, sqT_mono e.z h1, RepL.sub e ds vs h2⟩
  | .lst ds, v, h => by
    obtain ⟨a, vs, e1, h1, h2⟩ := h
    exact ⟨a, vs, e1, e.z _ _ h1, RepL.sub e ds vs h2⟩
  | .dic ds, v, h => by
    obtain ⟨a, vs, e1, h1, h2⟩ := h
    exact ⟨a, vs, e1, e.z _ _ h1, RepK.sub e ds vs h2⟩
  | .obj C ds, v, h => by
    obtain ⟨a, dx, vs, e1, h1, h2⟩ := h
    exact ⟨a, dx, vs, e1, e.z _ _ h1, RepF.sub e ds vs h2⟩
  | .cell i, v, h => by
    obtain ⟨a, e1, h1⟩ := h
    exact ⟨a, e1, e.at h1⟩
  | .scr ns, v, h => by
    obtain ⟨a, e1, h1⟩ := h
    exact ⟨a, e1, sqL_mono e.z h1⟩
theorem RepL.sub (e : Sub g g') : ∀ (ds : List D) (vs : List V), RepL K g ds vs → RepL K g' ds vs
  | [], _, h => h
  | d :: ds, vs, h => by
    obtain ⟨v, r, e1, h1, h2⟩ := h
    exact ⟨v, r, e1, Rep.sub e d v h1, RepL.sub e ds r h2⟩
theorem RepK.sub (e : Sub g g') : ∀ (ds : List (Key × D)) (vs : List (Key × V)), RepK K g ds vs → RepK K g' ds vs
  | [], _, h => h
  | (k, d) :: ds, vs, h => by
    obtain ⟨v, r, e1, h1, h2⟩ := h
    exact ⟨v, r, e1, Rep.sub e d v h1, RepK.sub e ds r h2⟩
theorem RepF.sub (e : Sub g g') : ∀ (ds : List (Str × D)) (vs : List (Str × V)), RepF K g ds vs → RepF K g' ds vs
  | [], _, h => h
  | (k, d) :: ds, vs, h => by
    obtain ⟨v, r, e1, h1, h2⟩ := h
    exact ⟨v, r, e1, Rep.sub e d v h1, RepF.sub e ds r h2⟩
end
theorem Rep.mono (e : Ext g g') {d : D} {v : V} (h : Rep K g d v) : Rep K g' d v := Rep.sub e.sub d v h
theorem RepL.sub' {ds : List D} {vs : List V} (h : RepL K g ds vs) (e : Sub g g') : RepL K g' ds vs := RepL.sub e ds vs h
theorem RepK.sub' {ds : List (Key × D)} {vs : List (Key × V)} (h : RepK K g ds vs) (e : Sub g g') : RepK K g' ds vs := RepK.sub e ds vs h
theorem RepF.sub' {ds : List (Str × D)} {vs : List (Str × V)} (h : RepF K g ds vs) (e : Sub g g') : RepF K g' ds vs := RepF.sub e ds vs h
theorem RepL.mono (e : Ext g g') {ds : List D} {vs : List V} (h : RepL K g ds vs) : RepL K g' ds vs := RepL.sub e.sub ds vs h
theorem RepK.mono (e : Ext g g') {ds : List (Key × D)} {vs : List (Key × V)} (h : RepK K g ds vs) : RepK K g' ds vs := RepK.sub e.sub ds vs h
theorem RepF.mono (e : Ext g g') {ds : List (Str × D)} {vs : List (Str × V)} (h : RepF K g ds vs) : RepF K g' ds vs := RepF.sub e.sub ds vs h
end

/-! ### lists of data -/
section
variable {K : PySem.W.Frag} {g : G}
theorem RepL.nil : RepL K g [] [] := rfl
theorem RepL.cons {d : D} {v : V} {ds : List D} {vs : List V} (h : Rep K g d v) (t : RepL K g ds vs) : RepL K g (d :: ds) (v :: vs) := ⟨v, vs, rfl, h, t⟩
theorem RepL.length : ∀ {ds : List D} {vs : List V}, RepL K g ds vs → ds.length = vs.length
  | [], vs, h => by
    have h' : vs = [] := h
    subst h'
    rfl
  | d :: ds, vs, h => by
    obtain ⟨v, r, e1, h1, h2⟩ := h
    subst e1
    simp [RepL.length h2]
theorem RepL.get : ∀ {ds : List D} {vs : List V} {i : Nat} {d : D}, RepL K g ds vs → ds[i]? = some d → ∃ v, vs[i]? = some v ∧ Rep K g d v
  | [], _, _, _, _, e => by simp at e
  | x :: ds, vs, 0, d, h, e => by
    obtain ⟨v, r, e1, h1, h2⟩ := h
    subst e1
    simp at e
    subst e
    exact ⟨v, rfl, h1⟩
  | x :: ds, vs, i + 1, d, h, e => by
    obtain ⟨v, r, e1, h1, h2⟩ := h
    subst e1
    obtain ⟨u, q1, q2⟩ := RepL.get (i := i) (d := d) h2 (by simpa using e)
    exact ⟨u, by simpa using q1, q2⟩
theorem RepL.append : ∀ {ds es : List D} {vs us : List V}, RepL K g ds vs → RepL K g es us → RepL K g (ds ++ es) (vs ++ us)
  | [], _, vs, _, h, t => by
    have h' : vs = [] := h
    subst h'
    exact t
  | d :: ds, es, vs, us, h, t => by
    obtain ⟨v, r, e1, h1, h2⟩ := h
    subst e1
    exact ⟨v, r ++ us, rfl, h1, RepL.append h2 t⟩
theorem RepL.take : ∀ {ds : List D} {vs : List V} (n : Nat), RepL K g ds vs → RepL K g (ds.take n) (vs.take n)
  | _, _, 0, _ => by simp only [List.take_zero]; exact rfl
  | [], vs, n + 1, h => by
    have h' : vs = [] := h
    subst h'
    exact rfl
  | d :: ds, vs, n + 1, h => by
    obtain ⟨v, r, e1, h1, h2⟩ := h
    subst e1
    exact ⟨v, _, rfl, h1, RepL.take n h2⟩
theorem RepL.drop : ∀ {ds : List D} {vs : List V} (n : Nat), RepL K g ds vs → RepL K g (ds.drop n) (vs.drop n)
  | _, _, 0, h => by simpa only [List.drop_zero] using h
  | [], vs, n + 1, h => by
    have h' : vs = [] := h
    subst h'
    exact rfl
  | d :: ds, vs, n + 1, h => by
    obtain ⟨v, r, e1, h1, h2⟩ := h
    subst e1
    simpa only [List.drop_succ_cons] using RepL.drop n h2
theorem RepL.set {d : D} {v : V} (h : Rep K g d v) : ∀ {ds : List D} {vs : List V} (i : Nat), RepL K g ds vs → RepL K g (ds.set i d) (vs.set i v)
  | [], vs, i, q => by
    have q' : vs = [] := q
    subst q'
    exact rfl
  | x :: ds, vs, 0, q => by
    obtain ⟨u, r, e1, h1, h2⟩ := q
    subst e1
    exact ⟨v, r, rfl, h, h2⟩
  | x :: ds, vs, i + 1, q => by
    obtain ⟨u, r, e1, h1, h2⟩ := q
    subst e1
    exact ⟨u, _, rfl, h1, RepL.set h i h2⟩
theorem RepL.ints : ∀ {ns : List Int} {vs : List V}, RepL K g (ns.map .int) vs → vs = ns.map V.int
  | [], vs, h => h
  | n :: ns, vs, h => by
    obtain ⟨v, r, e1, h1, h2⟩ := h
    subst e1
    have h1' : v = .int n := h1
    subst h1'
    rw [RepL.ints h2]
    rfl
theorem RepL.of_ints : ∀ (ns : List Int), RepL K g (ns.map .int) (ns.map V.int)
  | [] => rfl
  | n :: ns => ⟨_, _, rfl, rfl, RepL.of_ints ns⟩
end

/-! ### what may change -/
/-- what stands at a changing object's place -/
inductive CO where
  | lst (xs : List D) | ins (C : Addr) (fs : List (Str × D)) | dic (kvs : List (Key × D)) | dead
abbrev Sto := List CO
def COk (K : PySem.W.Frag) (g : G) (H : Hp) (a : Addr) : CO → Prop
  | .lst ds => ∃ vs, H a = some (.lst vs) ∧ RepL K g ds vs ∧ g.Z a = none
  | .ins C ds => ∃ dx vs, H a = some (.ins C dx vs) ∧ RepF K g ds vs ∧ g.Z a = none
  | .dic ds => ∃ vs, H a = some (.dK vs) ∧ RepK K g ds vs ∧ g.Z a = none
  | .dead => True
structure Sr (K : PySem.W.Frag) (g : G) (cs : Sto) (H : Hp) : Prop where
  le : ∀ a o, g.Z a = some o → H a = some o
  len : g.as.length = cs.length
  nd : g.as.Nodup
  th : ∀ a ∈ g.as, H a ≠ none
  ok : ∀ (i : Nat) (a : Addr) (c : CO), g.as[i]? = some a → cs[i]? = some c → COk K g H a c
  rs : ∀ p ∈ g.rs, H p.1 = some p.2 ∧ g.Z p.1 = none ∧ p.1 ∉ g.as
  rn : (g.rs.map (·.1)).Nodup
/-- the names' values -/
abbrev En := List (Option D)
structure Lr (K : PySem.W.Frag) (g : G) (env : En) (σ : L2.St) : Prop where
  len : env.length = σ.length
  ok : ∀ (i : Nat) (d : D), env[i]? = some (some d) → ∃ v, σ[i]? = some (some v) ∧ Rep K g d v

section
variable {K : PySem.W.Frag} {g g' : G} {cs : Sto} {H : Hp} {env : En} {σ : L2.St}
theorem COk.mono {a : Addr} {c : CO} (e : Sub g g') (hz : c ≠ .dead → g'.Z a = none) {H' : Hp} (hh : c ≠ .dead → ∀ o, H a = some o → H' a = some o) (h : COk K g H a c) : COk K g' H' a c := by
  cases c with
  | lst ds =>
    obtain ⟨vs, h1, h2, h3⟩ := h
    exact ⟨vs, hh (by simp) _ h1, h2.sub' e, hz (by simp)⟩
  | ins C ds =>
    obtain ⟨dx, vs, h1, h2, h3⟩ := h
    exact ⟨dx, vs, hh (by simp) _ h1, h2.sub' e, hz (by simp)⟩
  | dic ds =>
    obtain ⟨vs, h1, h2, h3⟩ := h
    exact ⟨vs, hh (by simp) _ h1, h2.sub' e, hz (by simp)⟩
  | dead => trivial
theorem COk.free {a : Addr} {c : CO} (h : COk K g H a c) (hd : c ≠ .dead) : g.Z a = none := by
  cases c with
  | lst ds => obtain ⟨vs, h1, h2, h3⟩ := h; exact h3
  | ins C ds => obtain ⟨dx, vs, h1, h2, h3⟩ := h; exact h3
  | dic ds => obtain ⟨vs, h1, h2, h3⟩ := h; exact h3
  | dead => exact absurd rfl hd
theorem Lr.mono (l : Lr K g env σ) (e : Ext g g') : Lr K g' env σ :=
  ⟨l.len, fun i d h => by
    obtain ⟨v, h1, h2⟩ := l.ok i d h
    exact ⟨v, h1, h2.mono e⟩⟩
theorem Lr.set (l : Lr K g env σ) {i : Nat} {d : D} {v : V} (h : Rep K g d v) : Lr K g (env.set i (some d)) (σ.set i (some v)) := by
  refine ⟨by simp [l.len], fun j e q => ?_⟩
  by_cases hj : i = j
  · subst hj
    by_cases hi : i < env.length
    · rw [List.getElem?_set_self hi] at q
      cases q
      exact ⟨v, List.getElem?_set_self (by rw [← l.len]; exact hi), h⟩
    · rw [List.getElem?_eq_none (by simpa using hi)] at q
      cases q
  · rw [List.getElem?_set_ne hj] at q
    obtain ⟨u, h1, h2⟩ := l.ok j e q
    exact ⟨u, by rw [List.getElem?_set_ne hj]; exact h1, h2⟩
/-- a new object that stays -/
def G.add (g : G) (p : Addr) (o : HO) : G := { g with Z := upd g.Z p o }
theorem Sr.free (s : Sr K g cs H) {p : Addr} (h : H p = none) : g.Z p = none := by
  cases q : g.Z p with
  | none => rfl
  | some o =>
    rw [s.le p o q] at h
    cases h
theorem Ext.add (s : Sr K g cs H) {p : Addr} (h : H p = none) (o : HO) : Ext g (g.add p o) :=
  ⟨fun a u q => by
    show upd g.Z p o a = some u
    rw [upd_ne (ne_of_none q (s.free h))]
    exact q, ⟨[], by simp [G.add]⟩, rfl⟩
theorem Sr.add (s : Sr K g cs H) {p : Addr} (h : H p = none) (o : HO) : Sr K (g.add p o) cs (upd H p o) := by
  have np : p ∉ g.as := fun q => s.th p q h
  have e := Ext.add s h o
  refine ⟨fun a u q => ?_, s.len, s.nd, fun a ha => ?_, fun i a c h1 h2 => ?_, fun q hq => ?_, s.rn⟩
  · by_cases ha : a = p
    · subst ha
      have q' : upd g.Z a o a = some u := q
      rw [upd_same] at q' ⊢
      exact q'
    · have q' : upd g.Z p o a = some u := q
      rw [upd_ne ha] at q' ⊢
      exact s.le a u q'
  · have : a ≠ p := fun z => np (by rw [← z]; exact ha)
    rw [upd_ne this]
    exact s.th a ha
  · have ne : a ≠ p := fun z => np (by rw [← z]; exact List.mem_of_getElem? h1)
    have q := s.ok i a c h1 h2
    refine q.mono e.sub (fun hd => ?_) (fun _ u hu => ?_)
    · show upd g.Z p o a = none
      rw [upd_ne ne]
      exact q.free hd
    · rw [upd_ne ne]
      exact hu
  · obtain ⟨q1, q2, q3⟩ := s.rs q hq
    have ne : q.1 ≠ p := ne_of_none q1 h
    refine ⟨by rw [upd_ne ne]; exact q1, ?_, q3⟩
    show upd g.Z p o q.1 = none
    rw [upd_ne ne]
    exact q2
theorem add_at {p : Addr} {o : HO} : (g.add p o).Z p = some o := upd_same
/-- a new object that may change -/
def G.cel (g : G) (p : Addr) : G := { g with as := g.as ++ [p] }
theorem Ext.cel (p : Addr) : Ext g (g.cel p) := ⟨fun _ _ h => h, ⟨[p], rfl⟩, rfl⟩
theorem Sr.cel (s : Sr K g cs H) {p : Addr} (h : H p = none) {o : HO} {c : CO} (hc : COk K (g.cel p) (upd H p o) p c) : Sr K (g.cel p) (cs ++ [c]) (upd H p o) := by
  have np : p ∉ g.as := fun q => s.th p q h
  refine ⟨fun a u q => ?_, by simp [G.cel, s.len], ?_, fun a ha => ?_, fun i a d h1 h2 => ?_, fun q hq => ?_, s.rn⟩
  · rw [upd_ne (ne_of_none q (s.free h))]
    exact s.le a u q
  · show (g.as ++ [p]).Nodup
    rw [List.nodup_append]
    refine ⟨s.nd, by simp, ?_⟩
    intro a ha b hb
    have : b = p := by simpa using hb
    subst this
    exact fun z => np (by rw [← z]; exact ha)
  · have ha' : a ∈ g.as ++ [p] := ha
    rcases List.mem_append.mp ha' with q | q
    · rw [upd_ne (fun z => np (by rw [← z]; exact q))]
      exact s.th a q
    · have : a = p := by simpa using q
      subst this
      rw [upd_same]
      simp
  · have h1' : (g.as ++ [p])[i]? = some a := h1
    by_cases hi : i < g.as.length
    · rw [List.getElem?_append_left hi] at h1'
      rw [List.getElem?_append_left (by rw [← s.len]; exact hi)] at h2
      have ne : a ≠ p := fun z => np (by rw [← z]; exact List.mem_of_getElem? h1')
      have q := s.ok i a d h1' h2
      refine q.mono (Ext.cel p).sub (fun hd => q.free hd) (fun _ u hu => ?_)
      rw [upd_ne ne]
      exact hu
    · have hi' : i = g.as.length := by
        have := (List.getElem?_eq_some_iff.mp h1').1
        simp at this
        omega
      subst hi'
      rw [List.getElem?_append_right (Nat.le_refl _)] at h1'
      rw [List.getElem?_append_right (by rw [s.len]; exact Nat.le_refl _)] at h2
      simp [s.len] at h1' h2
      subst h1' h2
      exact hc
  · obtain ⟨q1, q2, q3⟩ := s.rs q hq
    have ne : q.1 ≠ p := ne_of_none q1 h
    refine ⟨by rw [upd_ne ne]; exact q1, q2, fun z => ?_⟩
    have z' : q.1 ∈ g.as ++ [p] := z
    rcases List.mem_append.mp z' with z | z
    · exact q3 z
    · exact ne (by simpa using z)
theorem nodup_ixA {l : List Addr} (hN : l.Nodup) {i j : Nat} {x : Addr} (a : l[i]? = some x) (b : l[j]? = some x) : i = j := by
  obtain ⟨h1, e1⟩ := List.getElem?_eq_some_iff.mp a
  obtain ⟨h2, e2⟩ := List.getElem?_eq_some_iff.mp b
  exact (List.getElem_inj hN).mp (e1.trans e2.symm)
/-- a changing object is changed -/
theorem Sr.put (s : Sr K g cs H) {i : Nat} {a : Addr} {o : HO} {c c0 : CO} (ha : g.as[i]? = some a) (h0 : cs[i]? = some c0) (hd : c0 ≠ .dead) (hc : COk K g (upd H a o) a c) : Sr K g (cs.set i c) (upd H a o) := by
  have z0 := (s.ok i a c0 ha h0).free hd
  have mem : a ∈ g.as := List.mem_of_getElem? ha
  refine ⟨fun b u q => ?_, by simp [s.len], s.nd, fun b hb => ?_, fun j b d h1 h2 => ?_, fun q hq => ?_, s.rn⟩
  · rw [upd_ne (ne_of_none q z0)]
    exact s.le b u q
  · by_cases hb' : b = a
    · subst hb'
      rw [upd_same]
      simp
    · rw [upd_ne hb']
      exact s.th b hb
  · by_cases hj : i = j
    · subst hj
      rw [ha] at h1
      cases h1
      have hi : i < cs.length := (List.getElem?_eq_some_iff.mp h0).1
      rw [List.getElem?_set_self hi] at h2
      cases h2
      exact hc
    · rw [List.getElem?_set_ne hj] at h2
      have ne : b ≠ a := fun z => by
        subst z
        exact hj (nodup_ixA s.nd ha h1)
      have q := s.ok j b d h1 h2
      refine q.mono (Ext.refl g).sub (fun hd => q.free hd) (fun _ u hu => ?_)
      rw [upd_ne ne]
      exact hu
  · obtain ⟨q1, q2, q3⟩ := s.rs q hq
    have ne : q.1 ≠ a := fun z => q3 (by rw [z]; exact mem)
    exact ⟨by rw [upd_ne ne]; exact q1, q2, q3⟩
/-- a changing list stays from here on -/
theorem Sr.freeze (s : Sr K g cs H) {i : Nat} {a : Addr} {ds : List D} {vs : List V} (ha : g.as[i]? = some a) (h0 : cs[i]? = some (.lst ds)) (hv : H a = some (.lst vs)) (hz : g.Z a = none) :
    Sr K (g.add a (.lst vs)) (cs.set i .dead) H ∧ Ext g (g.add a (.lst vs)) := by
  have mem : a ∈ g.as := List.mem_of_getElem? ha
  have e : Ext g (g.add a (.lst vs)) := ⟨fun b u q => by
    show upd g.Z a _ b = some u
    rw [upd_ne (ne_of_none q hz)]
    exact q, ⟨[], by simp [G.add]⟩, rfl⟩
  refine ⟨⟨fun b u q => ?_, by simp [G.add, s.len], s.nd, s.th, fun j b d h1 h2 => ?_, fun q hq => ?_, s.rn⟩, e⟩
  · have q' : upd g.Z a (.lst vs) b = some u := q
    by_cases hb : b = a
    · subst hb
      rw [upd_same] at q'
      rw [hv]
      exact q'
    · rw [upd_ne hb] at q'
      exact s.le b u q'
  · by_cases hj : i = j
    · subst hj
      have hi : i < cs.length := (List.getElem?_eq_some_iff.mp h0).1
      rw [List.getElem?_set_self hi] at h2
      cases h2
      trivial
    · rw [List.getElem?_set_ne hj] at h2
      have ne : b ≠ a := fun z => by
        subst z
        exact hj (nodup_ixA s.nd ha h1)
      have q := s.ok j b d h1 h2
      refine q.mono e.sub (fun hd => ?_) (fun _ u hu => hu)
      show upd g.Z a _ b = none
      rw [upd_ne ne]
      exact q.free hd
  · obtain ⟨q1, q2, q3⟩ := s.rs q hq
    refine ⟨q1, ?_, q3⟩
    show upd g.Z a _ q.1 = none
    rw [upd_ne (fun z => q3 (by rw [z]; exact mem))]
    exact q2
/-- an object kept apart -/
def G.hold (g : G) (p : Addr) (o : HO) : G := { g with rs := (p, o) :: g.rs }
theorem Sr.hold (s : Sr K g cs H) {p : Addr} (h : H p = none) (o : HO) : Sr K (g.hold p o) cs (upd H p o) := by
  have np : p ∉ g.as := fun q => s.th p q h
  have sb : Sub g (g.hold p o) := ⟨fun _ _ h => h, ⟨[], by simp [G.hold]⟩⟩
  refine ⟨fun a u q => ?_, s.len, s.nd, fun a ha => ?_, fun i a c h1 h2 => ?_, fun q hq => ?_, ?_⟩
  · rw [upd_ne (ne_of_none q (s.free h))]
    exact s.le a u q
  · rw [upd_ne (fun z => np (by rw [← z]; exact ha))]
    exact s.th a ha
  · have ne : a ≠ p := fun z => np (by rw [← z]; exact List.mem_of_getElem? h1)
    refine (s.ok i a c h1 h2).mono sb (fun hd => (s.ok i a c h1 h2).free hd) (fun _ u hu => ?_)
    rw [upd_ne ne]
    exact hu
  · rcases List.mem_cons.mp (show q ∈ (p, o) :: g.rs from hq) with e | hq
    · subst e
      exact ⟨upd_same, s.free h, np⟩
    · obtain ⟨q1, q2, q3⟩ := s.rs q hq
      exact ⟨by rw [upd_ne (ne_of_none q1 h)]; exact q1, q2, q3⟩
  · show (p :: g.rs.map (·.1)).Nodup
    refine List.nodup_cons.mpr ⟨fun z => ?_, s.rn⟩
    obtain ⟨q, hq, e⟩ := List.mem_map.mp z
    obtain ⟨q1, _⟩ := s.rs q hq
    rw [e, h] at q1
    cases q1
theorem Sr.rehold (s : Sr K g cs H) {p : Addr} {o o' : HO} {r : List (Addr × HO)} (e : g.rs = (p, o) :: r) : Sr K { g with rs := (p, o') :: r } cs (upd H p o') := by
  obtain ⟨q1, q2, q3⟩ := s.rs (p, o) (by rw [e]; exact List.mem_cons_self)
  have rn := s.rn
  rw [e] at rn
  have sb : Sub g { g with rs := (p, o') :: r } := ⟨fun _ _ h => h, ⟨[], by simp⟩⟩
  refine ⟨fun a u q => ?_, s.len, s.nd, fun a ha => ?_, fun i a c h1 h2 => ?_, fun q hq => ?_, rn⟩
  · have q' : g.Z a = some u := q
    rw [upd_ne (ne_of_none q' q2)]
    exact s.le a u q
  · rw [upd_ne (fun z => q3 (by rw [← z]; exact ha))]
    exact s.th a ha
  · have ne : a ≠ p := fun z => q3 (by rw [← z]; exact List.mem_of_getElem? h1)
    refine (s.ok i a c h1 h2).mono sb (fun hd => (s.ok i a c h1 h2).free hd) (fun _ u hu => ?_)
    rw [upd_ne ne]
    exact hu
  · rcases List.mem_cons.mp (show q ∈ (p, o') :: r from hq) with e' | hq
    · subst e'
      exact ⟨upd_same, q2, q3⟩
    · obtain ⟨r1, r2, r3⟩ := s.rs q (by rw [e]; exact List.mem_cons_of_mem _ hq)
      have ne : q.1 ≠ p := fun z => (List.nodup_cons.mp rn).1 (List.mem_map.mpr ⟨q, hq, z⟩)
      exact ⟨by rw [upd_ne ne]; exact r1, r2, r3⟩
theorem Sr.unhold (s : Sr K g cs H) {p : Addr} {o : HO} {r : List (Addr × HO)} (e : g.rs = (p, o) :: r) : Sr K { g with Z := upd g.Z p o, rs := r } cs H := by
  obtain ⟨q1, q2, q3⟩ := s.rs (p, o) (by rw [e]; exact List.mem_cons_self)
  have rn := s.rn
  rw [e] at rn
  have sb : Sub g { g with Z := upd g.Z p o, rs := r } := ⟨fun a u h => by
    show upd g.Z p o a = some u
    rw [upd_ne (ne_of_none h q2)]
    exact h, ⟨[], by simp⟩⟩
  refine ⟨fun a u q => ?_, s.len, s.nd, s.th, fun i a c h1 h2 => ?_, fun q hq => ?_, (List.nodup_cons.mp rn).2⟩
  · have q' : upd g.Z p o a = some u := q
    by_cases ha : a = p
    · subst ha
      rw [upd_same] at q'
      cases q'
      exact q1
    · rw [upd_ne ha] at q'
      exact s.le a u q'
  · have ne : a ≠ p := fun z => q3 (by rw [← z]; exact List.mem_of_getElem? h1)
    refine (s.ok i a c h1 h2).mono sb (fun hd => ?_) (fun _ u hu => hu)
    show upd g.Z p o a = none
    rw [upd_ne ne]
    exact (s.ok i a c h1 h2).free hd
  · obtain ⟨r1, r2, r3⟩ := s.rs q (by rw [e]; exact List.mem_cons_of_mem _ hq)
    refine ⟨r1, ?_, r3⟩
    show upd g.Z p o q.1 = none
    rw [upd_ne (fun z => (List.nodup_cons.mp rn).1 (List.mem_map.mpr ⟨q, hq, z⟩))]
    exact r2
end
end DL

/-! DRules: the judgements over data, and their rules. -/
namespace DL
open PySem PySem.Spec L2

abbrev PD := D → Sto → Prop
abbrev WE := En → Sto → PD → Prop
abbrev WT := En → Sto → (Bool → Sto → Prop) → Prop
abbrev WA := En → Sto → (List D → Sto → Prop) → Prop
structure DN where
  nx : En → Sto → Prop
  rt : PD
  bk : En → Sto → Prop := fun _ _ => False
  ct : En → Sto → Prop := fun _ _ => False
abbrev WS := DN → En → Sto → Prop
structure DN.le (E E' : DN) : Prop where
  nx : ∀ env cs, E.nx env cs → E'.nx env cs
  rt : ∀ d cs, E.rt d cs → E'.rt d cs
  bk : ∀ env cs, E.bk env cs → E'.bk env cs
  ct : ∀ env cs, E.ct env cs → E'.ct env cs
theorem DN.le.refl (E : DN) : DN.le E E := ⟨fun _ _ h => h, fun _ _ h => h, fun _ _ h => h, fun _ _ h => h⟩

section
variable (K : PySem.W.Frag)
def upV (g : G) (Q : VK) : PD := fun d cs => ∀ g' H v, Ext g g' → Sr K g' cs H → Rep K g' d v → Q v H
def upT (g : G) (Q : Bool → Hp → Prop) : Bool → Sto → Prop := fun b cs => ∀ g' H, Ext g g' → Sr K g' cs H → Q b H
def upA (g : G) (Q : List V → Hp → Prop) : List D → Sto → Prop := fun ds cs => ∀ g' H vs, Ext g g' → Sr K g' cs H → RepL K g' ds vs → Q vs H
def upE (g : G) (Q : L2.St → Hp → Prop) : En → Sto → Prop := fun env cs => ∀ g' H σ, Ext g g' → Sr K g' cs H → Lr K g' env σ → Q σ H
def upN (g : G) (D : Ends) : DN := ⟨upE K g D.nx, upV K g D.rt, upE K g D.bk, upE K g D.ct⟩
def lowE (w : WE) : TE := fun σ H Q => ∃ g cs env, Sr K g cs H ∧ Lr K g env σ ∧ w env cs (upV K g Q)
def lowT (w : WT) : TT := fun σ H Q => ∃ g cs env, Sr K g cs H ∧ Lr K g env σ ∧ w env cs (upT K g Q)
def lowA (w : WA) : TA := fun σ H Q => ∃ g cs env, Sr K g cs H ∧ Lr K g env σ ∧ w env cs (upA K g Q)
def lowS (w : WS) : TS := fun D σ H => ∃ g cs env, Sr K g cs H ∧ Lr K g env σ ∧ w (upN K g D) env cs
end
section
variable {K : PySem.W.Frag} {g g' : G}
theorem upV.mono (e : Ext g g') {Q : VK} {d : D} {cs : Sto} (h : upV K g Q d cs) : upV K g' Q d cs := fun g2 H v e2 => h g2 H v (e.trans e2)
theorem upT.mono (e : Ext g g') {Q : Bool → Hp → Prop} {b : Bool} {cs : Sto} (h : upT K g Q b cs) : upT K g' Q b cs := fun g2 H e2 => h g2 H (e.trans e2)
theorem upA.mono (e : Ext g g') {Q : List V → Hp → Prop} {ds : List D} {cs : Sto} (h : upA K g Q ds cs) : upA K g' Q ds cs := fun g2 H v e2 => h g2 H v (e.trans e2)
theorem upE.mono (e : Ext g g') {Q : L2.St → Hp → Prop} {env : En} {cs : Sto} (h : upE K g Q env cs) : upE K g' Q env cs := fun g2 H v e2 => h g2 H v (e.trans e2)
theorem upN.mono (e : Ext g g') (D : Ends) : DN.le (upN K g D) (upN K g' D) := ⟨fun _ _ h => upE.mono e h, fun _ _ h => upV.mono e h, fun _ _ h => upE.mono e h, fun _ _ h => upE.mono e h⟩
end

abbrev MonoE (w : WE) : Prop := ∀ env cs Q Q', (∀ d cs, Q d cs → Q' d cs) → w env cs Q → w env cs Q'
abbrev MonoT (w : WT) : Prop := ∀ env cs Q Q', (∀ b cs, Q b cs → Q' b cs) → w env cs Q → w env cs Q'
abbrev MonoA (w : WA) : Prop := ∀ env cs Q Q', (∀ ds cs, Q ds cs → Q' ds cs) → w env cs Q → w env cs Q'
abbrev MonoS (w : WS) : Prop := ∀ E E' env cs, DN.le E E' → w E env cs → w E' env cs
structure DE (X : Cx) (e : Expr) (w : WE) : Prop where
  pe : PE X e (lowE X.K w)
  mo : MonoE w
structure DT (X : Cx) (e : Expr) (w : WT) : Prop where
  pe : PT X e (lowT X.K w)
  mo : MonoT w
structure DW (X : Cx) (e : Expr) (w : WT) : Prop where
  pe : PW X e (lowT X.K w)
  mo : MonoT w
structure DA (X : Cx) (es : List Expr) (w : WA) : Prop where
  pe : PA X es (lowA X.K w)
  mo : MonoA w
structure DS (X : Cx) (st : Stmt) (w : WS) : Prop where
  pe : PS X st (lowS X.K w)
  mo : MonoS w
structure DSs (X : Cx) (st : List Stmt) (w : WS) : Prop where
  pe : PSs X st (lowS X.K w)
  mo : MonoS w

theorem PE.imp {X : Cx} {e : Expr} {t t' : TE} (h : PE X e t) (i : ∀ σ H Q, t' σ H Q → t σ H Q) : PE X e t' := ⟨fun pins s σ H Q I hw => h.run pins s σ H Q I (i _ _ _ hw)⟩
theorem PT.imp {X : Cx} {e : Expr} {t t' : TT} (h : PT X e t) (i : ∀ σ H Q, t' σ H Q → t σ H Q) : PT X e t' := ⟨fun pins s σ H Q I hw => h.run pins s σ H Q I (i _ _ _ hw)⟩
theorem PW.imp {X : Cx} {e : Expr} {t t' : TT} (h : PW X e t) (i : ∀ σ H Q, t' σ H Q → t σ H Q) : PW X e t' := ⟨fun wh pins s σ H Q I hw => h.run wh pins s σ H Q I (i _ _ _ hw)⟩
theorem PA.imp {X : Cx} {e : List Expr} {t t' : TA} (h : PA X e t) (i : ∀ σ H Q, t' σ H Q → t σ H Q) : PA X e t' := ⟨fun pos pins s σ H Q I hw => h.run pos pins s σ H Q I (i _ _ _ hw)⟩
theorem PS.imp {X : Cx} {e : Stmt} {t t' : TS} (h : PS X e t) (i : ∀ D σ H, t' D σ H → t D σ H) : PS X e t' := ⟨fun pins s σ H D I hw => h.run pins s σ H D I (i _ _ _ hw)⟩
theorem PSs.imp {X : Cx} {e : List Stmt} {t t' : TS} (h : PSs X e t) (i : ∀ D σ H, t' D σ H → t D σ H) : PSs X e t' := ⟨fun pins s σ H D I hw => h.run pins s σ H D I (i _ _ _ hw)⟩

section
variable {K : PySem.W.Frag} {g : G} {cs : Sto} {H : Hp} {env : En} {σ : L2.St}
/-- behind an expression -/
theorem lowE.go {w : WE} (m : MonoE w) {P : PD} {R : VK} (s : Sr K g cs H) (l : Lr K g env σ) (h : w env cs P) (k : ∀ d cs' g' H' v, P d cs' → Ext g g' → Sr K g' cs' H' → Rep K g' d v → R v H') : lowE K w σ H R :=
  ⟨g, cs, env, s, l, m env cs P _ (fun d cs' p g' H' v e s' r => k d cs' g' H' v p e s' r) h⟩
theorem lowT.go {w : WT} (m : MonoT w) {P : Bool → Sto → Prop} {R : Bool → Hp → Prop} (s : Sr K g cs H) (l : Lr K g env σ) (h : w env cs P) (k : ∀ d cs' g' H', P d cs' → Ext g g' → Sr K g' cs' H' → R d H') : lowT K w σ H R :=
  ⟨g, cs, env, s, l, m env cs P _ (fun d cs' p g' H' e s' => k d cs' g' H' p e s') h⟩
theorem lowA.go {w : WA} (m : MonoA w) {P : List D → Sto → Prop} {R : List V → Hp → Prop} (s : Sr K g cs H) (l : Lr K g env σ) (h : w env cs P) (k : ∀ ds cs' g' H' vs, P ds cs' → Ext g g' → Sr K g' cs' H' → RepL K g' ds vs → R vs H') : lowA K w σ H R :=
  ⟨g, cs, env, s, l, m env cs P _ (fun d cs' p g' H' v e s' r => k d cs' g' H' v p e s' r) h⟩
theorem lowS.go {w : WS} (m : MonoS w) {E : DN} {D : Ends} (s : Sr K g cs H) (l : Lr K g env σ) (h : w E env cs) (le : DN.le E (upN K g D)) : lowS K w D σ H :=
  ⟨g, cs, env, s, l, m E _ env cs le h⟩
end

section
variable {X : Cx} {a b c : Expr} {wa wb wc : WE} {pos : Pos}
/-! ### constants and names -/
def wC (d : D) : WE := fun _ cs Q => Q d cs
def wVar (i : Nat) : WE := fun env cs Q => match env[i]? with
  | some (some d) => Q d cs
  | _ => False
theorem wC.mo (d : D) : MonoE (wC d) := fun _ cs _ _ h q => h _ _ q
theorem wVar.mo (i : Nat) : MonoE (wVar i) := fun env cs Q Q' h q => by
  unfold wVar at q ⊢
  split at q
  · exact h _ _ q
  · exact q
theorem de_c {e : Expr} {v : V} (d : D) (h : PE X e (tC v)) (r : ∀ g, Rep X.K g d v) : DE X e (wC d) :=
  ⟨PE.imp h fun σ H Q ⟨g, cs, env, s, l, q⟩ => q g H v (Ext.refl g) s (r g), wC.mo d⟩
theorem de_int {i j} : DE X (.Constant (.int i) j pos) (wC (.int i)) := de_c _ pe_int fun _ => rfl
theorem de_bl {b j} : DE X (.Constant (.bool b) j pos) (wC (.bl b)) := de_c _ pe_bl fun _ => rfl
theorem de_non {j} : DE X (.Constant .none j pos) (wC .non) := de_c _ pe_non fun _ => rfl
theorem de_str {x j} : DE X (.Constant (.str x) j pos) (wC (.str x)) := de_c _ pe_str fun _ => rfl
theorem dv (i : Nat) {x : Str} (hN : X.N[i]? = some x := by rfl) (hv : Vis X.env.scope x := by first | exact Or.inl rfl | exact Or.inr (Or.inl rfl) | exact Or.inr (Or.inr rfl)) (hd : (x == ("__debug__" : Str)) = false := by decide)
    (hcd : (x == ("__classdict__" : Str)) = false := by decide) : DE X (.Name x pos) (wVar i) :=
  ⟨PE.imp (pe_var hN hv hd hcd) fun σ H Q ⟨g, cs, env, s, l, q⟩ => by
    unfold wVar at q
    split at q
    · rename_i d e
      obtain ⟨v, h1, h2⟩ := l.ok i d e
      exact ⟨v, h1, q g H v (Ext.refl g) s h2⟩
    · exact q.elim, wVar.mo i⟩
/-- a module's name, a built-in's: as a value -/
theorem de_glob {x : Str} {u : Value} (d : D) {v : V} (hg : Gl X x) (hm : X.mg x = some u) (r : RelV v u) (rd : ∀ g, Rep X.K g d v) (hd : (x == ("__debug__" : Str)) = false := by decide) : DE X (.Name x pos) (wC d) := de_c d (pe_glob hg hm r hd) rd
theorem de_bltn {x : Str} {u : Value} (d : D) {v : V} (hg : Gl X x) (hm : X.mg x = none) (hv : bootBuiltins x = some u) (r : RelV v u) (rd : ∀ g, Rep X.K g d v) (hn : x ≠ "__name__" := by decide) (hd : (x == ("__debug__" : Str)) = false := by decide) : DE X (.Name x pos) (wC d) := de_c d (pe_bltn hg hm hv r hn hd) rd

/-! ### two values -/
abbrev O2 := D → D → Sto → PD → Prop
abbrev O1 := D → Sto → PD → Prop
def lowO (K : PySem.W.Frag) (o : O2) : R2 := fun x y H Q => ∃ g cs d1 d2, Sr K g cs H ∧ Rep K g d1 x ∧ Rep K g d2 y ∧ o d1 d2 cs (upV K g Q)
def lowU (K : PySem.W.Frag) (o : O1) : V → Hp → VK → Prop := fun x H Q => ∃ g cs d, Sr K g cs H ∧ Rep K g d x ∧ o d cs (upV K g Q)
structure OpD (X : Cx) (f : Value → Value → Sem Value) (o : O2) : Prop where
  op : OpR X f (lowO X.K o)
  mo : ∀ d1 d2 cs Q Q', (∀ d cs, Q d cs → Q' d cs) → o d1 d2 cs Q → o d1 d2 cs Q'
structure UnD (X : Cx) (f : Value → Sem Value) (o : O1) : Prop where
  op : UnR X f (lowU X.K o)
  mo : ∀ d cs Q Q', (∀ d cs, Q d cs → Q' d cs) → o d cs Q → o d cs Q'
def wOp (o : O2) (wa wb : WE) : WE := fun env cs Q => wa env cs fun d1 cs1 => wb env cs1 fun d2 cs2 => o d1 d2 cs2 Q
def wUn (o : O1) (wa : WE) : WE := fun env cs Q => wa env cs fun d cs1 => o d cs1 Q
theorem low_op {o : O2} (mo : ∀ d1 d2 cs Q Q', (∀ d cs, Q d cs → Q' d cs) → o d1 d2 cs Q → o d1 d2 cs Q') (ha : DE X a wa) (hb : DE X b wb) {σ : L2.St} {H : Hp} {Q : VK} (h : lowE X.K (wOp o wa wb) σ H Q) :
    lowE X.K wa σ H fun x H1 => lowE X.K wb σ H1 fun y H2 => lowO X.K o x y H2 Q := by
  obtain ⟨g, cs, env, s, l, h⟩ := h
  refine lowE.go ha.mo s l h fun d1 cs1 g1 H1 v1 h1 e1 s1 r1 => ?_
  refine lowE.go hb.mo s1 (l.mono e1) h1 fun d2 cs2 g2 H2 v2 h2 e2 s2 r2 => ?_
  exact ⟨g2, cs2, d1, d2, s2, r1.mono e2, r2, mo _ _ _ _ _ (fun _ _ q => upV.mono (e1.trans e2) q) h2⟩
theorem wOp.mo {o : O2} (mo : ∀ d1 d2 cs Q Q', (∀ d cs, Q d cs → Q' d cs) → o d1 d2 cs Q → o d1 d2 cs Q') (ha : MonoE wa) (hb : MonoE wb) : MonoE (wOp o wa wb) := fun env cs Q Q' h q =>
  ha env cs _ _ (fun d1 cs1 q1 => hb env cs1 _ _ (fun d2 cs2 q2 => mo _ _ _ _ _ h q2) q1) q
theorem de_op {op : Operator} {o : O2} (ho : OpD X (binaryOp op) o) (ha : DE X a wa) (hb : DE X b wb) : DE X (.BinOp a op b pos) (wOp o wa wb) :=
  ⟨PE.imp (pe_op ho.op ha.pe hb.pe) fun σ H Q h => low_op ho.mo ha hb h, wOp.mo ho.mo ha.mo hb.mo⟩
theorem de_cmp {op : CmpOp} {o : O2} (ho : OpD X (compareOp op) o) (ha : DE X a wa) (hb : DE X b wb) (hm : behindInMarks op b = false := by first | exact nobehind _ (by decide) (by decide) | rfl) : DE X (.Compare a [op] [b] pos) (wOp o wa wb) :=
  ⟨PE.imp (pe_cmpR ho.op ha.pe hb.pe hm) fun σ H Q h => low_op ho.mo ha hb h, wOp.mo ho.mo ha.mo hb.mo⟩
theorem de_un {op : UnaryOp} {o : O1} (ho : UnD X (unaryOp op) o) (ha : DE X a wa) : DE X (.UnaryOp op a pos) (wUn o wa) :=
  ⟨PE.imp (pe_un ho.op ha.pe) fun σ H Q ⟨g, cs, env, s, l, h⟩ => lowE.go ha.mo s l h fun d1 cs1 g1 H1 v1 h1 e1 s1 r1 => ⟨g1, cs1, d1, s1, r1, ho.mo _ _ _ _ (fun _ _ q => upV.mono e1 q) h1⟩,
    fun env cs Q Q' h q => ha.mo env cs _ _ (fun d1 cs1 q1 => ho.mo _ _ _ _ h q1) q⟩
/-- one comparison as a test -/
def wTst (w : WE) : WT := fun env cs Q => w env cs fun d cs' => match d with
  | .bl b => Q b cs'
  | _ => False
theorem wTst.mo {w : WE} (h : MonoE w) : MonoT (wTst w) := fun env cs Q Q' hq q => h env cs _ _ (fun d cs' q => by
  cases d <;> first | exact hq _ _ q | exact q) q
theorem low_tst {w : WE} (m : MonoE w) {K : PySem.W.Frag} {σ : L2.St} {H : Hp} {Q : Bool → Hp → Prop} (h : lowT K (wTst w) σ H Q) : lowE K w σ H fun x H' => ∃ k, x = .bl k ∧ Q k H' := by
  obtain ⟨g, cs, env, s, l, h⟩ := h
  refine lowE.go m s l h fun d cs1 g1 H1 v1 h1 e1 s1 r1 => ?_
  cases d with
  | bl b => exact ⟨b, r1, h1 g1 H1 e1 s1⟩
  | _ => exact False.elim h1
theorem dt_cmp {op : CmpOp} {o : O2} (ho : OpD X (compareOp op) o) (ha : DE X a wa) (hb : DE X b wb) (hm : behindInMarks op b = false := by first | exact nobehind _ (by decide) (by decide) | rfl) : DT X (.Compare a [op] [b] pos) (wTst (wOp o wa wb)) := by
  refine ⟨PT.imp (pt_cmpR ho.op ha.pe hb.pe hm) fun σ H Q h => ?_, wTst.mo (wOp.mo ho.mo ha.mo hb.mo)⟩
  obtain ⟨g, cs, env, s, l, h⟩ := low_tst (wOp.mo ho.mo ha.mo hb.mo) h
  exact low_op ho.mo ha hb ⟨g, cs, env, s, l, h⟩
/-! ### sequences -/
def lstOf (cs : Sto) : D → Option (List D)
  | .lst ds => some ds
  | .cell i => match cs[i]? with
    | some (.lst ds) => some ds
    | _ => none
  | _ => none
def seqOf (cs : Sto) : D → Option (List D)
  | .tup ds => some ds
  | d => lstOf cs d
section
variable {K : PySem.W.Frag} {g : G} {cs : Sto} {H : Hp}
theorem rd_of (s : Sr K g cs H) {d : D} {v : V} {ds : List D} (e : lstOf cs d = some ds) (r : Rep K g d v) : ∃ a vs, v = .ref a ∧ H a = some (.lst vs) ∧ RepL K g ds vs := by
  unfold lstOf at e
  split at e
  · cases e
    obtain ⟨a, vs, e1, h1, h2⟩ := r
    exact ⟨a, vs, e1, s.le _ _ h1, h2⟩
  · rename_i i
    split at e
    · rename_i ds' hc
      cases e
      obtain ⟨a, e1, h1⟩ := r
      obtain ⟨vs, q1, q2, q3⟩ := s.ok i a _ h1 hc
      exact ⟨a, vs, e1, q1, q2⟩
    · cases e
  · cases e
theorem lst_of (s : Sr K g cs H) {d : D} {v : V} {ds : List D} (e : lstOf cs d = some ds) (r : Rep K g d v) : ∃ a vs, v = .ref a ∧ SqL K H a vs ∧ RepL K g ds vs := by
  obtain ⟨a, vs, e1, h1, h2⟩ := rd_of s e r
  exact ⟨a, vs, e1, .of h1, h2⟩
theorem seq_of (s : Sr K g cs H) {d : D} {v : V} {ds : List D} (e : seqOf cs d = some ds) (r : Rep K g d v) : ∃ a vs, v = .ref a ∧ (SqL K H a vs ∨ SqT K H a vs) ∧ RepL K g ds vs := by
  unfold seqOf at e
  split at e
  · cases e
    obtain ⟨a, vs, e1, h1, h2⟩ := r
    exact ⟨a, vs, e1, .inr (sqT_mono s.le h1), h2⟩
  · obtain ⟨a, vs, e1, h1, h2⟩ := lst_of s e r
    exact ⟨a, vs, e1, .inl h1, h2⟩
/-- a new list, a new tuple -/
theorem new_lst {Q : VK} {ds : List D} {vs : List V} (s : Sr K g cs H) (r : RepL K g ds vs) (h : upV K g Q (.lst ds) cs) : ∀ p, H p = none → Q (.ref p) (upd H p (.lst vs)) := fun p hp =>
  h (g.add p (.lst vs)) _ _ (Ext.add s hp _) (s.add hp _) ⟨p, vs, rfl, add_at, r.mono (Ext.add s hp _)⟩
theorem new_tup {Q : VK} {ds : List D} {vs : List V} (s : Sr K g cs H) (r : RepL K g ds vs) (h : upV K g Q (.tup ds) cs) : ∀ p, H p = none → Q (.ref p) (upd H p (.tup vs)) := fun p hp =>
  h (g.add p (.tup vs)) _ _ (Ext.add s hp _) (s.add hp _) ⟨p, vs, rfl, .of add_at, r.mono (Ext.add s hp _)⟩
end
/-! ### argument lists, displays -/
def wNil : WA := fun _ cs Q => Q [] cs
def wCons (wa : WE) (wr : WA) : WA := fun env cs Q => wa env cs fun d cs1 => wr env cs1 fun ds cs2 => Q (d :: ds) cs2
theorem da_nil : DA X [] wNil := ⟨PA.imp pa_nil fun σ H Q ⟨g, cs, env, s, l, h⟩ => h g H [] (Ext.refl g) s rfl, fun _ cs _ _ h q => h _ _ q⟩
theorem da_cons {es : List Expr} {wr : WA} (ha : DE X a wa) (hr : DA X es wr) (hs : starEach (a :: es) X.env = (false, eval a X.env) :: starEach es X.env := by rfl) : DA X (a :: es) (wCons wa wr) :=
  ⟨PA.imp (pa_cons ha.pe hr.pe hs) fun σ H Q ⟨g, cs, env, s, l, h⟩ => lowE.go ha.mo s l h fun d1 cs1 g1 H1 v1 h1 e1 s1 r1 => lowA.go hr.mo s1 (l.mono e1) h1 fun ds cs2 g2 H2 vs h2 e2 s2 r2 => h2 g2 H2 _ (e1.trans e2) s2 (.cons (r1.mono e2) r2),
    fun env cs Q Q' h q => ha.mo env cs _ _ (fun d1 cs1 q1 => hr.mo env cs1 _ _ (fun _ _ q2 => h _ _ q2) q1) q⟩
def wTup (w : WA) : WE := fun env cs Q => w env cs fun ds cs' => ds.length ≤ sizeLine ∧ Q (.tup ds) cs'
def wLst (w : WA) : WE := fun env cs Q => w env cs fun ds cs' => ds.length ≤ sizeLine ∧ Q (.lst ds) cs'
theorem de_tup {es : List Expr} {x1} {w : WA} (h : DA X es w) : DE X (.Tuple es x1 pos) (wTup w) :=
  ⟨PE.imp (pe_tup h.pe) fun σ H Q ⟨g, cs, env, s, l, hw⟩ => lowA.go h.mo s l hw fun ds cs1 g1 H1 vs ⟨hz, h1⟩ e1 s1 r1 => ⟨by rw [← r1.length]; exact hz, new_tup s1 r1 (upV.mono e1 h1)⟩,
    fun env cs Q Q' hq q => h.mo env cs _ _ (fun ds cs1 ⟨z, q1⟩ => ⟨z, hq _ _ q1⟩) q⟩
theorem de_lst {es : List Expr} {w : WA} (h : DA X es w) : DE X (.List es pos) (wLst w) :=
  ⟨PE.imp (pe_lst h.pe) fun σ H Q ⟨g, cs, env, s, l, hw⟩ => lowA.go h.mo s l hw fun ds cs1 g1 H1 vs ⟨hz, h1⟩ e1 s1 r1 => ⟨by rw [← r1.length]; exact hz, new_lst s1 r1 (upV.mono e1 h1)⟩,
    fun env cs Q Q' hq q => h.mo env cs _ _ (fun ds cs1 ⟨z, q1⟩ => ⟨z, hq _ _ q1⟩) q⟩
/-- a list that will change -/
def wCel (w : WA) : WE := fun env cs Q => w env cs fun ds cs' => ds.length ≤ sizeLine ∧ Q (.cell cs'.length) (cs' ++ [.lst ds])
theorem de_cel {es : List Expr} {w : WA} (h : DA X es w) : DE X (.List es pos) (wCel w) :=
  ⟨PE.imp (pe_lst h.pe) fun σ H Q ⟨g, cs, env, s, l, hw⟩ => lowA.go h.mo s l hw fun ds cs1 g1 H1 vs ⟨hz, h1⟩ e1 s1 r1 => ⟨by rw [← r1.length]; exact hz, fun p hp => h1 (g1.cel p) _ _ (e1.trans (Ext.cel p)) (s1.cel hp ⟨vs, upd_same, r1.mono (Ext.cel p), s1.free hp⟩) ⟨p, rfl, by
      rw [← s1.len]
      show (g1.as ++ [p])[g1.as.length]? = some p
      simp⟩⟩,
    fun env cs Q Q' hq q => h.mo env cs _ _ (fun ds cs1 ⟨z, q1⟩ => ⟨z, hq _ _ q1⟩) q⟩
/-! ### truth, and, or, not -/
def truOf (cs : Sto) : D → Option Bool
  | .non => some false
  | .bl b => some b
  | .int i => some (i != 0)
  | .str y => some ((y.length : Int) != 0)
  | .dic kvs => some (!kvs.isEmpty)
  | d => (seqOf cs d).map fun ds => !ds.isEmpty
def truSz : D → Prop
  | .str y => y.length ≤ sizeLine
  | _ => True
def oTru (d : D) (cs : Sto) (Q : Bool → Sto → Prop) : Prop := ∃ b, truOf cs d = some b ∧ truSz d ∧ Q b cs
section
variable {K : PySem.W.Frag} {g : G} {cs : Sto} {H : Hp}
theorem RepL.isEmpty {ds : List D} {vs : List V} (r : RepL K g ds vs) : ds.isEmpty = vs.isEmpty := by
  have := r.length
  cases ds <;> cases vs <;> simp_all
theorem tru_of (s : Sr K g cs H) {d : D} {v : V} {b : Bool} (h : truOf cs d = some b) (hz : truSz d) (r : Rep K g d v) : TruV K v H b := by
  have sq : ∀ {d : D}, (∀ v, Rep K g d v → Rep K g d v) → (seqOf cs d).map (fun ds => !ds.isEmpty) = some b → Rep K g d v → TruV K v H b := fun {d} _ h r => by
    cases e : seqOf cs d with
    | none => rw [e] at h; cases h
    | some ds =>
      rw [e] at h
      simp only [Option.map_some, Option.some.injEq] at h
      obtain ⟨a, vs, e1, h1, h2⟩ := seq_of s e r
      subst e1
      rcases h1 with h1 | h1
      · exact .inl ⟨vs, h1, by rw [← h, h2.isEmpty]⟩
      · exact .inr (.inl ⟨vs, h1, by rw [← h, h2.isEmpty]⟩)
  unfold truOf at h
  cases d with
  | non => cases r; cases h; rfl
  | bl b => cases r; cases h; rfl
  | int i => cases r; cases h; rfl
  | str y => cases r; cases h; exact ⟨hz, rfl⟩
  | dic kvs =>
    obtain ⟨a, vs, e1, h1, h2⟩ := r
    subst e1
    cases h
    refine .inr (.inr ⟨vs, s.le _ _ h1, ?_⟩)
    cases kvs with
    | nil =>
      have : vs = [] := h2
      subst this
      rfl
    | cons p r =>
      obtain ⟨k, d⟩ := p
      obtain ⟨v, r', e, _⟩ := h2
      subst e
      rfl
  | tup ds => exact sq (fun _ h => h) h r
  | lst ds => exact sq (fun _ h => h) h r
  | cell i => exact sq (fun _ h => h) h r
  | ty n => cases h
  | ref a => cases h
  | obj C fs => cases h
  | scr ns => cases h
end
def wTruD (w : WE) : WT := fun env cs Q => w env cs fun d cs' => oTru d cs' Q
theorem wTruD.mo {w : WE} (h : MonoE w) : MonoT (wTruD w) := fun env cs Q Q' hq q => h env cs _ _ (fun d cs' ⟨b, e, z, q⟩ => ⟨b, e, z, hq _ _ q⟩) q
theorem low_tru {w : WE} (m : MonoE w) {K : PySem.W.Frag} {σ : L2.St} {H : Hp} {Q : Bool → Hp → Prop} (h : lowT K (wTruD w) σ H Q) : lowE K w σ H fun x H' => ∃ k, TruV K x H' k ∧ Q k H' := by
  obtain ⟨g, cs, env, s, l, h⟩ := h
  refine lowE.go m s l h fun d cs1 g1 H1 v1 ⟨b, e, z, h1⟩ e1 s1 r1 => ⟨b, tru_of s1 e z r1, h1 g1 H1 e1 s1⟩
theorem dt_tru {w : WE} (ha : DE X a w) (he : ∀ whole, isTrue a X.env whole = (do let v ← whole; standAt a.pos; holding [v] (truthy v)) := by intro _; rfl) : DT X a (wTruD w) :=
  ⟨PT.imp (pt_truth ha.pe he) fun σ H Q h => low_tru ha.mo h, wTruD.mo ha.mo⟩
def wAnd (t u : WT) : WT := fun env cs Q => t env cs fun c cs1 => if c = true then u env cs1 Q else Q false cs1
def wOr (t u : WT) : WT := fun env cs Q => t env cs fun c cs1 => if c = true then Q true cs1 else u env cs1 Q
def wNotD (t : WT) : WT := fun env cs Q => t env cs fun c cs1 => Q (!c) cs1
theorem ite_mono {c : Prop} [Decidable c] {A B A' B' : Prop} (h1 : A → A') (h2 : B → B') (h : if c then A else B) : if c then A' else B' := by
  by_cases hc : c
  · rw [if_pos hc] at h ⊢
    exact h1 h
  · rw [if_neg hc] at h ⊢
    exact h2 h
section
variable {t u : WT} {rest : List Expr}
theorem dw_and1 (ha : DT X a t) : DW X (.BoolOp .And [a] pos) t := ⟨pw_and1 ha.pe, ha.mo⟩
theorem dw_or1 (ha : DT X a t) : DW X (.BoolOp .Or [a] pos) t := ⟨pw_or1 ha.pe, ha.mo⟩
theorem dw_and (ha : DT X a t) (hb : DW X (.BoolOp .And (b :: rest) pos) u) : DW X (.BoolOp .And (a :: b :: rest) pos) (wAnd t u) :=
  ⟨PW.imp (pw_and ha.pe hb.pe) fun σ H Q ⟨g, cs, env, s, l, h⟩ => lowT.go ha.mo s l h fun c cs1 g1 H1 h1 e1 s1 => ite_mono (fun h1 => lowT.go hb.mo s1 (l.mono e1) h1 fun c2 cs2 g2 H2 h2 e2 s2 => h2 g2 H2 (e1.trans e2) s2) (fun h1 => h1 g1 H1 e1 s1) h1,
    fun env cs Q Q' h q => ha.mo env cs _ _ (fun c cs1 q1 => ite_mono (fun q1 => hb.mo env cs1 _ _ h q1) (fun q1 => h _ _ q1) q1) q⟩
theorem dw_or (ha : DT X a t) (hb : DW X (.BoolOp .Or (b :: rest) pos) u) : DW X (.BoolOp .Or (a :: b :: rest) pos) (wOr t u) :=
  ⟨PW.imp (pw_or ha.pe hb.pe) fun σ H Q ⟨g, cs, env, s, l, h⟩ => lowT.go ha.mo s l h fun c cs1 g1 H1 h1 e1 s1 => ite_mono (fun h1 => h1 g1 H1 e1 s1) (fun h1 => lowT.go hb.mo s1 (l.mono e1) h1 fun c2 cs2 g2 H2 h2 e2 s2 => h2 g2 H2 (e1.trans e2) s2) h1,
    fun env cs Q Q' h q => ha.mo env cs _ _ (fun c cs1 q1 => ite_mono (fun q1 => h _ _ q1) (fun q1 => hb.mo env cs1 _ _ h q1) q1) q⟩
theorem dt_of (h : DW X a t) : DT X a t := ⟨h.pe.pt, h.mo⟩
theorem dt_not (ha : DT X a t) : DT X (.UnaryOp .Not a pos) (wNotD t) :=
  ⟨PT.imp (pt_not ha.pe) fun σ H Q ⟨g, cs, env, s, l, h⟩ => lowT.go ha.mo s l h fun c cs1 g1 H1 h1 e1 s1 => h1 g1 H1 e1 s1,
    fun env cs Q Q' h q => ha.mo env cs _ _ (fun c cs1 q1 => h _ _ q1) q⟩
/-- .. as values -/
def wAndV (wa wb : WE) : WE := fun env cs Q => wa env cs fun d cs1 => oTru d cs1 fun c cs2 => if c = true then wb env cs2 Q else Q d cs2
def wOrV (wa wb : WE) : WE := fun env cs Q => wa env cs fun d cs1 => oTru d cs1 fun c cs2 => if c = true then Q d cs2 else wb env cs2 Q
def wNotV (wa : WE) : WE := fun env cs Q => wa env cs fun d cs1 => oTru d cs1 fun c cs2 => Q (.bl (!c)) cs2
theorem de_one {op} (h : DE X a wa) : DE X (.BoolOp op [a] pos) wa := ⟨pe_one h.pe, h.mo⟩
theorem de_and (ha : DE X a wa) (hb : DE X (.BoolOp .And (b :: rest) pos) wb) : DE X (.BoolOp .And (a :: b :: rest) pos) (wAndV wa wb) :=
  ⟨PE.imp (pe_andT ha.pe hb.pe) fun σ H Q ⟨g, cs, env, s, l, h⟩ => lowE.go ha.mo s l h fun d1 cs1 g1 H1 v1 ⟨k, q1, z, h1⟩ e1 s1 r1 => ⟨k, tru_of s1 q1 z r1, ite_mono (fun h1 => lowE.go hb.mo s1 (l.mono e1) h1 fun d2 cs2 g2 H2 v2 h2 e2 s2 r2 => h2 g2 H2 v2 (e1.trans e2) s2 r2) (fun h1 => h1 g1 H1 v1 e1 s1 r1) h1⟩,
    fun env cs Q Q' h q => ha.mo env cs _ _ (fun d cs1 ⟨k, q1, z, q2⟩ => ⟨k, q1, z, ite_mono (fun q => hb.mo env cs1 _ _ h q) (fun q => h _ _ q) q2⟩) q⟩
theorem de_or (ha : DE X a wa) (hb : DE X (.BoolOp .Or (b :: rest) pos) wb) : DE X (.BoolOp .Or (a :: b :: rest) pos) (wOrV wa wb) :=
  ⟨PE.imp (pe_orT ha.pe hb.pe) fun σ H Q ⟨g, cs, env, s, l, h⟩ => lowE.go ha.mo s l h fun d1 cs1 g1 H1 v1 ⟨k, q1, z, h1⟩ e1 s1 r1 => ⟨k, tru_of s1 q1 z r1, ite_mono (fun h1 => h1 g1 H1 v1 e1 s1 r1) (fun h1 => lowE.go hb.mo s1 (l.mono e1) h1 fun d2 cs2 g2 H2 v2 h2 e2 s2 r2 => h2 g2 H2 v2 (e1.trans e2) s2 r2) h1⟩,
    fun env cs Q Q' h q => ha.mo env cs _ _ (fun d cs1 ⟨k, q1, z, q2⟩ => ⟨k, q1, z, ite_mono (fun q => h _ _ q) (fun q => hb.mo env cs1 _ _ h q) q2⟩) q⟩
theorem de_not (ha : DE X a wa) : DE X (.UnaryOp .Not a pos) (wNotV wa) :=
  ⟨PE.imp (pe_notT ha.pe) fun σ H Q ⟨g, cs, env, s, l, h⟩ => lowE.go ha.mo s l h fun d1 cs1 g1 H1 v1 ⟨k, q1, z, h1⟩ e1 s1 r1 => ⟨k, tru_of s1 q1 z r1, h1 g1 H1 _ e1 s1 rfl⟩,
    fun env cs Q Q' h q => ha.mo env cs _ _ (fun d cs1 ⟨k, q1, z, q2⟩ => ⟨k, q1, z, h _ _ q2⟩) q⟩
def wIf (t : WT) (wa wb : WE) : WE := fun env cs Q => t env cs fun c cs1 => if c = true then wa env cs1 Q else wb env cs1 Q
theorem de_if (hc : DT X c t) (ha : DE X a wa) (hb : DE X b wb) : DE X (.IfExp c a b pos) (wIf t wa wb) :=
  ⟨PE.imp (pe_ifExp hc.pe ha.pe hb.pe) fun σ H Q ⟨g, cs, env, s, l, h⟩ => lowT.go hc.mo s l h fun c cs1 g1 H1 h1 e1 s1 => ite_mono (fun h1 => lowE.go ha.mo s1 (l.mono e1) h1 fun d2 cs2 g2 H2 v2 h2 e2 s2 r2 => h2 g2 H2 v2 (e1.trans e2) s2 r2) (fun h1 => lowE.go hb.mo s1 (l.mono e1) h1 fun d2 cs2 g2 H2 v2 h2 e2 s2 r2 => h2 g2 H2 v2 (e1.trans e2) s2 r2) h1,
    fun env cs Q Q' h q => hc.mo env cs _ _ (fun c cs1 q1 => ite_mono (fun q1 => ha.mo env cs1 _ _ h q1) (fun q1 => hb.mo env cs1 _ _ h q1) q1) q⟩
end
end
end DL

/-! DStmts: statements, targets, loops, comprehensions, defs, over data. -/
namespace DL
open PySem PySem.Spec L2

section
variable {X : Cx} {a b c : Expr} {wa wb wc : WE} {pos : Pos} {st : Stmt} {rest : List Stmt} {w u : WS}
/-! ### blocks -/
def wNext : WS := fun E env cs => E.nx env cs
def wSeq (w u : WS) : WS := fun E env cs => w { E with nx := fun env' cs' => u E env' cs' } env cs
theorem wNext.mo : MonoS wNext := fun E E' env cs h q => h.nx _ _ q
theorem wSeq.mo (hw : MonoS w) (hu : MonoS u) : MonoS (wSeq w u) := fun E E' env cs h q => hw { E with nx := fun env' cs' => u E env' cs' } { E' with nx := fun env' cs' => u E' env' cs' } env cs ⟨fun env cs q => hu E E' env cs h q, h.rt, h.bk, h.ct⟩ q
theorem dss_nil : DSs X [] wNext := ⟨PSs.imp pss_nil fun D σ H ⟨g, cs, env, s, l, h⟩ => h g H σ (Ext.refl g) s l, wNext.mo⟩
theorem low_seq (hw : MonoS w) (hu : MonoS u) {K : PySem.W.Frag} {D : Ends} {σ : L2.St} {H : Hp} (h : lowS K (wSeq w u) D σ H) : lowS K w { D with nx := fun σ H => lowS K u D σ H } σ H := by
  obtain ⟨g, cs, env, s, l, h⟩ := h
  refine lowS.go hw s l h ⟨fun env' cs' q g' H' σ' e s' l' => ?_, fun _ _ q => q, fun _ _ q => q, fun _ _ q => q⟩
  exact lowS.go hu s' l' q (upN.mono e D)
theorem dss_cons (h1 : DS X st w) (h2 : DSs X rest u) : DSs X (st :: rest) (wSeq w u) := ⟨PSs.imp (pss_cons h1.pe h2.pe) fun D σ H h => low_seq h1.mo h2.mo h, wSeq.mo h1.mo h2.mo⟩
theorem dss_one (h1 : DS X st w) : DSs X [st] w := ⟨pss_one h1.pe, h1.mo⟩
def wBreak : WS := fun E env cs => E.bk env cs
def wCont : WS := fun E env cs => E.ct env cs
theorem ds_pass : DS X (.Pass pos) wNext := ⟨PS.imp ps_pass fun D σ H ⟨g, cs, env, s, l, h⟩ => h g H σ (Ext.refl g) s l, wNext.mo⟩
theorem ds_doc {x j pos'} : DS X (.Expr (.Constant (.str x) j pos) pos') wNext := ⟨PS.imp ps_doc fun D σ H ⟨g, cs, env, s, l, h⟩ => h g H σ (Ext.refl g) s l, wNext.mo⟩
theorem ds_break : DS X (.Break pos) wBreak := ⟨PS.imp ps_break fun D σ H ⟨g, cs, env, s, l, h⟩ => h g H σ (Ext.refl g) s l, fun E E' env cs h q => h.bk _ _ q⟩
theorem ds_continue : DS X (.Continue pos) wCont := ⟨PS.imp ps_continue fun D σ H ⟨g, cs, env, s, l, h⟩ => h g H σ (Ext.refl g) s l, fun E E' env cs h q => h.ct _ _ q⟩
def wDrop (we : WE) : WS := fun E env cs => we env cs fun _ cs' => E.nx env cs'
theorem ds_expr (he : DE X a wa) (hs : swapsWith a none pos.line X.env = pure false := by rfl) : DS X (.Expr a pos) (wDrop wa) :=
  ⟨PS.imp (ps_expr he.pe hs) fun D σ H ⟨g, cs, env, s, l, h⟩ => lowE.go he.mo s l h fun d cs1 g1 H1 v1 h1 e1 s1 r1 => h1 g1 H1 σ e1 s1 (l.mono e1),
    fun E E' env cs h q => he.mo env cs _ _ (fun _ _ q => h.nx _ _ q) q⟩
def wRet (we : WE) : WS := fun E env cs => we env cs E.rt
theorem ds_ret (he : DE X a wa) : DS X (.Return (some a) pos) (wRet wa) :=
  ⟨PS.imp (ps_ret he.pe) fun D σ H ⟨g, cs, env, s, l, h⟩ => lowE.go he.mo s l h fun d cs1 g1 H1 v1 h1 e1 s1 r1 => h1 g1 H1 v1 e1 s1 r1,
    fun E E' env cs h q => he.mo env cs _ _ (fun _ _ q => h.rt _ _ q) q⟩
def wRetN : WS := fun E _ cs => E.rt .non cs
theorem ds_retN : DS X (.Return none pos) wRetN := ⟨PS.imp ps_retN fun D σ H ⟨g, cs, env, s, l, h⟩ => h g H _ (Ext.refl g) s rfl, fun E E' env cs h q => h.rt _ _ q⟩
def wIfS (t : WT) (w u : WS) : WS := fun E env cs => t env cs fun b cs1 => if b = true then w E env cs1 else u E env cs1
theorem ds_if {t : WT} {p q : List Stmt} (hc : DT X c t) (hp : DSs X p w) (hq : DSs X q u) : DS X (.If c p q pos) (wIfS t w u) :=
  ⟨PS.imp (ps_if hc.pe hp.pe hq.pe) fun D σ H ⟨g, cs, env, s, l, h⟩ => lowT.go hc.mo s l h fun k cs1 g1 H1 h1 e1 s1 => ite_mono (fun h1 => lowS.go hp.mo s1 (l.mono e1) h1 (upN.mono e1 D)) (fun h1 => lowS.go hq.mo s1 (l.mono e1) h1 (upN.mono e1 D)) h1,
    fun E E' env cs h x => hc.mo env cs _ _ (fun k cs1 q1 => ite_mono (fun y => hp.mo _ _ _ _ h y) (fun y => hq.mo _ _ _ _ h y) q1) x⟩
def wNever : WS := fun _ _ _ => False
theorem ds_never : DS X st wNever := ⟨PS.imp ps_never fun D σ H ⟨g, cs, env, s, l, h⟩ => h, fun _ _ _ _ _ h => h⟩
theorem dss_never {sts : List Stmt} : DSs X sts wNever := ⟨PSs.imp pss_never fun D σ H ⟨g, cs, env, s, l, h⟩ => h, fun _ _ _ _ _ h => h⟩
/-! ### names stored -/
def wSet (i : Nat) (we : WE) : WS := fun E env cs => we env cs fun d cs' => E.nx (env.set i (some d)) cs'
theorem wSet.mo {i : Nat} (h : MonoE wa) : MonoS (wSet i wa) := fun E E' env cs hE q => h env cs _ _ (fun _ _ q => hE.nx _ _ q) q
theorem low_set {i : Nat} (m : MonoE wa) {K : PySem.W.Frag} {D : Ends} {σ : L2.St} {H : Hp} (h : lowS K (wSet i wa) D σ H) : lowE K wa σ H fun x H1 => gName i x σ H1 D.nx := by
  obtain ⟨g, cs, env, s, l, h⟩ := h
  exact lowE.go m s l h fun d cs1 g1 H1 v1 h1 e1 s1 r1 => h1 g1 H1 _ e1 s1 ((l.mono e1).set r1)
theorem ds_set {i : Nat} {x : Str} {pos' : Pos} (hN : X.N.Nodup) (he : DE X a wa) (hi : X.N[i]? = some x := by rfl) (hx : Loc X.env.scope x := by first | exact Or.inl rfl | exact Or.inr rfl) (hs : swapsWith a (some (.Name x pos')) pos.line X.env = pure false := by rfl) (hf : X.fn x = true ∨ X.env.scope.names.lookup x = some .local := by first | exact .inl rfl | exact .inr rfl | assumption) :
    DS X (.Assign [.Name x pos'] a pos) (wSet i wa) := ⟨PS.imp (ps_set hN hi hx he.pe hs hf) fun D σ H h => low_set he.mo h, wSet.mo he.mo⟩
def wPar (i j : Nat) (w : WA) : WS := fun E env cs => w env cs fun ds cs' => match ds with
  | [d, e] => E.nx ((env.set i (some d)).set j (some e)) cs'
  | _ => False
theorem ds_par {i j : Nat} {x y : Str} {wA : WA} {px py pt : Pos} {kt k2 pt2} (hc : X.calm = true) (hN : X.N.Nodup) (ha : DA X [a, b] wA) (hi : X.N[i]? = some x := by rfl) (hj : X.N[j]? = some y := by rfl) (hij : i ≠ j := by decide)
    (hx : X.env.scope.names.lookup x = some .local := by rfl) (hy : X.env.scope.names.lookup y = some .local := by rfl)
    (hw : swappedStores [.Tuple [.Name x px, .Name y py] kt pt] (.Tuple [a, b] k2 pt2) X.env = pure (some [x, y]) := by rfl)
    (hs : swapsWithSole [.Tuple [.Name x px, .Name y py] kt pt] (.Tuple [a, b] k2 pt2) pos.line X.env = pure false := by rfl) :
    DS X (.Assign [.Tuple [.Name x px, .Name y py] kt pt] (.Tuple [a, b] k2 pt2) pos) (wPar i j wA) := by
  refine ⟨PS.imp (ps_par hc hN hi hj hij hx hy ha.pe hw hs) fun D σ H ⟨g, cs, env, s, l, h⟩ => lowA.go ha.mo s l h fun ds cs1 g1 H1 vs h1 e1 s1 r1 => ?_, fun E E' env cs h q => ha.mo env cs _ _ (fun ds cs' q => ?_) q⟩
  · match ds, h1, r1 with
    | [d, e], h1, r1 =>
      obtain ⟨v, r, ev, q1, v2, r', ev2, q2, q3⟩ := r1
      have q3' : r' = [] := q3
      subst ev ev2 q3'
      exact ⟨v, v2, rfl, h1 g1 H1 _ e1 s1 (((l.mono e1).set q1).set q2)⟩
  · match ds, q with
    | [d, e], q => exact h.nx _ _ q
def wPar3 (i j k : Nat) (w : WA) : WS := fun E env cs => w env cs fun ds cs' => match ds with
  | [d, e, f] => E.nx (((env.set i (some d)).set j (some e)).set k (some f)) cs'
  | _ => False
theorem ds_par3 {i j k : Nat} {x y z : Str} {d : Expr} {wA : WA} {px py pz pt : Pos} {kt k2 pt2} (hc : X.calm = true) (hN : X.N.Nodup) (ha : DA X [a, b, d] wA) (hi : X.N[i]? = some x := by rfl) (hj : X.N[j]? = some y := by rfl) (hk : X.N[k]? = some z := by rfl) (hij : i ≠ j := by decide) (hik : i ≠ k := by decide) (hjk : j ≠ k := by decide)
    (hx : X.env.scope.names.lookup x = some .local := by rfl) (hy : X.env.scope.names.lookup y = some .local := by rfl) (hz : X.env.scope.names.lookup z = some .local := by rfl)
    (hw : swappedStores [.Tuple [.Name x px, .Name y py, .Name z pz] kt pt] (.Tuple [a, b, d] k2 pt2) X.env = pure (some [x, y, z]) := by rfl)
    (hs : swapsWithSole [.Tuple [.Name x px, .Name y py, .Name z pz] kt pt] (.Tuple [a, b, d] k2 pt2) pos.line X.env = pure false := by rfl) :
    DS X (.Assign [.Tuple [.Name x px, .Name y py, .Name z pz] kt pt] (.Tuple [a, b, d] k2 pt2) pos) (wPar3 i j k wA) := by
  refine ⟨PS.imp (ps_par3 hc hN hi hj hk hij hik hjk hx hy hz ha.pe hw hs) fun D σ H ⟨g, cs, env, s, l, h⟩ => lowA.go ha.mo s l h fun ds cs1 g1 H1 vs h1 e1 s1 r1 => ?_, fun E E' env cs h q => ha.mo env cs _ _ (fun ds cs' q => ?_) q⟩
  · match ds, h1, r1 with
    | [d, e, f], h1, r1 =>
      obtain ⟨v, r, ev, q1, v2, r', ev2, q2, v3, r'', ev3, q3, q4⟩ := r1
      have q4' : r'' = [] := q4
      subst ev ev2 ev3 q4'
      exact ⟨v, v2, v3, rfl, h1 g1 H1 _ e1 s1 ((((l.mono e1).set q1).set q2).set q3)⟩
  · match ds, q with
    | [d, e, f], q => exact h.nx _ _ q
/-! ### patterns -/
inductive Pat where
  | nm (i : Nat) | tp (ps : List Pat)
mutual
def gOf (K : PySem.W.Frag) : Pat → TG
  | .nm i => gName i
  | .tp ps => fun v σ H Q => ∃ a xs, v = .ref a ∧ (SqT K H a xs ∨ SqL K H a xs) ∧ xs.length = ps.length ∧ gsOf K ps xs σ H Q
def gsOf (K : PySem.W.Frag) : List Pat → TGs
  | [] => gNil
  | p :: ps => gCons (gOf K p) (gsOf K ps)
end
/-! what a pattern stores -/
mutual
def patSet (cs : Sto) : Pat → D → En → Option En
  | .nm i, d, env => some (env.set i (some d))
  | .tp ps, d, env => match seqOf cs d with
    | some ds => if ds.length = ps.length then patSets cs ps ds env else none
    | none => none
def patSets (cs : Sto) : List Pat → List D → En → Option En
  | [], _, env => some env
  | p :: ps, d :: ds, env => match patSet cs p d env with
    | some env' => patSets cs ps ds env'
    | none => none
  | _ :: _, [], _ => none
end
mutual
def slots : Pat → List Nat
  | .nm i => [i]
  | .tp ps => slotsAll ps
def slotsAll : List Pat → List Nat
  | [] => []
  | p :: ps => slots p ++ slotsAll ps
end
structure DG (X : Cx) (tg : Expr) (p : Pat) : Prop where
  pg : PG X tg (gOf X.K p)
structure DGs (X : Cx) (tg : List Expr) (ps : List Pat) : Prop where
  pg : PGs X tg (gsOf X.K ps)
theorem dg_nm (i : Nat) {x : Str} (hN : X.N.Nodup) (hi : X.N[i]? = some x := by rfl) (hx : Loc X.env.scope x := by first | exact Or.inl rfl | exact Or.inr rfl) (hf : X.fn x = true ∨ X.env.scope.names.lookup x = some .local := by first | exact .inl rfl | exact .inr rfl | assumption) : DG X (.Name x pos) (.nm i) := ⟨pg_name hN hi hx hf⟩
theorem dgs_nil : DGs X [] [] := ⟨pgs_nil⟩
theorem dgs_cons {e : Expr} {es : List Expr} {p : Pat} {ps : List Pat} (h1 : DG X e p) (h2 : DGs X es ps) (hs : (assignEach (e :: es) X.env).map (·.2) = assign e X.env :: (assignEach es X.env).map (·.2) := by rfl) : DGs X (e :: es) (p :: ps) := ⟨pgs_cons h1.pg h2.pg hs⟩
theorem dg_tp {es : List Expr} {k : Nat} {ps : List Pat} (hc : X.calm = true) (h : DGs X es ps) (hn : (assignEach es X.env).length = ps.length := by rfl) (hst : (assignEach es X.env).findIdx? (·.1) = none := by rfl) : DG X (.Tuple es k pos) (.tp ps) := by
  refine ⟨⟨fun pins s σ H v u Q I r hw => ?_⟩⟩
  obtain ⟨a, xs, e1, hq, hl, hw⟩ := hw
  rcases hq with hq | hq
  · exact (pg_tup (n := ps.length) hc h.pg hn hst).run pins s σ H v u Q I r ⟨a, xs, e1, hq, hl, hw⟩
  · exact (pg_unl (n := ps.length) hc h.pg hn hst).run pins s σ H v u Q I r ⟨a, xs, e1, hq, hl, hw⟩
theorem wipe_set (σ : L2.St) (i : Nat) (x : Option V) : ∀ {vs : List Nat}, i ∈ vs → wipe (σ.set i x) vs = wipe σ vs
  | [], h => by cases h
  | v :: vs, h => by
    unfold wipe
    by_cases hv : i ∈ vs
    · rw [wipe_set σ i x hv]
    · have e : i = v := by
        rcases List.mem_cons.mp h with e | e
        · exact e
        · exact absurd e hv
      subst e
      have c : ∀ us : List Nat, i ∉ us → wipe (σ.set i x) us = (wipe σ us).set i x := by
        intro us
        induction us with
        | nil => intro _; rfl
        | cons k ks ih =>
          intro hk
          unfold wipe
          rw [ih (fun z => hk (List.mem_cons_of_mem _ z))]
          rw [List.set_comm _ _ (fun z => hk (by rw [z]; exact List.mem_cons_self))]
      rw [c vs hv, List.set_set]
section
variable {K : PySem.W.Frag} {g : G} {cs : Sto} {H : Hp}
mutual
theorem gOf_ok (s : Sr K g cs H) : ∀ (p : Pat) (d : D) (v : V) (env env' : En) (σ : L2.St) (Q : L2.St → Hp → Prop), Rep K g d v → Lr K g env σ → patSet cs p d env = some env' →
    (∀ σ', Lr K g env' σ' → (∀ vs, (∀ i ∈ slots p, i ∈ vs) → wipe σ' vs = wipe σ vs) → Q σ' H) → gOf K p v σ H Q
  | .nm i, d, v, env, env', σ, Q, r, l, h, k => by
    simp only [patSet, Option.some.injEq] at h
    subst h
    exact k _ (l.set r) fun vs hv => wipe_set σ i _ (hv i (by simp [slots]))
  | .tp ps, d, v, env, env', σ, Q, r, l, h, k => by
    unfold patSet at h
    cases e : seqOf cs d with
    | none => rw [e] at h; cases h
    | some ds =>
      rw [e] at h
      simp only at h
      split at h
      · rename_i hl
        obtain ⟨a, vs, e1, h1, h2⟩ := seq_of s e r
        refine ⟨a, vs, e1, ?_, by rw [← h2.length]; exact hl, gsOf_ok s ps ds vs env env' σ Q h2 hl l h fun σ' l' hw => k σ' l' fun us hu => hw us (by simpa [slots] using hu)⟩
        rcases h1 with h1 | h1
        · exact .inr h1
        · exact .inl h1
      · cases h
theorem gsOf_ok (s : Sr K g cs H) : ∀ (ps : List Pat) (ds : List D) (vs : List V) (env env' : En) (σ : L2.St) (Q : L2.St → Hp → Prop), RepL K g ds vs → ds.length = ps.length → Lr K g env σ → patSets cs ps ds env = some env' →
    (∀ σ', Lr K g env' σ' → (∀ us, (∀ i ∈ slotsAll ps, i ∈ us) → wipe σ' us = wipe σ us) → Q σ' H) → gsOf K ps vs σ H Q
  | [], ds, vs, env, env', σ, Q, r, hl, l, h, k => by
    have e : ds = [] := by cases ds <;> simp_all
    subst e
    have e2 : vs = [] := r
    subst e2
    simp only [patSets, Option.some.injEq] at h
    subst h
    exact ⟨rfl, k σ l fun _ _ => rfl⟩
  | p :: ps, [], vs, env, env', σ, Q, r, hl, l, h, k => by simp at hl
  | p :: ps, d :: ds, vs, env, env', σ, Q, r, hl, l, h, k => by
    obtain ⟨v, vr, e1, q1, q2⟩ := r
    subst e1
    unfold patSets at h
    cases e : patSet cs p d env with
    | none => rw [e] at h; cases h
    | some env1 =>
      rw [e] at h
      simp only at h
      refine ⟨v, vr, rfl, gOf_ok s p d v env env1 σ _ q1 l e fun σ1 l1 hw1 => ?_⟩
      exact gsOf_ok s ps ds vr env1 env' σ1 Q q2 (by simpa using hl) l1 h fun σ2 l2 hw2 => k σ2 l2 fun us hu => by
        rw [hw2 us (fun i hi => hu i (by simp [slotsAll, hi])), hw1 us (fun i hi => hu i (by simp [slotsAll, hi]))]
end
end
def wPat (p : Pat) (we : WE) : WS := fun E env cs => we env cs fun d cs' => match patSet cs' p d env with
  | some env' => E.nx env' cs'
  | none => False
theorem ds_pat {tg : Expr} {p : Pat} (hg : DG X tg p) (he : DE X a wa) (hs : swapsWithSole [tg] a pos.line X.env = pure false := by rfl) (hw : swappedStores [tg] a X.env = pure none := by rfl)
    (h1 : (assignEach [tg] X.env).map (·.2) = [assign tg X.env] := by rfl) : DS X (.Assign [tg] a pos) (wPat p wa) := by
  refine ⟨PS.imp (ps_asg he.pe hg.pg hs hw h1) fun D σ H ⟨g, cs, env, s, l, h⟩ => lowE.go he.mo s l h fun d cs1 g1 H1 v1 h1 e1 s1 r1 => ?_, fun E E' env cs h q => he.mo env cs _ _ (fun d cs' q => ?_) q⟩
  · split at h1
    · rename_i env' hp
      exact gOf_ok s1 p d v1 env env' σ _ r1 (l.mono e1) hp fun σ' l' _ => h1 g1 H1 σ' e1 s1 l'
    · exact h1.elim
  · split at q
    · exact h.nx _ _ q
    · exact q.elim
/-! ### x op= e -/
def wAug (i : Nat) (o : O2) (we : WE) : WS := fun E env cs => match env[i]? with
  | some (some x) => we env cs fun d cs1 => o x d cs1 fun z cs2 => E.nx (env.set i (some z)) cs2
  | _ => False
theorem ds_aug {i : Nat} {x : Str} {op : Operator} {o : O2} {pos' : Pos} (hN : X.N.Nodup) (ho : OpD X (inplaceOp op) o) (he : DE X a wa) (hi : X.N[i]? = some x := by rfl) (hx : Loc X.env.scope x := by first | exact Or.inl rfl | exact Or.inr rfl) (hf : X.fn x = true ∨ X.env.scope.names.lookup x = some .local := by first | exact .inl rfl | exact .inr rfl | assumption) :
    DS X (.AugAssign (.Name x pos') op a pos) (wAug i o wa) := by
  refine ⟨PS.imp (ps_aug hN hi hx he.pe (ti := lowO X.K o) (fun pins s σ H x y v u Q I r1 r2 h => ho.op pins s σ H x y v u Q I r1 r2 h) hf) fun D σ H ⟨g, cs, env, s, l, h⟩ => ?_, fun E E' env cs h q => ?_⟩
  · unfold wAug at h
    split at h
    · rename_i d e
      obtain ⟨v, q1, q2⟩ := l.ok i d e
      refine ⟨v, q1, lowE.go he.mo s l h fun d1 cs1 g1 H1 v1 h1 e1 s1 r1 => ⟨g1, cs1, d, d1, s1, q2.mono e1, r1, ho.mo _ _ _ _ _ (fun z cs2 q g2 H2 v2 e2 s2 r2 => ?_) h1⟩⟩
      exact q g2 H2 _ (e1.trans e2) s2 ((l.mono (e1.trans e2)).set r2)
    · exact h.elim
  · unfold wAug at q ⊢
    split at q
    · exact he.mo env cs _ _ (fun d cs1 q => ho.mo _ _ _ _ _ (fun z cs2 q => h.nx _ _ q) q) q
    · exact q
/-! ### what is walked -/
abbrev WI := En → Sto → (List D → (Sto → Prop) → Sto → Prop) → Prop
/-- J goes through ds, while what is known stays -/
def ItD (K : PySem.W.Frag) (g : G) (W : Sto → Prop) (J : It) (ds : List D) : Prop :=
  ∀ g' cs H, Sub g g' → Sr K g' cs H → W cs → (∀ i, ds.length ≤ i → J.stop i H) ∧
    ∀ i d, ds[i]? = some d → J.go i H ∧ ∀ x H', J.yld i H x H' → ∃ g2, Ext g' g2 ∧ Sr K g2 cs H' ∧ Rep K g2 d x
def lowI (K : PySem.W.Frag) (w : WI) : TI := fun σ H R => ∃ g cs env, Sr K g cs H ∧ Lr K g env σ ∧ w env cs fun ds W cs1 => ∀ g' H' J, Ext g g' → Sr K g' cs1 H' → ItD K g' W J ds → R J H'
abbrev MonoI (w : WI) : Prop := ∀ env cs Q Q', (∀ ds W cs, Q ds W cs → Q' ds W cs) → w env cs Q → w env cs Q'
structure DI (X : Cx) (tg e : Expr) (w : WI) : Prop where
  pe : PI X tg e (lowI X.K w)
  mo : MonoI w
section
variable {K : PySem.W.Frag}
theorem lowI.go {w : WI} (m : MonoI w) {g : G} {cs : Sto} {H : Hp} {env : En} {σ : L2.St} {P : List D → (Sto → Prop) → Sto → Prop} {R : It → Hp → Prop} (s : Sr K g cs H) (l : Lr K g env σ) (h : w env cs P)
    (k : ∀ ds W cs' g' H' J, P ds W cs' → Ext g g' → Sr K g' cs' H' → ItD K g' W J ds → R J H') : lowI K w σ H R :=
  ⟨g, cs, env, s, l, m env cs P _ (fun ds W cs' p g' H' J e s' i => k ds W cs' g' H' J p e s' i) h⟩
theorem itd_list {g : G} {W : Sto → Prop} {a : Addr} {ds : List D} {vs : List V} (h : g.Z a = some (.lst vs)) (r : RepL K g ds vs) : ItD K g W (Itl K a) ds := by
  intro g' cs' H e s _
  have h' : SqL K H a vs := .of (s.le _ _ (e.z _ _ h))
  refine ⟨fun i hi => ⟨vs, h', by rw [← r.length]; exact hi⟩, fun i d hd => ?_⟩
  obtain ⟨v, q1, q2⟩ := r.get hd
  refine ⟨⟨vs, v, h', q1⟩, fun x H' ⟨e1, q⟩ => ?_⟩
  subst e1
  have := q vs h'
  rw [q1] at this
  cases this
  exact ⟨g', Ext.refl _, s, Rep.sub e _ _ q2⟩
theorem itd_tup {g : G} {W : Sto → Prop} {a : Addr} {ds : List D} {vs : List V} (h : SqT K g.Z a vs) (r : RepL K g ds vs) : ItD K g W (Itt K a) ds := by
  intro g' cs' H e s _
  have h' : SqT K H a vs := sqT_mono s.le (sqT_mono e.z h)
  refine ⟨fun i hi => ⟨vs, h', by rw [← r.length]; exact hi⟩, fun i d hd => ?_⟩
  obtain ⟨v, q1, q2⟩ := r.get hd
  refine ⟨⟨vs, v, h', q1⟩, fun x H' ⟨e1, q⟩ => ?_⟩
  subst e1
  have := q vs h'
  rw [q1] at this
  cases this
  exact ⟨g', Ext.refl _, s, Rep.sub e _ _ q2⟩
/-- a changing list, as long as it stands as it is -/
theorem itd_cell {g : G} {n : Nat} {a : Addr} {ds : List D} (h : g.as[n]? = some a) : ItD K g (fun cs => cs[n]? = some (.lst ds)) (Itl K a) ds := by
  intro g' cs' H e s hw
  obtain ⟨vs, q1, r, q3⟩ := s.ok n a _ (e.at h) hw
  have h' : SqL K H a vs := .of q1
  refine ⟨fun i hi => ⟨vs, h', by rw [← r.length]; exact hi⟩, fun i d hd => ?_⟩
  obtain ⟨v, k1, k2⟩ := r.get hd
  refine ⟨⟨vs, v, h', k1⟩, fun x H' ⟨e1, q⟩ => ?_⟩
  subst e1
  have := q vs h'
  rw [k1] at this
  cases this
  exact ⟨g', Ext.refl _, s, k2⟩
def rngD (lo : Int) (n : Nat) : List D := (List.range n).map fun i => D.int (lo + (i : Nat))
theorem itd_range {g : G} {W : Sto → Prop} {lo : Int} {n : Nat} : ItD K g W (Itr lo n) (rngD lo n) := by
  intro g' cs' H e s _
  refine ⟨fun i hi => (show n ≤ i by simpa [rngD] using hi), fun i d hd => ?_⟩
  have hi : i < n := by
    have := (List.getElem?_eq_some_iff.mp hd).1
    simpa [rngD] using this
  have hd' : d = D.int (lo + (i : Nat)) := by
    have h2 : (rngD lo n)[i]? = some (D.int (lo + (i : Nat))) := by simp [rngD, hi]
    rw [h2] at hd
    cases hd
    rfl
  subst hd'
  refine ⟨hi, fun x H' ⟨e1, e2⟩ => ?_⟩
  subst e1 e2
  exact ⟨g', Ext.refl _, s, rfl⟩
end
/-- a list, a tuple that stays -/
def wAll : Sto → Prop := fun _ => True
def wCl (n : Nat) (ds : List D) : Sto → Prop := fun cs => cs[n]? = some (.lst ds)
def wSeqI (we : WE) : WI := fun env cs Q => we env cs fun d cs' => match d with
  | .lst ds => Q ds wAll cs'
  | .tup ds => Q ds wAll cs'
  | .cell n => ∃ ds, cs'[n]? = some (.lst ds) ∧ Q ds (wCl n ds) cs'
  | _ => False
theorem di_seq {tg : Expr} (he : DE X a wa) : DI X tg a (wSeqI wa) := by
  refine ⟨⟨fun pins s σ H R I h => ?_⟩, fun env cs Q Q' hq q => he.mo env cs _ _ (fun d cs' q => ?_) q⟩
  · obtain ⟨g, cs, env, sr, l, h⟩ := h
    -- the iterator of a list at p, of a tuple at p
    have goL : ∀ {s1 : Shared} {H1 : Hp} {p : Addr} {vs : List V}, Inv X pins σ H1 s1 → SqL X.K H1 p vs → R (Itl X.K p) H1 → wpAny (model X.prog X.w) X.A (pyIter (.ref p)) (PIE X pins σ tg R) X.xe s1 := fun {s1 H1 p vs} I1 hq hR => by
      obtain ⟨its, rv, pq, hz⟩ := I1.list hq
      refine wpAny_pyIter_list pq.isList ⟨_, [s1.heap.objs.size], _, _, H1, rfl, I1.kept (t' := s1.toks) fun b o e => Heap.get?_push_of_some _ e, turn_list p _, ⟨_, Heap.get?_push_size _ rfl, rfl, rfl⟩, fun b hb => ?_, hR⟩
      rw [List.mem_singleton.mp hb]
      exact I1.fpOk (Nat.le_refl _) (I1.hok.fresh (Nat.le_refl _))
    have goT : ∀ {s1 : Shared} {H1 : Hp} {p : Addr} {vs : List V}, Inv X pins σ H1 s1 → SqT X.K H1 p vs → R (Itt X.K p) H1 → wpAny (model X.prog X.w) X.A (pyIter (.ref p)) (PIE X pins σ tg R) X.xe s1 := fun {s1 H1 p vs} I1 hq hR => by
      obtain ⟨its, rv, pq, hz⟩ := I1.tuple hq
      refine wpAny_pyIter_tuple (show s1.heap.IsTuple p its.toArray from pq) ⟨_, [s1.heap.objs.size], _, _, H1, rfl, I1.kept (t' := s1.toks) fun b o e => Heap.get?_push_of_some _ e, turn_tuple p _, ⟨_, Heap.get?_push_size _ rfl, rfl, rfl⟩, fun b hb => ?_, hR⟩
      rw [List.mem_singleton.mp hb]
      exact I1.fpOk (Nat.le_refl _) (I1.hok.fresh (Nat.le_refl _))
    refine thn (he.pe.run pins s σ H (fun v H' => ∃ g' cs' d, Ext g g' ∧ Sr X.K g' cs' H' ∧ Rep X.K g' d v ∧ (match d with
        | .lst ds => (∀ g2 H2 J, Ext g g2 → Sr X.K g2 cs' H2 → ItD X.K g2 wAll J ds → R J H2)
        | .tup ds => (∀ g2 H2 J, Ext g g2 → Sr X.K g2 cs' H2 → ItD X.K g2 wAll J ds → R J H2)
        | .cell n => ∃ ds, cs'[n]? = some (.lst ds) ∧ (∀ g2 H2 J, Ext g g2 → Sr X.K g2 cs' H2 → ItD X.K g2 (wCl n ds) J ds → R J H2)
        | _ => False)) I
      (lowE.go he.mo sr l h fun d cs1 g1 H1 v1 h1 e1 s1 r1 => ⟨g1, cs1, d, e1, s1, r1, h1⟩)) fun u s1 ⟨v, H1, I1, r1, g1, cs1, d, e1, sr1, rd, h1⟩ => ?_
    cases d with
    | lst ds =>
      obtain ⟨p, vs, ev, q1, q2⟩ := rd
      subst ev
      cases (show u = Value.ref p from r1)
      exact goL I1 (.of (sr1.le _ _ q1)) (h1 g1 H1 _ e1 sr1 (itd_list q1 q2))
    | tup ds =>
      obtain ⟨p, vs, ev, q1, q2⟩ := rd
      subst ev
      cases (show u = Value.ref p from r1)
      exact goT I1 (sqT_mono sr1.le q1) (h1 g1 H1 _ e1 sr1 (itd_tup q1 q2))
    | cell n =>
      obtain ⟨p, ev, q1⟩ := rd
      subst ev
      cases (show u = Value.ref p from r1)
      obtain ⟨ds, hc, h1⟩ := h1
      obtain ⟨vs, k1, k2, k3⟩ := sr1.ok n p _ q1 hc
      exact goL I1 (.of k1) (h1 g1 H1 _ e1 sr1 (itd_cell q1))
    | _ => exact h1.elim
  · cases d <;> first | exact hq _ _ _ q | exact q | (obtain ⟨ds, hc, q⟩ := q; exact ⟨ds, hc, hq _ _ _ q⟩)
def wRng1 (w : WA) : WI := fun env cs Q => w env cs fun ds cs' => ∃ j : Int, ds = [.int j] ∧ -(2 ^ 62) ≤ j ∧ j < 2 ^ 62 ∧ Q (rngD 0 j.toNat) wAll cs'
def wRng2 (w : WA) : WI := fun env cs Q => w env cs fun ds cs' => ∃ i j : Int, ds = [.int i, .int j] ∧ (-(2 ^ 62) ≤ i ∧ i < 2 ^ 62 ∧ -(2 ^ 62) ≤ j ∧ j < 2 ^ 62) ∧ Q (rngD i (j - i).toNat) wAll cs'
theorem di_range1 {tg : Expr} {wA : WA} {p : Pos} (hm : X.mg "range" = none) (ha : DA X [a] wA) (hg : Gl X "range" := by rfl) (hs : starEach [a] X.env = [(false, eval a X.env)] := by rfl) : DI X tg (.Call (.Name "range" p) [a] [] pos) (wRng1 wA) := by
  refine ⟨⟨fun pins s σ H R I h => (pi_range1 hg hm ha.pe hs).run pins s σ H R I ?_⟩, fun env cs Q Q' hq q => ha.mo env cs _ _ (fun ds cs' ⟨j, q1, q2, q3, q4⟩ => ⟨j, q1, q2, q3, hq _ _ _ q4⟩) q⟩
  obtain ⟨g, cs, env, sr, l, h⟩ := h
  refine lowA.go ha.mo sr l h fun ds cs1 g1 H1 vs ⟨j, q1, q2, q3, q4⟩ e1 s1 r1 => ⟨j, ?_, q2, q3, q4 g1 H1 _ e1 s1 itd_range⟩
  subst q1
  exact RepL.ints (ns := [j]) r1
theorem di_range2 {tg : Expr} {wA : WA} {p : Pos} (hm : X.mg "range" = none) (ha : DA X [a, b] wA) (hg : Gl X "range" := by rfl) (hs : starEach [a, b] X.env = [(false, eval a X.env), (false, eval b X.env)] := by rfl) (hs2 : starEach [b] X.env = [(false, eval b X.env)] := by rfl) : DI X tg (.Call (.Name "range" p) [a, b] [] pos) (wRng2 wA) := by
  refine ⟨⟨fun pins s σ H R I h => (pi_range2 hg hm ha.pe hs hs2).run pins s σ H R I ?_⟩, fun env cs Q Q' hq q => ha.mo env cs _ _ (fun ds cs' ⟨i, j, q1, q2, q4⟩ => ⟨i, j, q1, q2, hq _ _ _ q4⟩) q⟩
  obtain ⟨g, cs, env, sr, l, h⟩ := h
  refine lowA.go ha.mo sr l h fun ds cs1 g1 H1 vs ⟨i, j, q1, q2, q4⟩ e1 s1 r1 => ⟨i, j, ?_, q2, q4 g1 H1 _ e1 s1 itd_range⟩
  subst q1
  exact RepL.ints (ns := [i, j]) r1
/-! ### for -/
/-- W: what must hold at each turn, and at the end -/
def floop (p : Pat) (wb : WS) (E : DN) (W : Sto → Prop) : List D → En → Sto → Prop
  | [], env, cs => W cs ∧ E.nx env cs
  | d :: ds, env, cs => W cs ∧ match patSet cs p d env with
    | some env' => wb { E with nx := floop p wb E W ds, ct := floop p wb E W ds, bk := E.nx } env' cs
    | none => False
theorem floop.mo {p : Pat} {wb : WS} {W : Sto → Prop} (hb : MonoS wb) {E E' : DN} (h : DN.le E E') : ∀ (ds : List D) (env : En) (cs : Sto), floop p wb E W ds env cs → floop p wb E' W ds env cs
  | [], env, cs, q => ⟨q.1, h.nx _ _ q.2⟩
  | d :: ds, env, cs, q => by
    unfold floop at q ⊢
    obtain ⟨q0, q⟩ := q
    refine ⟨q0, ?_⟩
    split at q
    · exact hb { E with nx := floop p wb E W ds, ct := floop p wb E W ds, bk := E.nx } { E' with nx := floop p wb E' W ds, ct := floop p wb E' W ds, bk := E'.nx } _ _ ⟨fun env cs q => floop.mo hb h ds env cs q, h.rt, h.nx, fun env cs q => floop.mo hb h ds env cs q⟩ q
    · exact q
def wFor (wi : WI) (p : Pat) (wb : WS) : WS := fun E env cs => wi env cs fun ds W cs1 => floop p wb E W ds env cs1
theorem ds_for {tg : Expr} {body : List Stmt} {wi : WI} {p : Pat} {wb : WS} (hp : PassesOwn (model X.prog X.w) X.A X.env X.xe) (hc : X.calm = true) (hi : DI X tg a wi) (hg : DG X tg p) (hb : DSs X body wb)
    (hs : ∀ x, foldedSetIterable a X.env x = pure x := by intro _; rfl) : DS X (.For tg a body [] pos) (wFor wi p wb) := by
  refine ⟨PS.imp (ps_for hp hc hi.pe hg.pg hb.pe hs) fun D σ H ⟨g, cs, env, s, l, h⟩ => lowI.go hi.mo s l h fun ds W cs1 g1 H1 J h1 e1 s1 hJ => ?_, fun E E' env cs h q => hi.mo env cs _ _ (fun ds W cs1 q => floop.mo hb.mo h ds env cs1 q) q⟩
  refine ⟨fun i m σ H => m = ds.length - i ∧ i ≤ ds.length ∧ ∃ g2 cs2 env2, Ext g1 g2 ∧ Sr X.K g2 cs2 H ∧ Lr X.K g2 env2 σ ∧ floop p wb (upN X.K g D) W (ds.drop i) env2 cs2,
    ⟨ds.length, by simp, Nat.zero_le _, g1, cs1, env, Ext.refl _, s1, l.mono e1, by simpa using h1⟩, ?_⟩
  rintro i m σ2 H2 ⟨rfl, hi', g2, cs2, env2, e2, s2, l2, hf⟩
  by_cases hlt : i < ds.length
  · rw [List.drop_eq_getElem_cons hlt] at hf
    unfold floop at hf
    obtain ⟨hw, hf⟩ := hf
    obtain ⟨stop, go⟩ := hJ g2 cs2 H2 e2.sub s2 hw
    obtain ⟨hgo, hy⟩ := go i ds[i] (by simp [hlt])
    refine .inr ⟨hgo, fun σ' H' => ∃ g3 cs3 env3, Ext g1 g3 ∧ Sr X.K g3 cs3 H' ∧ Lr X.K g3 env3 σ' ∧ floop p wb (upN X.K g D) W (ds.drop (i + 1)) env3 cs3,
      fun σ' H' ⟨g3, cs3, env3, e3, s3, l3, q3⟩ => ⟨ds.length - (i + 1), by omega, rfl, hlt, g3, cs3, env3, e3, s3, l3, q3⟩, fun x H' y => ?_⟩
    obtain ⟨g3, e3, s3, r3⟩ := hy x H' y
    split at hf
    · rename_i env' hp'
      refine gOf_ok s3 p _ x env2 env' σ2 _ r3 (l2.mono e3) hp' fun σ' l' _ => lowS.go hb.mo s3 l' hf ⟨?_, ?_, ?_, ?_⟩
      · intro env4 cs4 q g4 H4 σ4 e4 s4 l4
        exact ⟨g4, cs4, env4, (e2.trans e3).trans e4, s4, l4, q⟩
      · exact fun _ _ q => upV.mono ((e1.trans e2).trans e3) q
      · exact fun _ _ q => upE.mono ((e1.trans e2).trans e3) q
      · intro env4 cs4 q g4 H4 σ4 e4 s4 l4
        exact ⟨g4, cs4, env4, (e2.trans e3).trans e4, s4, l4, q⟩
    · exact hf.elim
  · have e : i = ds.length := by omega
    subst e
    rw [List.drop_length] at hf
    obtain ⟨hw, hf⟩ := hf
    obtain ⟨stop, go⟩ := hJ g2 cs2 H2 e2.sub s2 hw
    exact .inl ⟨stop _ (Nat.le_refl _), hf g2 H2 σ2 (e1.trans e2) s2 l2⟩
/-! ### while: some turns suffice -/
def wloop (t : WT) (wb : WS) (E : DN) : Nat → En → Sto → Prop
  | 0, _, _ => False
  | n + 1, env, cs => t env cs fun b cs1 => if b = true then wb { E with nx := wloop t wb E n, ct := wloop t wb E n, bk := E.nx } env cs1 else E.nx env cs1
theorem wloop.mo {t : WT} {wb : WS} (ht : MonoT t) (hb : MonoS wb) {E E' : DN} (h : DN.le E E') : ∀ (n : Nat) (env : En) (cs : Sto), wloop t wb E n env cs → wloop t wb E' n env cs
  | 0, env, cs, q => q
  | n + 1, env, cs, q => ht env cs _ _ (fun b cs1 q1 => ite_mono (fun q => hb { E with nx := wloop t wb E n, ct := wloop t wb E n, bk := E.nx } { E' with nx := wloop t wb E' n, ct := wloop t wb E' n, bk := E'.nx } _ _ ⟨fun env cs q => wloop.mo ht hb h n env cs q, h.rt, h.nx, fun env cs q => wloop.mo ht hb h n env cs q⟩ q) (fun q => h.nx _ _ q) q1) q
def wWhile (t : WT) (wb : WS) : WS := fun E env cs => ∃ n, wloop t wb E n env cs
theorem ds_while {body : List Stmt} {t : WT} {wb : WS} (hp : PassesOwn (model X.prog X.w) X.A X.env X.xe) (ht : DT X c t) (hb : DSs X body wb) : DS X (.While c body [] pos) (wWhile t wb) := by
  refine ⟨PS.imp (ps_while hp ht.pe hb.pe) fun D σ H ⟨g, cs, env, s, l, n, h⟩ => ?_, fun E E' env cs h ⟨n, q⟩ => ⟨n, wloop.mo ht.mo hb.mo h n env cs q⟩⟩
  refine ⟨fun m σ H => ∃ g2 cs2 env2, Ext g g2 ∧ Sr X.K g2 cs2 H ∧ Lr X.K g2 env2 σ ∧ wloop t wb (upN X.K g D) m env2 cs2, ⟨n, g, cs, env, Ext.refl _, s, l, h⟩, ?_⟩
  rintro m σ2 H2 ⟨g2, cs2, env2, e2, s2, l2, q⟩
  cases m with
  | zero => exact q.elim
  | succ m =>
    refine lowT.go ht.mo s2 l2 q fun b cs3 g3 H3 h3 e3 s3 => ite_mono (fun h3 => ?_) (fun h3 => ?_) h3
    · refine ⟨fun σ' H' => ∃ g4 cs4 env4, Ext g g4 ∧ Sr X.K g4 cs4 H' ∧ Lr X.K g4 env4 σ' ∧ wloop t wb (upN X.K g D) m env4 cs4, fun σ' H' q => ⟨m, Nat.lt_succ_self _, q⟩, lowS.go hb.mo s3 (l2.mono e3) h3 ⟨?_, ?_, ?_, ?_⟩⟩
      · intro env4 cs4 q g4 H4 σ4 e4 s4 l4
        exact ⟨g4, cs4, env4, (e2.trans e3).trans e4, s4, l4, q⟩
      · exact fun _ _ q => upV.mono (e2.trans e3) q
      · exact fun _ _ q => upE.mono (e2.trans e3) q
      · intro env4 cs4 q g4 H4 σ4 e4 s4 l4
        exact ⟨g4, cs4, env4, (e2.trans e3).trans e4, s4, l4, q⟩
    · exact h3 g3 H3 σ2 (e2.trans e3) s3 (l2.mono e3)
end
end DL

/-! DCalls: comprehensions, defs and their contracts, calls. -/
namespace DL
open PySem PySem.Spec L2
open PyProof.Rows (envOfC)

section
variable {X : Cx} {a b c : Expr} {wa wb wc : WE} {pos : Pos}
/-! ### comprehensions -/
structure DTs (X : Cx) (ifs : List Expr) (w : WT) : Prop where
  pe : PTs X ifs (lowT X.K w)
  mo : MonoT w
def wYes : WT := fun _ cs Q => Q true cs
theorem dts_nil : DTs X [] wYes := ⟨⟨fun pins s σ H Q I ⟨g, cs, env, sr, l, h⟩ => pts_nil.run pins s σ H Q I (h g H (Ext.refl g) sr)⟩, fun _ _ _ _ h q => h _ _ q⟩
theorem dts_one {t : WT} (h : DT X c t) : DTs X [c] t := ⟨pts_one h.pe, h.mo⟩
def wipeE (env : En) : List Nat → En
  | [] => env
  | v :: vs => (wipeE env vs).set v none
theorem Lr.wiped {K : PySem.W.Frag} {g : G} {env : En} {σ : L2.St} (l : Lr K g env σ) : ∀ vs : List Nat, Lr K g (wipeE env vs) (wipe σ vs)
  | [] => l
  | v :: vs => by
    have h := Lr.wiped l vs
    unfold wipeE L2.wipe
    refine ⟨by simp [h.len], fun i d e => ?_⟩
    by_cases hv : v = i
    · subst hv
      by_cases hl : v < (wipeE env vs).length
      · rw [List.getElem?_set_self hl] at e
        cases e
      · rw [List.getElem?_eq_none (by simpa using hl)] at e
        cases e
    · rw [List.getElem?_set_ne hv] at e
      obtain ⟨u, q1, q2⟩ := h.ok i d e
      exact ⟨u, by rw [List.getElem?_set_ne hv]; exact q1, q2⟩
theorem wipe_wipe (σ : L2.St) : ∀ {us vs : List Nat}, (∀ i ∈ us, i ∈ vs) → wipe (wipe σ us) vs = wipe σ vs
  | [], _, _ => rfl
  | u :: us, vs, h => by
    show wipe ((wipe σ us).set u none) vs = wipe σ vs
    rw [wipe_set _ _ _ (h u (by simp)), wipe_wipe σ (fun i hi => h i (List.mem_cons_of_mem _ hi))]
def lcloop (p : Pat) (tt : WT) (we : WE) (env : En) (W : Sto → Prop) (Q : PD) : List D → List D → Sto → Prop
  | [], acc, cs => W cs ∧ Q (.lst acc) cs
  | d :: ds, acc, cs => W cs ∧ match patSet cs p d env with
    | some env' => tt env' cs fun b cs2 => if b = true then we env' cs2 fun y cs3 => lcloop p tt we env W Q ds (acc ++ [y]) cs3 else lcloop p tt we env W Q ds acc cs2
    | none => False
theorem lcloop.mo {p : Pat} {tt : WT} {we : WE} {env : En} {W : Sto → Prop} {Q Q' : PD} (mt : MonoT tt) (me : MonoE we) (h : ∀ d cs, Q d cs → Q' d cs) : ∀ (ds acc : List D) (cs : Sto), lcloop p tt we env W Q ds acc cs → lcloop p tt we env W Q' ds acc cs
  | [], acc, cs, q => ⟨q.1, h _ _ q.2⟩
  | d :: ds, acc, cs, q => by
    unfold lcloop at q ⊢
    obtain ⟨q0, q⟩ := q
    refine ⟨q0, ?_⟩
    split at q
    · exact mt _ _ _ _ (fun b cs2 q => ite_mono (fun q => me _ _ _ _ (fun y cs3 q => lcloop.mo mt me h ds _ cs3 q) q) (fun q => lcloop.mo mt me h ds _ cs2 q) q) q
    · exact q
def wLc (wi : WI) (p : Pat) (tt : WT) (we : WE) (vs : List Nat) : WE := fun env cs Q => wi env cs fun ds W cs1 => ds.length ≤ sizeLine ∧ lcloop p tt we (wipeE env vs) W Q ds [] cs1
theorem wLc.mo {wi : WI} {p : Pat} {tt : WT} {we : WE} {vs : List Nat} (mi : MonoI wi) (mt : MonoT tt) (me : MonoE we) : MonoE (wLc wi p tt we vs) := fun env cs Q Q' h q =>
  mi env cs _ _ (fun ds W cs1 ⟨z, q⟩ => ⟨z, lcloop.mo mt me h ds [] cs1 q⟩) q
theorem low_lc {K : PySem.W.Frag} {wi : WI} {p : Pat} {tt : WT} {we : WE} {vs : List Nat} (mi : MonoI wi) (mt : MonoT tt) (me : MonoE we) (hsl : ∀ i ∈ slots p, i ∈ vs) {σ : L2.St} {H : Hp} {Q : VK}
    (h : lowE K (wLc wi p tt we vs) σ H Q) : tLc (lowI K wi) (gOf K p) (lowT K tt) (lowE K we) vs σ H Q := by
  obtain ⟨g, cs, env, s, l, h⟩ := h
  refine lowI.go mi s l h fun ds W cs1 g1 H1 J ⟨hz, h1⟩ e1 s1 hJ => ?_
  intro Dd hD
  refine ⟨fun i m H => m = ds.length - i ∧ i ≤ ds.length ∧ ∃ g2 cs2 acc vacc, Sub g1 g2 ∧ g2.rs = (Dd, .lst vacc) :: g1.rs ∧ Sr K g2 cs2 H ∧ RepL K g2 acc vacc ∧ acc.length ≤ i ∧ lcloop p tt we (wipeE env vs) W (upV K g Q) (ds.drop i) acc cs2,
    ⟨ds.length, by simp, Nat.zero_le _, g1.hold Dd (.lst []), cs1, [], [], ⟨fun _ _ h => h, ⟨[], by simp [G.hold]⟩⟩, rfl, s1.hold hD _, rfl, Nat.le_refl _, by simpa using h1⟩, ?_⟩
  rintro i m H2 ⟨rfl, hi', g2, cs2, acc, vacc, sb, er, s2, ra, hla, hf⟩
  by_cases hlt : i < ds.length
  · rw [List.drop_eq_getElem_cons hlt] at hf
    unfold lcloop at hf
    obtain ⟨hw, hf⟩ := hf
    obtain ⟨stop, go⟩ := hJ g2 cs2 H2 sb s2 hw
    obtain ⟨hgo, hy⟩ := go i ds[i] (by simp [hlt])
    refine .inr ⟨hgo, fun H' => ∃ g3 cs3 acc3 vacc3, Sub g1 g3 ∧ g3.rs = (Dd, .lst vacc3) :: g1.rs ∧ Sr K g3 cs3 H' ∧ RepL K g3 acc3 vacc3 ∧ acc3.length ≤ i + 1 ∧ lcloop p tt we (wipeE env vs) W (upV K g Q) (ds.drop (i + 1)) acc3 cs3,
      fun H' ⟨g3, cs3, acc3, vacc3, q⟩ => ⟨ds.length - (i + 1), by omega, rfl, hlt, g3, cs3, acc3, vacc3, q⟩, fun x H' y => ?_⟩
    obtain ⟨g3, e3, s3, r3⟩ := hy x H' y
    split at hf
    · rename_i env' hp'
      have lw : Lr K g3 (wipeE env vs) (wipe σ vs) := ⟨((l.mono e1).wiped vs).len, fun i d h => by
        obtain ⟨v, q1, q2⟩ := ((l.mono e1).wiped vs).ok i d h
        exact ⟨v, q1, Rep.sub e3.sub _ _ (Rep.sub sb _ _ q2)⟩⟩
      refine gOf_ok s3 p _ x (wipeE env vs) env' (wipe σ vs) _ r3 lw hp' fun σ' l' hwp => ⟨(hwp vs hsl).trans (wipe_wipe σ (fun i h => h)), ?_⟩
      refine lowT.go mt s3 l' hf fun b cs4 g4 H4 h4 e4 s4 => ?_
      have sb4 : Sub g1 g4 := ⟨fun a o h => e4.z _ _ (e3.z _ _ (sb.z a o h)), by
        obtain ⟨t, q⟩ := sb.a
        obtain ⟨t3, q3⟩ := e3.a
        obtain ⟨t4, q4⟩ := e4.a
        exact ⟨t ++ (t3 ++ t4), by rw [q4, q3, q]; simp⟩⟩
      have er4 : g4.rs = (Dd, .lst vacc) :: g1.rs := by rw [e4.r, e3.r, er]
      refine ite_mono (fun h4 => ?_) (fun h4 => ?_) h4
      · refine lowE.go me s4 (l'.mono e4) h4 fun y' cs5 g5 H5 v5 h5 e5 s5 r5 => ?_
        have er5 : g5.rs = (Dd, .lst vacc) :: g1.rs := by rw [e5.r, er4]
        obtain ⟨q1, q2, q3⟩ := s5.rs (Dd, .lst vacc) (by rw [er5]; exact List.mem_cons_self)
        have ra5 : RepL K g5 acc vacc := ((ra.mono e3).mono e4).mono e5
        have l5 : vacc.length = acc.length := ra.length.symm
        have sb5 : Sub g5 { g5 with rs := (Dd, .lst (vacc ++ [v5])) :: g1.rs } := ⟨fun _ _ h => h, ⟨[], by simp⟩⟩
        refine ⟨vacc, q1, by omega, { g5 with rs := (Dd, .lst (vacc ++ [v5])) :: g1.rs }, cs5, acc ++ [y'], vacc ++ [v5], ⟨fun a o h => e5.z _ _ (sb4.z a o h), ?_⟩, rfl, s5.rehold er5, (ra5.append (.cons r5 .nil)).sub' sb5, by simp; omega, h5⟩
        obtain ⟨t, q⟩ := sb4.a
        obtain ⟨t3, q3⟩ := e5.a
        exact ⟨t ++ t3, by show g5.as = _; rw [q3, q]; simp⟩
      · exact ⟨g4, cs4, acc, vacc, sb4, er4, s4, (ra.mono e3).mono e4, by omega, h4⟩
    · exact hf.elim
  · have e : i = ds.length := by omega
    subst e
    rw [List.drop_length] at hf
    obtain ⟨hw, hf⟩ := hf
    obtain ⟨stop, go⟩ := hJ g2 cs2 H2 sb s2 hw
    refine .inl ⟨stop _ (Nat.le_refl _), ?_⟩
    have s3 := s2.unhold er
    have e3 : Ext g1 { g2 with Z := upd g2.Z Dd (.lst vacc), rs := g1.rs } := by
      obtain ⟨q1, q2, q3⟩ := s2.rs (Dd, .lst vacc) (by rw [er]; exact List.mem_cons_self)
      refine ⟨fun a o h => ?_, sb.a, rfl⟩
      show upd g2.Z Dd _ a = some o
      rw [upd_ne (ne_of_none (sb.z a o h) q2)]
      exact sb.z a o h
    have sb3 : Sub g2 { g2 with Z := upd g2.Z Dd (.lst vacc), rs := g1.rs } := by
      obtain ⟨q1, q2, q3⟩ := s2.rs (Dd, .lst vacc) (by rw [er]; exact List.mem_cons_self)
      refine ⟨fun a o h => ?_, ⟨[], by simp⟩⟩
      show upd g2.Z Dd _ a = some o
      rw [upd_ne (ne_of_none h q2)]
      exact h
    exact hf _ H2 _ (e1.trans e3) s3 ⟨Dd, vacc, rfl, upd_same, ra.sub' sb3⟩
theorem de_lc {elt tg iter : Expr} {ifs : List Expr} {scope : Scope} {own : List (Str × Nat)} {wi : WI} {p : Pat} {tt : WT} {we : WE} (hc : X.calm = true) (hN : X.N.Nodup) (hi : DI X tg iter wi) (ok : BlkOk X.N X.env.scope scope own)
    (hg : ∀ (s : Shared) (H : Hp) (C : Addr) (cl : List (Str × Addr)) (fp : List Addr), DG (X.blk s H scope (compEnvC scope cl C X.env) fp) tg p) (ht : ∀ (s : Shared) (H : Hp) (C : Addr) (cl : List (Str × Addr)) (fp : List Addr), DTs (X.blk s H scope (compEnvC scope cl C X.env) fp) ifs tt)
    (he : ∀ (s : Shared) (H : Hp) (C : Addr) (cl : List (Str × Addr)) (fp : List Addr), DE (X.blk s H scope (compEnvC scope cl C X.env) fp) elt we) (hs : ∀ x, foldedSetIterable iter X.env x = pure x := by intro _; rfl) (hsl : ∀ i ∈ slots p, i ∈ own.map (·.2) := by decide) :
    DE X (.ListComp elt [⟨tg, iter, ifs, 0⟩] scope pos) (wLc wi p tt we (own.map (·.2))) := by
  have mt : MonoT tt := (ht {} (fun _ => none) 0 [] []).mo
  have me : MonoE we := (he {} (fun _ => none) 0 [] []).mo
  exact ⟨PE.imp (pe_lc (wi := lowI X.K wi) (g := gOf X.K p) (tt := lowT X.K tt) (te := lowE X.K we) hc hN hi.pe ok (fun s H C cl fp => (hg s H C cl fp).pg) (fun s H C cl fp => (ht s H C cl fp).pe) (fun s H C cl fp => (he s H C cl fp).pe) hs) fun σ H Q h => low_lc hi.mo mt me hsl h, wLc.mo hi.mo mt me⟩
theorem ds_setLc {i : Nat} {y : Str} {py : Pos} {spos : Pos} {elt tg iter : Expr} {ifs : List Expr} {scope : Scope} {own : List (Str × Nat)} {wi : WI} {p : Pat} {tt : WT} {we : WE} (hc : X.calm = true) (hN : X.N.Nodup)
    (hsw : swapsWith (.ListComp elt [⟨tg, iter, ifs, 0⟩] scope pos) (some (.Name y py)) spos.line X.env = pure true) (hi : DI X tg iter wi) (ok : BlkOk X.N X.env.scope scope own)
    (hg : ∀ (s : Shared) (H : Hp) (C : Addr) (cl : List (Str × Addr)) (fp : List Addr), DG (X.blk s H scope (compEnvC scope cl C X.env) fp) tg p) (ht : ∀ (s : Shared) (H : Hp) (C : Addr) (cl : List (Str × Addr)) (fp : List Addr), DTs (X.blk s H scope (compEnvC scope cl C X.env) fp) ifs tt)
    (he : ∀ (s : Shared) (H : Hp) (C : Addr) (cl : List (Str × Addr)) (fp : List Addr), DE (X.blk s H scope (compEnvC scope cl C X.env) fp) elt we) (hy : X.N[i]? = some y := by rfl) (hyl : X.env.scope.names.lookup y = some .local := by rfl) (hs : ∀ x, foldedSetIterable iter X.env x = pure x := by intro _; rfl) (hsl : ∀ i ∈ slots p, i ∈ own.map (·.2) := by decide) :
    DS X (.Assign [.Name y py] (.ListComp elt [⟨tg, iter, ifs, 0⟩] scope pos) spos) (wSet i (wLc wi p tt we (own.map (·.2)))) := by
  have mt : MonoT tt := (ht {} (fun _ => none) 0 [] []).mo
  have me : MonoE we := (he {} (fun _ => none) 0 [] []).mo
  refine ⟨PS.imp (ps_setLc (wi := lowI X.K wi) (g := gOf X.K p) (tt := lowT X.K tt) (te := lowE X.K we) hc hN hy hyl hsw hi.pe ok (fun s H C cl fp => (hg s H C cl fp).pg) (fun s H C cl fp => (ht s H C cl fp).pe) (fun s H C cl fp => (he s H C cl fp).pe) hs) fun D σ H h => ?_, wSet.mo (wLc.mo hi.mo mt me)⟩
  obtain ⟨g, cs, env, s, l, h⟩ := h
  refine low_lc hi.mo mt me hsl ⟨g, cs, env, s, l, wLc.mo hi.mo mt me _ _ _ _ (fun d cs1 q => ?_) h⟩
  exact fun g1 H1 v e1 s1 r1 => q g1 H1 _ e1 s1 ((l.mono e1).set r1)
end

/-! ### defs: room on the stack, and no display under way -/
structure RoomG (k : Nat) (A : Around) : Prop where
  r : Room k A
  gd : A.guards = some []
theorem RoomG.mono {j k : Nat} {A : Around} (h : RoomG k A) (l : j ≤ k) : RoomG j A := ⟨h.r.mono l, h.gd⟩
/-- a def keeps a promise, wherever no display is under way -/
structure FnG (P : Program) (w : World) (K : PySem.W.Frag) (mg : Str → Option Value) (base : Heap) (CX : CXT) (k : Nat) (f : Addr) (fd : FuncData) (ps : List Str) (sp : Sp) : Prop where
  len : ∀ vs H Q E, sp vs H Q E → vs.length = ps.length
  run : ∀ (A : Around) (outer : List PySem.Env) (s : Shared) (H : Hp) (args : Args) (us : List Value) (vs : List V) (Q : VK) (E : XK),
    RoomG k A → Env0 P w K mg base A outer s H → BindsTo s fd args (ps.zip us) → Vals vs us → sp vs H Q E → codeAny (model P w) A (.call (.ref f) args) (CR CX outer P w H s Q E) s
theorem FnG.mono {P : Program} {w : World} {K : PySem.W.Frag} {mg : Str → Option Value} {base : Heap} {CX : CXT} {j k : Nat} {f : Addr} {fd : FuncData} {ps : List Str} {sp : Sp} (F : FnG P w K mg base CX j f fd ps sp) (h : j ≤ k) : FnG P w K mg base CX k f fd ps sp :=
  ⟨F.len, fun A outer s H args us vs Q E hr e0 => F.run A outer s H args us vs Q E (hr.mono h) e0⟩
section
variable {P : Program} {w : World} {K : PySem.W.Frag} {mg : Str → Option Value} {base : Heap} {CX : CXT}
/-- by its body -/
theorem fnG_of {k : Nat} {f : Addr} {name qual : Str} {st : Stmt} {fd : FuncData} {N ps : List Str} {sp : Sp} (F : Fun K name qual st f fd) (S : FnScope N ps (defScope st)) (len : ∀ vs H Q E, sp vs H Q E → vs.length = ps.length)
    (hbody : ∀ (cdv : Value) (A : Around) (outer : List PySem.Env) (s : Shared) (H : Hp) (vs : List V) (Q : VK) (E : XK), RoomG k (A.deeper (envOfC qual (defScope st) s.heap.objs.size f cdv)) → sp vs H Q E →
      ∃ t, PSs (cxOf CX P w K mg base N qual (defScope st) f cdv A outer s H E) (defBody st) t ∧ t { nx := fun _ H' => Q .non H', rt := Q } (start N vs) H) : FnG P w K mg base CX (k + 1) f fd ps sp := by
  obtain ⟨oc, od, kV, doc, pm, an, cdv, ct, osl, rfl, lk, hcd⟩ := F.ex
  refine ⟨len, ?_⟩
  intro A outer s H args us vs Q E hr e0 hb r hsp
  have stays : ∀ b o, base.get? b = some o → s.heap.get? b = some o := fun b o e => (e0.bs b o e).1
  have KX : K.In s.heap := e0.mod.kin.keeps stays
  refine codeAny_call_function hr.r.depth (KX _ _ lk) rfl S.co S.gen rfl (PySem.W.codeRec_of KX hcd) (hb _ _ _ _ ?_)
  have kinds : ∀ y ∈ ps.zip us, (defScope st).names.lookup y.1 = some .local ∨ ((defScope st).names.lookup y.1 = some .cell ∧ ((cellsFrom (s.heap.objs.size + 1) (defScope st).names []).lookup y.1).isSome = true) := by
    intro y hy
    cases S.par y.1 (List.of_mem_zip hy).1 with
    | inl q => exact .inl q
    | inr q => exact .inr ⟨q, PySem.W.cellsFrom_some _ _ _ (.inl q)⟩
  refine wpAny_newFunctionEnv_cells S.kind kinds fun env he s1 x => ?_
  subst he
  refine ⟨(e0.mod.nolimit.keeps stays).keeps x.toInCall.keep, codeAny_func ?_⟩
  obtain ⟨t, ht, hq⟩ := hbody cdv A outer s H vs Q E ⟨hr.r.deeper _, hr.gd⟩ hsp
  refine wpAny_mono (ht.run [] s1 (start N vs) H _ (inv_start S hr.r.hd e0 (len _ _ _ _ hsp) r x) hq) ?_ (fun _ _ z => z)
  intro fl s' hs
  cases fl with
  | ret u => obtain ⟨v, σ', H', J, rv, q⟩ := hs; exact ⟨v, H', J.os, J.bare, J.base, J.hok, rv, q⟩
  | next => obtain ⟨σ', H', J, q⟩ := hs; exact ⟨.non, H', J.os, J.bare, J.base, J.hok, rfl, q⟩
  | brk => obtain ⟨_, _, _, q⟩ := hs; exact q.elim
  | cont => obtain ⟨_, _, _, q⟩ := hs; exact q.elim
variable {X : Cx}
/-- a call of it, however its arguments are bound -/
theorem run_G {k : Nat} {f : Addr} {fd : FuncData} {ps : List Str} {sp : Sp} {E : XK} {pins : List (Addr × Obj)} {σ : L2.St} {H : Hp} {s : Shared} {Q : VK} {us ws : List Value} {kw : List (Str × Value)} {vs : List V}
    (F : FnG X.prog X.w X.K X.mg X.base CX k f fd ps sp) (hr : RoomG k X.A) (hb : BindsTo s fd ⟨us, kw⟩ (ps.zip ws)) (hx : Passes CX X E) (I : Inv X pins σ H s) (r : Vals vs ws) (h : sp vs H Q E) : wpAny (model X.prog X.w) X.A (call (.ref f) us kw) (EP X pins σ Q) X.xe s := by
  refine wpAny_call (codeAny_mono (F.run X.A X.stack s H ⟨us, kw⟩ ws vs Q E hr I.env0 hb r h) ?_)
  intro res s' hq
  cases res with
  | error e => exact hx pins σ H s e s' I hq
  | ok fl =>
    cases fl with
    | ret u => exact I.after hq
    | next => exact hq.elim
    | brk => exact hq.elim
    | cont => exact hq.elim
theorem peG_call {k : Nat} {f : Addr} {fd : FuncData} {ps : List Str} {sp : Sp} {E : XK} {x : Str} {p pos : Pos} {e : Expr} {es : List Expr} {t : TA} (F : FnG X.prog X.w X.K X.mg X.base CX k f fd ps sp) (hr : RoomG k X.A) (hg : Gl X x) (hm : X.mg x = some (.ref f)) (hk : PySem.W.keepIn X.K (.ref f) = true) (hb : Binds X.K fd ps []) (hx : Passes CX X E)
    (ha : PA X (e :: es) t) (hdb : (x == ("__debug__" : Str)) = false := by decide) (he : starEach (e :: es) X.env = (false, eval e X.env) :: starEach es X.env := by rfl) (hpl : (backTo pos (starEach es X.env)).any (·.1) = false := by rfl) :
    PE X (.Call (.Name x p) (e :: es) [] pos) (tCall sp [] E t) := by
  refine ⟨fun pins s σ H Q I h => ?_⟩
  refine wpAny_Call_Name_kw (ld_glob I hg hm (PySem.W.callWith_K (h₀ := X.base) I.ok.mod.kin hk (thn (ha.run pos pins s σ H _ I h) fun us s1 ⟨vs, H1, I1, r, q⟩ => ⟨I1.kIn, ?_⟩) he hpl) hdb)
  have q' : sp vs H1 Q E := by simpa using q
  have hl : us.length = ps.length := r.length.symm.trans (F.len _ _ _ _ q')
  have hb' := hb s1 us I1.kIn (by simpa using hl)
  rw [List.append_nil] at hb'
  exact run_G F hr hb' hx I1 r q'
theorem peG_call0 {k : Nat} {f : Addr} {fd : FuncData} {ps : List Str} {sp : Sp} {E : XK} {x : Str} {p pos : Pos} (F : FnG X.prog X.w X.K X.mg X.base CX k f fd ps sp) (hr : RoomG k X.A) (hg : Gl X x) (hm : X.mg x = some (.ref f)) (hk : PySem.W.keepIn X.K (.ref f) = true) (hb : Binds X.K fd ps []) (hx : Passes CX X E)
    (hdb : (x == ("__debug__" : Str)) = false := by decide) : PE X (.Call (.Name x p) [] [] pos) (tCall sp [] E tNil) := by
  refine ⟨fun pins s σ H Q I h => ?_⟩
  refine wpAny_Call_Name_kw (ld_glob I hg hm (PySem.W.callWith_K0 I.kIn hk ?_) hdb)
  have q' : sp [] H Q E := h
  have hl : ([] : List Value).length = ps.length := F.len _ _ _ _ q'
  have hb' := hb s [] I.kIn (by simpa using hl)
  exact run_G F hr hb' hx I .nil q'
/-- how keywords bind: all values, positional ones first, taken in the order perm -/
def gP {α : Type} (perm : List Nat) (l : List α) : List α := perm.filterMap fun i => l[i]?
theorem gP_rel {vs : List V} {us : List Value} (r : Vals vs us) : ∀ perm : List Nat, Vals (gP perm vs) (gP perm us)
  | [] => .nil
  | i :: perm => by
    unfold gP
    rw [List.filterMap_cons, List.filterMap_cons]
    cases e : vs[i]? with
    | none =>
      rw [r.none_of e]
      exact gP_rel r perm
    | some v =>
      obtain ⟨u, h1, h2⟩ := r.get e
      rw [h1]
      exact .cons h2 (gP_rel r perm)
theorem gP_repl {g : G} {ds : List D} {vs : List V} (r : RepL K g ds vs) : ∀ perm : List Nat, RepL K g (gP perm ds) (gP perm vs)
  | [] => .nil
  | i :: perm => by
    unfold gP
    rw [List.filterMap_cons, List.filterMap_cons]
    cases e : ds[i]? with
    | none =>
      have h2 : vs[i]? = none := by
        rw [List.getElem?_eq_none_iff] at e ⊢
        rw [← r.length]
        exact e
      rw [h2]
      exact gP_repl r perm
    | some d =>
      obtain ⟨v, h1, h2⟩ := r.get e
      rw [h1]
      exact .cons h2 (gP_repl r perm)
/-- a call with n values and the keywords ks -/
def KwB (K : PySem.W.Frag) (fd : FuncData) (ps : List Str) (n : Nat) (ks : List Str) (perm : List Nat) : Prop :=
  ∀ (s : Shared) (us ws : List Value), K.In s.heap → us.length = n → ws.length = ks.length → BindsTo s fd ⟨us, ks.zip ws⟩ (ps.zip (gP perm (us ++ ws)))
theorem Fun.kwb {x qual : Str} {st : Stmt} {f : Addr} {fd : FuncData} {ps : List Str} (F : Fun K x qual st f fd) (n : Nat) (ks : List Str) (perm : List Nat)
    (h : ∀ (kV doc pm : Value) (an : Option Addr) (cdv ct : Value) (us ws : List Value), us.length = n → ws.length = ks.length → bindArgs (PySem.W.fnOf x qual (defArgs st) (defBody st) (defScope st) .none kV doc pm an cdv ct) ⟨us, ks.zip ws⟩ = pure (ps.zip (gP perm (us ++ ws)))) : KwB K fd ps n ks perm := by
  obtain ⟨oc, od, kV, doc, pm, an, cdv, ct, osl, rfl, lk, hcd⟩ := F.ex
  exact fun s us ws _ h1 h2 => .of_eq (h kV doc pm an cdv ct us ws h1 h2)
def tCallG (n m : Nat) (perm : List Nat) (sp : Sp) (E : XK) (t tk : TA) : TE := fun σ H Q => t σ H fun vs H1 => tk σ H1 fun zs H2 => vs.length = n ∧ zs.length = m ∧ sp (gP perm (vs ++ zs)) H2 Q E
theorem peG_callK {k n : Nat} {perm : List Nat} {f : Addr} {fd : FuncData} {ps ks : List Str} {sp : Sp} {E : XK} {x : Str} {p pos : Pos} {e : Expr} {es : List Expr} {kws : List Keyword} {t tk : TA} (F : FnG X.prog X.w X.K X.mg X.base CX k f fd ps sp) (hr : RoomG k X.A) (hg : Gl X x) (hm : X.mg x = some (.ref f)) (hk : PySem.W.keepIn X.K (.ref f) = true) (hb : KwB X.K fd ps n ks perm) (hx : Passes CX X E)
    (ha : PA X (e :: es) t) (hkw : PK X kws tk) (hall : (backToKw pos (keywordEach kws X.env)).all (·.1.isSome) = true := by rfl) (hks : (backToKw pos (keywordEach kws X.env)).filterMap (·.1) = ks := by rfl)
    (hdb : (x == ("__debug__" : Str)) = false := by decide) (he : starEach (e :: es) X.env = (false, eval e X.env) :: starEach es X.env := by rfl)
    (hpl : ((backTo pos (starEach (e :: es) X.env)).any (·.1) || (backToKw pos (keywordEach kws X.env)).any (·.1.isNone)) = false := by rfl) :
    PE X (.Call (.Name x p) (e :: es) kws pos) (tCallG n ks.length perm sp E t tk) := by
  refine ⟨fun pins s σ H Q I h => wpAny_Call_Name_kw (ld_glob I hg hm ?_ hdb)⟩
  refine PySem.W.callWith_KW (h₀ := X.base) I.ok.mod.kin hk hall (thn (ha.run pos pins s σ H _ I h) fun us s1 ⟨vs, H1, I1, r, q⟩ => thn (hkw.run pos pins s1 σ H1 _ I1 q) fun ws s2 ⟨zs, H2, I2, rz, l1, l2, q2⟩ => ⟨I2.kIn, ?_⟩) hpl he
  rw [hks]
  exact run_G F hr (hb s2 us ws I2.kIn (r.length.symm.trans l1) (rz.length.symm.trans l2)) hx I2 (gP_rel (r.append rz) perm) q2
theorem peG_callK0 {k : Nat} {perm : List Nat} {f : Addr} {fd : FuncData} {ps ks : List Str} {sp : Sp} {E : XK} {x : Str} {p pos : Pos} {kws : List Keyword} {tk : TA} (F : FnG X.prog X.w X.K X.mg X.base CX k f fd ps sp) (hr : RoomG k X.A) (hg : Gl X x) (hm : X.mg x = some (.ref f)) (hk : PySem.W.keepIn X.K (.ref f) = true) (hb : KwB X.K fd ps 0 ks perm) (hx : Passes CX X E)
    (hkw : PK X kws tk) (hall : (backToKw pos (keywordEach kws X.env)).all (·.1.isSome) = true := by rfl) (hks : (backToKw pos (keywordEach kws X.env)).filterMap (·.1) = ks := by rfl)
    (hdb : (x == ("__debug__" : Str)) = false := by decide)
    (hpl : ((backTo pos (starEach [] X.env)).any (·.1) || (backToKw pos (keywordEach kws X.env)).any (·.1.isNone)) = false := by rfl) :
    PE X (.Call (.Name x p) [] kws pos) (tCallG 0 ks.length perm sp E tNil tk) := by
  refine ⟨fun pins s σ H Q I h => wpAny_Call_Name_kw (ld_glob I hg hm ?_ hdb)⟩
  refine PySem.W.callWith_KW0 (h₀ := X.base) I.ok.mod.kin hk hall (thn (hkw.run pos pins s σ H _ I h) fun ws s2 ⟨zs, H2, I2, rz, l1, l2, q2⟩ => ⟨I2.kIn, ?_⟩) hpl
  rw [hks]
  exact run_G F hr (hb s2 [] ws I2.kIn rfl (rz.length.symm.trans l2)) hx I2 (gP_rel rz perm) q2
end

/-! ### contracts over data -/
/-- an error: its class, its fields -/
structure XD where
  C : Addr
  fs : List (Str × D)
/-- what a def is worth: for each case i its arguments, what must hold ahead, what may come back -/
structure FSpec where
  ι : Type
  args : ι → List D
  pre : ι → Sto → Prop
  res : ι → Sto → D → Sto → Prop
  exc : ι → Sto → XD → Sto → Prop := fun _ _ _ _ => False
def upX (K : PySem.W.Frag) (g : G) (E : XK) : XD → Sto → Prop := fun x cs => ∀ g' H d ws, Ext g g' → Sr K g' cs H → g'.Z d = some (.xd ws) → RepF K g' x.fs ws → E (.ref x.C) (some d) H
def dSp (K : PySem.W.Frag) (s : FSpec) : Sp := fun vs H Q E => ∃ g cs i, Sr K g cs H ∧ RepL K g (s.args i) vs ∧ s.pre i cs ∧ (∀ d cs', s.res i cs d cs' → upV K g Q d cs') ∧ ∀ x cs', s.exc i cs x cs' → upX K g E x cs'
/-- a def that never raises -/
structure Calm (s : FSpec) : Prop where
  no : ∀ i cs x cs', ¬ s.exc i cs x cs'
def startE (n : Nat) (ds : List D) : En := ds.map some ++ List.replicate (n - ds.length) none
theorem Lr.start {K : PySem.W.Frag} {g : G} {N : List Str} {ds : List D} {vs : List V} (r : RepL K g ds vs) : Lr K g (startE N.length ds) (start N vs) := by
  have hl := r.length
  refine ⟨by simp [startE, L2.start, hl], fun i d h => ?_⟩
  unfold startE at h
  unfold L2.start
  by_cases hi : i < ds.length
  · rw [List.getElem?_append_left (by simpa using hi), List.getElem?_map] at h
    cases e : ds[i]? with
    | none => rw [e] at h; cases h
    | some d' =>
      rw [e] at h
      cases h
      obtain ⟨v, h1, h2⟩ := r.get e
      exact ⟨v, by rw [List.getElem?_append_left (by simpa [← hl] using hi), List.getElem?_map, h1]; rfl, h2⟩
  · rw [List.getElem?_append_right (by simpa using hi), List.getElem?_replicate] at h
    split at h <;> cases h
section
variable {P : Program} {w : World} {K : PySem.W.Frag} {mg : Str → Option Value} {base : Heap}
/-- the contract of a def by its body over data -/
theorem dfun {k : Nat} {f : Addr} {name qual : Str} {st : Stmt} {fd : FuncData} {N ps : List Str} {sp : FSpec} (F : Fun K name qual st f fd) (S : FnScope N ps (defScope st)) (len : ∀ i, (sp.args i).length = ps.length)
    (h : ∀ (cdv : Value) (A : Around) (outer : List PySem.Env) (s : Shared) (H : Hp) (E : XK), RoomG k (A.deeper (envOfC qual (defScope st) s.heap.objs.size f cdv)) → ∃ wS, DSs (cxOf CX0 P w K mg base N qual (defScope st) f cdv A outer s H E).nox (defBody st) wS ∧
      ∀ i cs, sp.pre i cs → wS { nx := fun _ cs' => sp.res i cs .non cs', rt := fun d cs' => sp.res i cs d cs' } (startE N.length (sp.args i)) cs) : FnG P w K mg base CX0 (k + 1) f fd ps (dSp K sp) := by
  refine fnG_of F S (fun vs H Q E ⟨g, cs, i, _, r, _⟩ => r.length.symm.trans (len i)) fun cdv A outer s H vs Q E hr ⟨g, cs, i, sr, r, hp, hq, _⟩ => ?_
  obtain ⟨wS, hd, hw⟩ := h cdv A outer s H E hr
  refine ⟨_, hd.pe.nox, g, cs, startE N.length (sp.args i), sr, Lr.start r, hd.mo { nx := fun _ cs' => sp.res i cs .non cs', rt := fun d cs' => sp.res i cs d cs' } _ _ _ ⟨fun env cs' q g' H' σ e s' l => ?_, fun d cs' q => hq d cs' q, fun _ _ z => (show False from z).elim, fun _ _ z => (show False from z).elim⟩ (hw i cs hp)⟩
  exact hq .non cs' q g' H' .non e s' rfl
end
section
variable {X : Cx} {a : Expr} {pos : Pos}
def wCall (s : FSpec) (wa : WA) : WE := fun env cs Q => wa env cs fun ds cs1 => ∃ i, ds = s.args i ∧ s.pre i cs1 ∧ ∀ d cs', s.res i cs1 d cs' → Q d cs'
theorem wCall.mo {s : FSpec} {wa : WA} (h : MonoA wa) : MonoE (wCall s wa) := fun env cs Q Q' hq q => h env cs _ _ (fun ds cs1 ⟨i, e, p, q⟩ => ⟨i, e, p, fun d cs' z => hq _ _ (q d cs' z)⟩) q
theorem low_spec {K : PySem.W.Frag} {s : FSpec} (c : Calm s) {g g1 : G} {cs1 : Sto} {H1 : Hp} {vs : List V} {Q : VK} {i : s.ι} (e1 : Ext g g1) (s1 : Sr K g1 cs1 H1) (r1 : RepL K g1 (s.args i) vs) (hp : s.pre i cs1) (q : ∀ d cs', s.res i cs1 d cs' → upV K g Q d cs') : dSp K s vs H1 Q E0 :=
  ⟨g1, cs1, i, s1, r1, hp, fun d cs' z => upV.mono e1 (q d cs' z), fun x cs' z => (c.no _ _ _ _ z).elim⟩
theorem de_call {k : Nat} {f : Addr} {fd : FuncData} {ps : List Str} {s : FSpec} {x : Str} {p : Pos} {e : Expr} {es : List Expr} {wa : WA} (c : Calm s) (F : FnG X.prog X.w X.K X.mg X.base CX0 k f fd ps (dSp X.K s)) (hr : RoomG k X.A) (hm : X.mg x = some (.ref f)) (hk : PySem.W.keepIn X.K (.ref f) = true) (hb : Binds X.K fd ps []) (ha : DA X (e :: es) wa)
    (hg : Gl X x := by rfl) (hdb : (x == ("__debug__" : Str)) = false := by decide) (he : starEach (e :: es) X.env = (false, eval e X.env) :: starEach es X.env := by rfl) (hpl : (backTo pos (starEach es X.env)).any (·.1) = false := by rfl) : DE X (.Call (.Name x p) (e :: es) [] pos) (wCall s wa) :=
  ⟨PE.imp (peG_call F hr hg hm hk hb pass0 ha.pe hdb he hpl) fun σ H Q ⟨g, cs, env, sr, l, h⟩ => lowA.go ha.mo sr l h fun ds cs1 g1 H1 vs ⟨i, e2, hp, q⟩ e1 s1 r1 => by
    subst e2
    show dSp X.K s (vs ++ []) H1 Q E0
    rw [List.append_nil]
    exact low_spec c e1 s1 r1 hp q, wCall.mo ha.mo⟩
def wCall0 (s : FSpec) : WE := fun env cs Q => ∃ i, s.args i = [] ∧ s.pre i cs ∧ ∀ d cs', s.res i cs d cs' → Q d cs'
theorem de_call0 {k : Nat} {f : Addr} {fd : FuncData} {ps : List Str} {s : FSpec} {x : Str} {p : Pos} (c : Calm s) (F : FnG X.prog X.w X.K X.mg X.base CX0 k f fd ps (dSp X.K s)) (hr : RoomG k X.A) (hm : X.mg x = some (.ref f)) (hk : PySem.W.keepIn X.K (.ref f) = true) (hb : Binds X.K fd ps []) (hg : Gl X x := by rfl) (hdb : (x == ("__debug__" : Str)) = false := by decide) : DE X (.Call (.Name x p) [] [] pos) (wCall0 s) :=
  ⟨PE.imp (peG_call0 F hr hg hm hk hb pass0 hdb) fun σ H Q ⟨g, cs, env, sr, l, i, e2, hp, q⟩ => by
    show dSp X.K s ([] ++ []) H Q E0
    exact low_spec c (Ext.refl g) sr (by rw [e2]; exact .nil) hp q, fun env cs Q Q' hq ⟨i, e, p, q⟩ => ⟨i, e, p, fun d cs' z => hq _ _ (q d cs' z)⟩⟩
/-- keywords -/
structure DK (X : Cx) (kws : List Keyword) (w : WA) : Prop where
  pe : PK X kws (lowA X.K w)
  mo : MonoA w
theorem dk_nil : DK X [] wNil := ⟨⟨fun pos pins s σ H Q I ⟨g, cs, env, sr, l, h⟩ => pk_nil.run pos pins s σ H Q I (h g H [] (Ext.refl g) sr rfl)⟩, fun _ cs _ _ h q => h _ _ q⟩
theorem dk_cons {nm : Option Str} {kpos : Pos} {kws : List Keyword} {wa : WE} {wr : WA} (ha : DE X a wa) (hr : DK X kws wr) : DK X (⟨nm, a, kpos⟩ :: kws) (wCons wa wr) :=
  ⟨⟨fun pos pins s σ H Q I ⟨g, cs, env, sr, l, h⟩ => (pk_cons ha.pe hr.pe).run pos pins s σ H Q I (lowE.go ha.mo sr l h fun d1 cs1 g1 H1 v1 h1 e1 s1 r1 => lowA.go hr.mo s1 (l.mono e1) h1 fun ds cs2 g2 H2 vs h2 e2 s2 r2 => h2 g2 H2 _ (e1.trans e2) s2 (.cons (r1.mono e2) r2))⟩,
    fun env cs Q Q' h q => ha.mo env cs _ _ (fun d1 cs1 q1 => hr.mo env cs1 _ _ (fun _ _ q2 => h _ _ q2) q1) q⟩
def wCallK (s : FSpec) (n m : Nat) (perm : List Nat) (wa wk : WA) : WE := fun env cs Q => wa env cs fun ds cs1 => wk env cs1 fun es cs2 => ds.length = n ∧ es.length = m ∧ ∃ i, gP perm (ds ++ es) = s.args i ∧ s.pre i cs2 ∧ ∀ d cs', s.res i cs2 d cs' → Q d cs'
theorem wCallK.mo {s : FSpec} {n m : Nat} {perm : List Nat} {wa wk : WA} (h : MonoA wa) (h2 : MonoA wk) : MonoE (wCallK s n m perm wa wk) := fun env cs Q Q' hq q =>
  h env cs _ _ (fun ds cs1 q => h2 env cs1 _ _ (fun es cs2 ⟨l1, l2, i, e, p, q⟩ => ⟨l1, l2, i, e, p, fun d cs' z => hq _ _ (q d cs' z)⟩) q) q
theorem low_callK {s : FSpec} (c : Calm s) {n m : Nat} {perm : List Nat} {wa wk : WA} {ta tk : TA} {K : PySem.W.Frag} (ma : MonoA wa) (mk : MonoA wk) {σ : L2.St} {H : Hp} {Q : VK} (h : lowE K (wCallK s n m perm wa wk) σ H Q) : tCallG n m perm (dSp K s) E0 (lowA K wa) (lowA K wk) σ H Q := by
  obtain ⟨g, cs, env, sr, l, h⟩ := h
  refine lowA.go ma sr l h fun ds cs1 g1 H1 vs h1 e1 s1 r1 => lowA.go mk s1 (l.mono e1) h1 fun es cs2 g2 H2 zs ⟨l1, l2, i, e, hp, q⟩ e2 s2 r2 => ⟨by rw [← r1.length]; exact l1, by rw [← r2.length]; exact l2, ?_⟩
  have r3 := gP_repl ((r1.mono e2).append r2) perm
  rw [e] at r3
  exact low_spec c (e1.trans e2) s2 r3 hp q
theorem de_callK {k n : Nat} {perm : List Nat} {f : Addr} {fd : FuncData} {ps ks : List Str} {s : FSpec} {x : Str} {p : Pos} {e : Expr} {es : List Expr} {kws : List Keyword} {wa wk : WA} (c : Calm s) (F : FnG X.prog X.w X.K X.mg X.base CX0 k f fd ps (dSp X.K s)) (hr : RoomG k X.A) (hm : X.mg x = some (.ref f)) (hk : PySem.W.keepIn X.K (.ref f) = true) (hb : KwB X.K fd ps n ks perm)
    (ha : DA X (e :: es) wa) (hkw : DK X kws wk) (hg : Gl X x := by rfl) (hall : (backToKw pos (keywordEach kws X.env)).all (·.1.isSome) = true := by rfl) (hks : (backToKw pos (keywordEach kws X.env)).filterMap (·.1) = ks := by rfl)
    (hdb : (x == ("__debug__" : Str)) = false := by decide) (he : starEach (e :: es) X.env = (false, eval e X.env) :: starEach es X.env := by rfl)
    (hpl : ((backTo pos (starEach (e :: es) X.env)).any (·.1) || (backToKw pos (keywordEach kws X.env)).any (·.1.isNone)) = false := by rfl) : DE X (.Call (.Name x p) (e :: es) kws pos) (wCallK s n ks.length perm wa wk) :=
  ⟨PE.imp (peG_callK F hr hg hm hk hb pass0 ha.pe hkw.pe hall hks hdb he hpl) fun σ H Q h => low_callK (ta := lowA X.K wa) (tk := lowA X.K wk) c ha.mo hkw.mo h, wCallK.mo ha.mo hkw.mo⟩
theorem de_callK0 {k : Nat} {perm : List Nat} {f : Addr} {fd : FuncData} {ps ks : List Str} {s : FSpec} {x : Str} {p : Pos} {kws : List Keyword} {wk : WA} (c : Calm s) (F : FnG X.prog X.w X.K X.mg X.base CX0 k f fd ps (dSp X.K s)) (hr : RoomG k X.A) (hm : X.mg x = some (.ref f)) (hk : PySem.W.keepIn X.K (.ref f) = true) (hb : KwB X.K fd ps 0 ks perm)
    (hkw : DK X kws wk) (hg : Gl X x := by rfl) (hall : (backToKw pos (keywordEach kws X.env)).all (·.1.isSome) = true := by rfl) (hks : (backToKw pos (keywordEach kws X.env)).filterMap (·.1) = ks := by rfl)
    (hdb : (x == ("__debug__" : Str)) = false := by decide)
    (hpl : ((backTo pos (starEach [] X.env)).any (·.1) || (backToKw pos (keywordEach kws X.env)).any (·.1.isNone)) = false := by rfl) : DE X (.Call (.Name x p) [] kws pos) (wCallK s 0 ks.length perm wNil wk) := by
  refine ⟨PE.imp (peG_callK0 F hr hg hm hk hb pass0 hkw.pe hall hks hdb hpl) fun σ H Q h => ?_, wCallK.mo (fun _ cs _ _ h q => h _ _ q) hkw.mo⟩
  obtain ⟨g, cs, env, sr, l, h⟩ := h
  show lowA X.K wk σ H fun zs H2 => ([] : List V).length = 0 ∧ zs.length = ks.length ∧ dSp X.K s (gP perm ([] ++ zs)) H2 Q E0
  refine lowA.go hkw.mo sr l h fun es cs2 g2 H2 zs ⟨l1, l2, i, e, hp, q⟩ e2 s2 r2 => ⟨rfl, by rw [← r2.length]; exact l2, ?_⟩
  have r3 := gP_repl r2 perm
  rw [show es = [] ++ es from rfl, e] at r3
  exact low_spec c e2 s2 r3 hp q
end
end DL

/-! DOps: operators, built-ins, subscripts, methods, over data. -/
namespace DL
open PySem PySem.Spec L2
open PyProof.Rows (b2i)

section
variable {X : Cx} {a b c : Expr} {wa wb wc : WE} {pos : Pos}
/-- an operator's rule over data, from rules by values -/
theorem OpD.mk' {f : Value → Value → Sem Value} {o : O2} (mo : ∀ d1 d2 cs Q Q', (∀ d cs, Q d cs → Q' d cs) → o d1 d2 cs Q → o d1 d2 cs Q')
    (h : ∀ (pins : List (Addr × Obj)) (s : Shared) (σ : L2.St) (H : Hp) (x y : V) (v u : Value) (Q : VK) (g : G) (cs : Sto) (d1 d2 : D), Inv X pins σ H s → RelV x v → RelV y u → Sr X.K g cs H → Rep X.K g d1 x → Rep X.K g d2 y → o d1 d2 cs (upV X.K g Q) →
      wpAny (model X.prog X.w) X.A (f v u) (EP X pins σ Q) X.xe s) : OpD X f o :=
  ⟨fun pins s σ H x y v u Q I rx ry ⟨g, cs, d1, d2, sr, r1, r2, q⟩ => h pins s σ H x y v u Q g cs d1 d2 I rx ry sr r1 r2 q, mo⟩
/-! ### ints -/
def oI (C : Int → Int → Prop) (f : Int → Int → D) : O2 := fun d1 d2 cs Q => match d1, d2 with
  | .int i, .int j => C i j ∧ Q (f i j) cs
  | _, _ => False
theorem oI.mo {C : Int → Int → Prop} {f : Int → Int → D} : ∀ d1 d2 cs Q Q', (∀ d cs, Q d cs → Q' d cs) → oI C f d1 d2 cs Q → oI C f d1 d2 cs Q' := by
  intro d1 d2 cs Q Q' h q
  unfold oI at q ⊢
  split at q
  · exact ⟨q.1, h _ _ q.2⟩
  · exact q
theorem opd_int {f : Value → Value → Sem Value} {C : Int → Int → Prop} {k : Int → Int → D} {kv : Int → Int → V} (rk : ∀ i j g, Rep X.K g (k i j) (kv i j)) (h : OpR X f (rI C kv)) : OpD X f (oI C k) :=
  .mk' oI.mo fun pins s σ H x y v u Q g cs d1 d2 I rx ry sr r1 r2 q => by
    unfold oI at q
    split at q
    · cases r1
      cases r2
      exact h pins s σ H _ _ v u Q I rx ry ⟨_, _, rfl, rfl, q.1, q.2 g H _ (Ext.refl g) sr (rk _ _ _)⟩
    · exact q.elim
theorem rI_of0 {f : Value → Value → Sem Value} {kv : Int → Int → V} (h : OpR X f (rI0 kv)) : OpR X f (rI (fun _ _ => True) kv) := fun pins s σ H x y v u Q I rx ry ⟨i, j, e1, e2, _, q⟩ => h pins s σ H x y v u Q I rx ry ⟨i, j, e1, e2, q⟩
def cT : Int → Int → Prop := fun _ _ => True
def cMul (i j : Int) : Prop := CMul i j ∨ CMulW i j
theorem opd_sub : OpD X (binaryOp .Sub) (oI cT fun i j => .int (i - j)) := opd_int (fun _ _ _ => rfl) (rI_of0 op_sub)
theorem opd_fdiv : OpD X (binaryOp .FloorDiv) (oI CDivW fun i j => .int (i / j)) := opd_int (fun _ _ _ => rfl) op_fdivW
theorem opd_mod : OpD X (binaryOp .Mod) (oI (fun _ j => 0 < j) fun i j => .int (i % j)) := opd_int (fun _ _ _ => rfl) op_mod
theorem opd_pow : OpD X (binaryOp .Pow) (oI CPow fun i j => .int (i ^ j.toNat)) := opd_int (fun _ _ _ => rfl) op_pow
theorem opd_shl : OpD X (binaryOp .LShift) (oI CPow fun i j => .int (i * 2 ^ j.toNat)) := opd_int (fun _ _ _ => rfl) op_shl
theorem opd_shr : OpD X (binaryOp .RShift) (oI (fun _ j => 0 ≤ j) fun i j => .int (i / 2 ^ j.toNat)) := opd_int (fun _ _ _ => rfl) op_shr
theorem opd_band : OpD X (binaryOp .BitAnd) (oI cT fun i j => .int (Builtin.bitAnd i j)) := opd_int (fun _ _ _ => rfl) (rI_of0 op_and)
theorem opd_bor : OpD X (binaryOp .BitOr) (oI cT fun i j => .int (Builtin.bitOr i j)) := opd_int (fun _ _ _ => rfl) (rI_of0 op_or)
theorem opd_bxor : OpD X (binaryOp .BitXor) (oI cT fun i j => .int (Builtin.bitXor i j)) := opd_int (fun _ _ _ => rfl) (rI_of0 op_xor)
theorem opd_lt : OpD X (compareOp .Lt) (oI cT fun i j => .bl (decide (i < j))) := opd_int (fun _ _ _ => rfl) (rI_of0 op_lt)
theorem opd_le : OpD X (compareOp .LtE) (oI cT fun i j => .bl (decide (i ≤ j))) := opd_int (fun _ _ _ => rfl) (rI_of0 op_le)
theorem opd_gt : OpD X (compareOp .Gt) (oI cT fun i j => .bl (decide (j < i))) := opd_int (fun _ _ _ => rfl) (rI_of0 op_gt)
theorem opd_ge : OpD X (compareOp .GtE) (oI cT fun i j => .bl (decide (j ≤ i))) := opd_int (fun _ _ _ => rfl) (rI_of0 op_ge)
theorem opd_isub : OpD X (inplaceOp .Sub) (oI cT fun i j => .int (i - j)) := opd_int (fun _ _ _ => rfl) (rI_of0 iop_sub)
/-- a + b: ints, an int and a bool, texts, lists, tuples -/
def oAdd : O2 := fun d1 d2 cs Q => match d1, d2 with
  | .int i, .int j => Q (.int (i + j)) cs
  | .int i, .bl k => Q (.int (i + b2i k)) cs
  | .str x, .str y => x.length + y.length ≤ sizeLine ∧ Q (.str (x ++ y)) cs
  | .tup xs, .tup ys => xs.length + ys.length ≤ sizeLine ∧ Q (.tup (xs ++ ys)) cs
  | d1, d2 => ∃ xs ys, lstOf cs d1 = some xs ∧ lstOf cs d2 = some ys ∧ xs.length + ys.length ≤ sizeLine ∧ Q (.lst (xs ++ ys)) cs
theorem opd_add : OpD X (binaryOp .Add) oAdd := by
  refine .mk' (fun d1 d2 cs Q Q' h q => ?_) fun pins s σ H x y v u Q g cs d1 d2 I rx ry sr r1 r2 q => ?_
  · unfold oAdd at q ⊢
    split at q
    · exact h _ _ q
    · exact h _ _ q
    · exact ⟨q.1, h _ _ q.2⟩
    · exact ⟨q.1, h _ _ q.2⟩
    · obtain ⟨xs, ys, e1, e2, z, q⟩ := q
      exact ⟨xs, ys, e1, e2, z, h _ _ q⟩
  · unfold oAdd at q
    split at q
    · cases r1; cases r2
      exact op_add pins s σ H _ _ v u Q I rx ry ⟨_, _, rfl, rfl, q g H _ (Ext.refl g) sr rfl⟩
    · cases r1; cases r2
      exact op_add_ib pins s σ H _ _ v u Q I rx ry ⟨_, _, rfl, rfl, q g H _ (Ext.refl g) sr rfl⟩
    · cases r1; cases r2
      exact op_add_str pins s σ H _ _ v u Q I rx ry ⟨_, _, rfl, rfl, q.1, q.2 g H _ (Ext.refl g) sr rfl⟩
    · rename_i xs ys
      obtain ⟨p, vs, e1, h1, h2⟩ := r1
      obtain ⟨p', us, e2, h3, h4⟩ := r2
      subst e1 e2
      have l1 := h2.length
      have l2 := h4.length
      refine op_catA pins s σ H _ _ v u Q I rx ry ⟨p, p', vs, us, rfl, rfl, sqT_mono sr.le h1, sqT_mono sr.le h3, by omega, fun e => ?_, fun e e' => ?_, fun _ _ => new_tup sr (h2.append h4) q.2⟩
      · subst e
        have : xs = [] := List.length_eq_zero_iff.mp (by simpa using l1)
        subst this
        exact q.2 g H _ (Ext.refl g) sr ⟨p', us, rfl, h3, h4⟩
      · subst e'
        have : ys = [] := List.length_eq_zero_iff.mp (by simpa using l2)
        subst this
        refine q.2 g H _ (Ext.refl g) sr ⟨p, vs, rfl, h1, ?_⟩
        rw [List.append_nil]
        exact h2
    · obtain ⟨xs, ys, e1, e2, z, q⟩ := q
      obtain ⟨p, vs, f1, h1, h2⟩ := rd_of sr e1 r1
      obtain ⟨p', us, f2, h3, h4⟩ := rd_of sr e2 r2
      subst f1 f2
      cases (show v = Value.ref p from rx)
      cases (show u = Value.ref p' from ry)
      obtain ⟨z1, its, n, rv, hl⟩ := I.hok _ _ h1
      obtain ⟨z2, its2, n2, rv2, hl2⟩ := I.hok _ _ h3
      have ez : vs.length + us.length ≤ sizeLine := by rw [← h2.length, ← h4.length]; exact z
      have k1 := rv.length
      have k2 := rv2.length
      refine PySem.P.add_list hl hl2 ?_ (by simp only [List.size_toArray]; omega)
      rw [show its.toArray ++ its2.toArray = (its ++ its2).toArray by simp]
      exact ⟨.ref _, _, I.lnew (t' := s.toks) (rv.append rv2) (by rw [List.length_append]; exact ez), rfl, new_lst sr (h2.append h4) q _ I.fresh⟩
def oMul : O2 := fun d1 d2 cs Q => match d1, d2 with
  | .int i, .int j => cMul i j ∧ Q (.int (i * j)) cs
  | .tup xs, .int k => (xs ≠ [] ∧ 1 ≤ k ∧ xs.length * k.toNat ≤ sizeLine) ∧ Q (.tup (List.replicate k.toNat xs).flatten) cs
  | d1, .int k => ∃ xs, lstOf cs d1 = some xs ∧ -(2 ^ 63) ≤ k ∧ k < 2 ^ 63 ∧ xs.length * k.toNat ≤ sizeLine ∧ Q (.lst (List.replicate k.toNat xs).flatten) cs
  | _, _ => False
theorem RepL.rep {K : PySem.W.Frag} {g : G} {ds : List D} {vs : List V} (r : RepL K g ds vs) : ∀ n : Nat, RepL K g (List.replicate n ds).flatten (List.replicate n vs).flatten
  | 0 => rfl
  | n + 1 => by
    rw [List.replicate_succ, List.replicate_succ, List.flatten_cons, List.flatten_cons]
    exact r.append (RepL.rep r n)
theorem tuple_mul1 (l : Addr) (items : Array Value) (n : Nat) (dd : Option Addr) (sl : Array (Option Value)) (u : Tok) :
    Meets (Builtin.«tuple.__mul__» ⟨[.ref l, .int 1 u], []⟩) (fun _ R s => s.heap.get? l = some { cls := .type "tuple", dict := dd, data := .seq items n, slots := sl } ∧ R (.ok (.ret (Value.ref l))) s) :=
  .of_wp fun prog w A R s h => by
    obtain ⟨hp, g, d, tk, os⟩ := s
    obtain ⟨hl, h⟩ := h
    have f1 := PySem.AutoSeq1.idx_int
    have c1 : (items.isEmpty || (1 : Int) == 1) = true := by simp
    wp_walk using wpAny_loadPart' hl
    repeat (first
      | (refine wpAny_ite_true (decide_eq_true (by rw [c1])) ?_; wp_walk using wpAny_loadPart' hl)
      | (refine wpAny_ite_false (decide_eq_false (by simp)) ?_; wp_walk using wpAny_loadPart' hl))
    exact ⟨_, rfl, h⟩
theorem op_repT1 : OpR X (binaryOp .Mult) (fun x y H Q => ∃ l k xs, x = .ref l ∧ y = .int k ∧ SqT X.K H l xs ∧ xs ≠ [] ∧ 1 ≤ k ∧ xs.length * k.toNat ≤ sizeLine ∧ (k = 1 → Q (.ref l) H) ∧ ∀ p, H p = none → Q (.ref p) (upd H p (.tup (List.replicate k.toNat xs).flatten))) := by
  intro pins s σ H x y v u Q I rx ry h
  obtain ⟨l, k, xs, rfl, rfl, hT, hne, h1, hz, q1, q⟩ := h
  cases rx
  obtain ⟨t, rfl⟩ := ry
  obtain ⟨its, r, ⟨⟨cls, dd, data, sl⟩, ho, hc, n, hd⟩, hs⟩ := I.tuple hT
  simp only at hc hd
  subst hc hd
  have hle : its.length = xs.length := r.length.symm
  by_cases hk : k = 1
  · subst hk
    refine wpAny_binaryOp_repeat_ref (T := "tuple") (U := "int") (by decide) ⟨_, ho, rfl⟩ (fun s' => typeIs_int s' _ t) noFill_tuple_mul F.fills_int_mul F.slot_int_rmul repeat_tuple F.slot_int_index.lookup
      (call_meets F.slot_int_rmul (typeIs_int s _ t) F.entry_int_rmul (F.args_int_rmul_2 _ _) (int_rmul_tuple _ t l its.toArray n dd sl)
        ⟨ho, rfl, ⟨_, ho, rfl⟩, call_meets F.slot_tuple_mul ⟨_, ho, rfl⟩ F.entry_tuple_mul (F.args_tuple_mul_2 _ _) (tuple_mul1 l its.toArray n dd sl t) ⟨ho, ?_⟩⟩)
    exact ⟨.ref l, H, I, rfl, q1 rfl⟩
  have hn : its ≠ [] := fun e => hne (by
    rw [e] at hle
    exact List.eq_nil_of_length_eq_zero hle.symm)
  have hi : its.toArray.isEmpty = false := by
    cases its with
    | nil => exact absurd rfl hn
    | cons a b => rfl
  have hsz0 : its.toArray.size = xs.length := by rw [List.size_toArray, hle]
  have hx0 : 0 < xs.length := List.length_pos_iff.mpr hne
  have hzz := sizeLine_eq
  have hk2 : k.toNat ≤ sizeLine := Nat.le_trans (Nat.le_mul_of_pos_left _ hx0) hz
  have hm0 : ((its.toArray.size : Nat) : Int) * k = ((xs.length * k.toNat : Nat) : Int) := by
    rw [hsz0, Int.natCast_mul, Int.toNat_of_nonneg (by omega)]
  have hm : ((its.toArray.size : Nat) : Int) * k ≤ (sizeLine : Nat) := by
    rw [hm0]
    omega
  have flen : (List.replicate k.toNat its).flatten.length ≤ sizeLine := by
    rw [PyProof.Rows.lm_len_rep_flat, hle, Nat.mul_comm]
    exact hz
  have c0 : (decide (k < -(2 ^ 63)) || decide (k ≥ 2 ^ 63)) = false := by
    rw [decide_eq_false (by omega), decide_eq_false (by omega)] <;> rfl
  have c1 : (its.toArray.isEmpty || k == 1) = false := by
    rw [hi, Bool.false_or]
    exact beq_eq_false_iff_ne.mpr hk
  have c2 : (decide (k ≤ 0) || its.toArray.isEmpty) = false := by
    rw [hi, Bool.or_false]
    exact decide_eq_false (by omega)
  have c4 : Builtin.Tuple.tupleTooMany (((its.toArray.size : Nat) : Int) * k) = false := by
    unfold Builtin.Tuple.tupleTooMany
    exact decide_eq_false (by omega)
  refine wpAny_binaryOp_repeat_ref (T := "tuple") (U := "int") (by decide) ⟨_, ho, rfl⟩ (fun s' => typeIs_int s' k t) noFill_tuple_mul F.fills_int_mul F.slot_int_rmul repeat_tuple F.slot_int_index.lookup
    (call_meets F.slot_int_rmul (typeIs_int s k t) F.entry_int_rmul (F.args_int_rmul_2 _ _) (int_rmul_tuple k t l its.toArray n dd sl)
      ⟨ho, rfl, ⟨_, ho, rfl⟩, call_meets F.slot_tuple_mul ⟨_, ho, rfl⟩ F.entry_tuple_mul (F.args_tuple_mul_2 _ _) (tuple_mulW l its.toArray n dd sl k t c0 c1 c2 (by omega) c4 (by rw [size_rep, List.size_toArray]; exact flen)) ⟨ho, ?_⟩⟩)
  rw [size_rep]
  refine ⟨.ref s.heap.objs.size, _, I.laid (t' := s.toks) (o := .tup (List.replicate k.toNat xs).flatten) (fun b ob q => Heap.get?_push_of_some _ q) (Nat.le_refl _) ?_, rfl, q _ (I.hok.fresh (Nat.le_refl _))⟩
  exact ⟨by rw [PyProof.Rows.lm_len_rep_flat, Nat.mul_comm]; exact hz, _, r.rep k.toNat, PyProof.Rows.IsTup.new _ _⟩
theorem opd_mul : OpD X (binaryOp .Mult) oMul := by
  refine .mk' (fun d1 d2 cs Q Q' h q => ?_) fun pins s σ H x y v u Q g cs d1 d2 I rx ry sr r1 r2 q => ?_
  · unfold oMul at q ⊢
    split at q
    · exact ⟨q.1, h _ _ q.2⟩
    · exact ⟨q.1, h _ _ q.2⟩
    · obtain ⟨xs, e1, z1, z2, z3, q⟩ := q
      exact ⟨xs, e1, z1, z2, z3, h _ _ q⟩
    · exact q
  · unfold oMul at q
    split at q
    · cases r1; cases r2
      obtain ⟨c, q⟩ := q
      rcases c with c | c
      · exact op_mul pins s σ H _ _ v u Q I rx ry ⟨_, _, rfl, rfl, c, q g H _ (Ext.refl g) sr rfl⟩
      · exact op_mulW pins s σ H _ _ v u Q I rx ry ⟨_, _, rfl, rfl, c, q g H _ (Ext.refl g) sr rfl⟩
    · obtain ⟨⟨z1, z2, z3⟩, q⟩ := q
      cases r2
      obtain ⟨p, vs, f1, h1, h2⟩ := r1
      subst f1
      refine op_repT1 pins s σ H _ _ v u Q I rx ry ⟨p, _, vs, rfl, rfl, sqT_mono sr.le h1, fun e => z1 ?_, z2, by rw [← h2.length]; exact z3, fun e => ?_, new_tup sr (h2.rep _) q⟩
      · subst e
        exact List.length_eq_zero_iff.mp h2.length
      · subst e
        refine q g H _ (Ext.refl g) sr ⟨p, vs, rfl, h1, ?_⟩
        simpa using h2
    · obtain ⟨xs, e1, z1, z2, z3, q⟩ := q
      cases r2
      obtain ⟨p, vs, f1, h1, h2⟩ := rd_of sr e1 r1
      subst f1
      exact op_rep pins s σ H _ _ v u Q I rx ry ⟨p, _, vs, rfl, rfl, h1, z1, z2, by rw [← h2.length]; exact z3, new_lst sr (h2.rep _) q⟩
    · exact q.elim
theorem opd_iadd_i : OpD X (inplaceOp .Add) (oI cT fun i j => .int (i + j)) := opd_int (fun _ _ _ => rfl) (rI_of0 iop_add)
/-! ### one value -/
def oU (f : Int → D) : O1 := fun d cs Q => match d with
  | .int i => Q (f i) cs
  | _ => False
theorem und_int {f : Value → Sem Value} {k : Int → D} {kv : Int → V} (rk : ∀ i g, Rep X.K g (k i) (kv i)) (h : UnR X f (rU kv)) : UnD X f (oU k) := by
  refine ⟨fun pins s σ H x v Q I rx ⟨g, cs, d, sr, r, q⟩ => ?_, fun d cs Q Q' hq q => ?_⟩
  · unfold oU at q
    split at q
    · cases r
      exact h pins s σ H _ v Q I rx ⟨_, rfl, q g H _ (Ext.refl g) sr (rk _ _)⟩
    · exact q.elim
  · unfold oU at q ⊢
    split at q
    · exact hq _ _ q
    · exact q
theorem und_neg : UnD X (unaryOp .USub) (oU fun i => .int (-i)) := und_int (fun _ _ => rfl) un_neg
theorem und_inv : UnD X (unaryOp .Invert) (oU fun i => .int (Builtin.bitNot i)) := und_int (fun _ _ => rfl) un_inv
/-! ### data compared -/
mutual
def toPy : D → Option PyData
  | .non => some .none
  | .bl b => some (.bool b)
  | .int i => some (.int i)
  | .str x => some (.str x)
  | .tup ds => match toPyL ds with
    | some ps => some (.tuple ps)
    | none => none
  | .lst ds => match toPyL ds with
    | some ps => some (.list ps)
    | none => none
  | _ => none
def toPyL : List D → Option (List PyData)
  | [] => some []
  | d :: ds => match toPy d with
    | some p => match toPyL ds with
      | some ps => some (p :: ps)
      | none => none
    | none => none
end
def pyOf (cs : Sto) : D → Option PyData
  | .cell i => match cs[i]? with
    | some (.lst ds) => match toPyL ds with
      | some ps => some (.list ps)
      | none => none
    | _ => none
  | d => toPy d
section
variable {K : PySem.W.Frag} {g : G} {cs : Sto} {H : Hp}
mutual
theorem dp_toPy (s : Sr K g cs H) : ∀ (d : D) (v : V) (p : PyData), toPy d = some p → Rep K g d v → Dp K H v p
  | .non, v, p, e, r => by cases r; simp only [toPy, Option.some.injEq] at e; subst e; exact .non
  | .bl b, v, p, e, r => by cases r; simp only [toPy, Option.some.injEq] at e; subst e; exact .bl b
  | .int i, v, p, e, r => by cases r; simp only [toPy, Option.some.injEq] at e; subst e; exact .int i
  | .str x, v, p, e, r => by cases r; simp only [toPy, Option.some.injEq] at e; subst e; exact .str x
  | .tup ds, v, p, e, r => by
    unfold toPy at e
    split at e
    · rename_i ps hp
      cases e
      obtain ⟨a, vs, e1, h1, h2⟩ := r
      subst e1
      exact .tup (sqT_mono s.le h1) (dp_toPyL s ds vs ps hp h2)
    · cases e
  | .lst ds, v, p, e, r => by
    unfold toPy at e
    split at e
    · rename_i ps hp
      cases e
      obtain ⟨a, vs, e1, h1, h2⟩ := r
      subst e1
      exact .lst (.of (s.le _ _ h1)) (dp_toPyL s ds vs ps hp h2)
    · cases e
  | .ty _, _, _, e, _ => by simp [toPy] at e
  | .ref _, _, _, e, _ => by simp [toPy] at e
  | .dic _, _, _, e, _ => by simp [toPy] at e
  | .obj _ _, _, _, e, _ => by simp [toPy] at e
  | .cell _, _, _, e, _ => by simp [toPy] at e
  | .scr _, _, _, e, _ => by simp [toPy] at e
theorem dp_toPyL (s : Sr K g cs H) : ∀ (ds : List D) (vs : List V) (ps : List PyData), toPyL ds = some ps → RepL K g ds vs → DpAll K H vs ps
  | [], vs, ps, e, r => by
    have r' : vs = [] := r
    subst r'
    simp only [toPyL, Option.some.injEq] at e
    subst e
    exact .nil
  | d :: ds, vs, ps, e, r => by
    obtain ⟨v, vr, e1, h1, h2⟩ := r
    subst e1
    unfold toPyL at e
    split at e
    · rename_i p hp
      split at e
      · rename_i qs hq
        cases e
        exact .cons (dp_toPy s d v p hp h1) (dp_toPyL s ds vr qs hq h2)
      · cases e
    · cases e
end
theorem dp_pyOf (s : Sr K g cs H) {d : D} {v : V} {p : PyData} (e : pyOf cs d = some p) (r : Rep K g d v) : Dp K H v p := by
  unfold pyOf at e
  split at e
  · rename_i i
    split at e
    · rename_i ds hc
      split at e
      · rename_i ps hp
        cases e
        obtain ⟨a, vs, e1, h1, h2⟩ := lst_of s (d := .cell i) (ds := ds) (by simp [lstOf, hc]) r
        subst e1
        exact .lst h1 (dp_toPyL s ds vs ps hp h2)
      · cases e
    · cases e
  · exact dp_toPy s _ v p e r
end
def oEq (neg : Bool) : O2 := fun d1 d2 cs Q => match d1, d2 with
  | .str x, .str y => Q (.bl (if neg = true then !decide (x = y) else decide (x = y))) cs
  | d1, d2 => ∃ p q, pyOf cs d1 = some p ∧ pyOf cs d2 = some q ∧ SeqAt.shaped p = true ∧ SeqAt.shaped q = true ∧ Q (.bl (if neg = true then !PyData.eqv p q else PyData.eqv p q)) cs
theorem oEq.mo {neg : Bool} : ∀ d1 d2 cs Q Q', (∀ d cs, Q d cs → Q' d cs) → oEq neg d1 d2 cs Q → oEq neg d1 d2 cs Q' := fun d1 d2 cs Q Q' h z => by
  unfold oEq at z ⊢
  split at z
  · exact h _ _ z
  · obtain ⟨p, q, e1, e2, e3, e4, z⟩ := z
    exact ⟨p, q, e1, e2, e3, e4, h _ _ z⟩
theorem dec_strV {x y : Str} : decide (V.str x = V.str y) = decide (x = y) := by
  rw [Bool.eq_iff_iff]
  simp
theorem opd_eq (hu : X.A.units + 64 < cLine) : OpD X (compareOp .Eq) (oEq false) := .mk' oEq.mo fun pins s σ H x y v u Q g cs d1 d2 I rx ry sr r1 r2 z => by
  unfold oEq at z
  split at z
  · cases r1
    cases r2
    exact op_eq pins s σ H _ _ v u Q I rx ry ⟨rfl, by rw [dec_strV]; exact z g H _ (Ext.refl g) sr rfl⟩
  · obtain ⟨p, q, e1, e2, e3, e4, z⟩ := z
    exact op_eqD hu pins s σ H x y v u Q I rx ry ⟨p, q, dp_pyOf sr e1 r1, dp_pyOf sr e2 r2, e3, e4, z g H _ (Ext.refl g) sr rfl⟩
theorem opd_ne (hu : X.A.units + 64 < cLine) : OpD X (compareOp .NotEq) (oEq true) := .mk' oEq.mo fun pins s σ H x y v u Q g cs d1 d2 I rx ry sr r1 r2 z => by
  unfold oEq at z
  split at z
  · cases r1
    cases r2
    exact op_ne pins s σ H _ _ v u Q I rx ry ⟨rfl, by rw [dec_strV]; exact z g H _ (Ext.refl g) sr rfl⟩
  · obtain ⟨p, q, e1, e2, e3, e4, z⟩ := z
    exact op_neD hu pins s σ H x y v u Q I rx ry ⟨p, q, dp_pyOf sr e1 r1, dp_pyOf sr e2 r2, e3, e4, z g H _ (Ext.refl g) sr rfl⟩
/-- is None -/
def isNon : D → Bool
  | .non => true
  | _ => false
def oIsN (neg : Bool) : O2 := fun d1 d2 cs Q => match d2, d1 with
  | .non, d1 => Q (.bl (if neg = true then !isNon d1 else isNon d1)) cs
  | .bl b, .bl a => Q (.bl (if neg = true then !(decide (a = b)) else decide (a = b))) cs
  | _, _ => False
theorem isNon_rep {K : PySem.W.Frag} {g : G} : ∀ {d : D} {v : V}, Rep K g d v → decide (v = .non) = isNon d
  | .non, _, r => by cases r; rfl
  | .bl _, _, r => by cases r; rfl
  | .int _, _, r => by cases r; rfl
  | .str _, _, r => by cases r; rfl
  | .ty _, _, r => by cases r; rfl
  | .ref _, _, r => by cases r; rfl
  | .tup _, _, r => by obtain ⟨a, vs, e, _⟩ := r; subst e; rfl
  | .lst _, _, r => by obtain ⟨a, vs, e, _⟩ := r; subst e; rfl
  | .dic _, _, r => by obtain ⟨a, vs, e, _⟩ := r; subst e; rfl
  | .obj _ _, _, r => by obtain ⟨a, dx, vs, e, _⟩ := r; subst e; rfl
  | .cell _, _, r => by obtain ⟨a, e, _⟩ := r; subst e; rfl
  | .scr _, _, r => by obtain ⟨a, e, _⟩ := r; subst e; rfl
theorem oIsN.mo {neg : Bool} : ∀ d1 d2 cs Q Q', (∀ d cs, Q d cs → Q' d cs) → oIsN neg d1 d2 cs Q → oIsN neg d1 d2 cs Q' := fun d1 d2 cs Q Q' h q => by
  unfold oIsN at q ⊢
  split at q
  · exact h _ _ q
  · exact h _ _ q
  · exact q.elim
theorem opd_is : OpD X (compareOp .Is) (oIsN false) := .mk' oIsN.mo fun pins s σ H x y v u Q g cs d1 d2 I rx ry sr r1 r2 q => by
  unfold oIsN at q
  split at q
  · cases r2
    exact op_isN pins s σ H _ _ v u Q I rx ry ⟨rfl, by rw [isNon_rep r1]; exact q g H _ (Ext.refl g) sr rfl⟩
  · cases r1; cases r2
    exact op_isBl pins s σ H _ _ v u Q I rx ry ⟨_, _, rfl, rfl, q g H _ (Ext.refl g) sr rfl⟩
  · exact q.elim
theorem opd_isnot : OpD X (compareOp .IsNot) (oIsN true) := .mk' oIsN.mo fun pins s σ H x y v u Q g cs d1 d2 I rx ry sr r1 r2 q => by
  unfold oIsN at q
  split at q
  · cases r2
    exact op_notN pins s σ H _ _ v u Q I rx ry ⟨rfl, by rw [isNon_rep r1]; exact q g H _ (Ext.refl g) sr rfl⟩
  · cases r1; cases r2
    exact op_notBl pins s σ H _ _ v u Q I rx ry ⟨_, _, rfl, rfl, q g H _ (Ext.refl g) sr rfl⟩
  · exact q.elim
/-! ### subscripts -/
theorem atI_rep {K : PySem.W.Frag} {g : G} {ds : List D} {vs : List V} {i : Int} {d : D} (r : RepL K g ds vs) (h : atI ds i = some d) : ∃ v, atI vs i = some v ∧ Rep K g d v := by
  unfold atI at h ⊢
  rw [← r.length]
  cases e : ixN ds.length i with
  | none => rw [e] at h; cases h
  | some j =>
    rw [e] at h
    exact r.get h
def oIx : O2 := fun d1 d2 cs Q => match d2 with
  | .int i => match d1 with
    | .str z => ∃ c, z.length ≤ sizeLine ∧ atI z.cps.toList i = some c ∧ Q (.str ⟨#[c]⟩) cs
    | d1 => ∃ ds d, seqOf cs d1 = some ds ∧ atI ds i = some d ∧ Q d cs
  | _ => False
theorem oIx.mo : ∀ d1 d2 cs Q Q', (∀ d cs, Q d cs → Q' d cs) → oIx d1 d2 cs Q → oIx d1 d2 cs Q' := fun d1 d2 cs Q Q' h q => by
  unfold oIx at q ⊢
  split at q
  · split at q
    · obtain ⟨c, e, e2, q⟩ := q
      exact ⟨c, e, e2, h _ _ q⟩
    · obtain ⟨ds, d, e, e2, q⟩ := q
      exact ⟨ds, d, e, e2, h _ _ q⟩
  · exact q
theorem de_ix (ha : DE X a wa) (hb : DE X b wb) (hs : PlainIx b := by exact fun _ _ => rfl) : DE X (.Subscript a b pos) (wOp oIx wa wb) := by
  refine ⟨⟨fun pins s σ H Q I h => ?_⟩, wOp.mo oIx.mo ha.mo hb.mo⟩
  refine (pe_ix (r := lowO X.K oIx) (fun value slice pins s σ H x y v u Q I rx ry ⟨g, cs, d1, d2, sr, r1, r2, q⟩ hsub => ?_) ha.pe hb.pe hs).run pins s σ H Q I (low_op oIx.mo ha hb h)
  unfold oIx at q
  split at q
  · cases r2
    split at q
    · obtain ⟨c, e, e2, q⟩ := q
      cases r1
      exact ix_seq value slice pins s σ H _ _ v u Q I rx ry (.inr (.inr ⟨_, _, c, rfl, rfl, e, e2, q g H _ (Ext.refl g) sr rfl⟩)) hsub
    · obtain ⟨ds, d, e, e2, q⟩ := q
      obtain ⟨p, vs, f1, h1, h2⟩ := seq_of sr e r1
      subst f1
      obtain ⟨w', q1, q2⟩ := atI_rep h2 e2
      rcases h1 with h1 | h1
      · exact ix_seq value slice pins s σ H _ _ v u Q I rx ry (.inl ⟨p, vs, _, w', rfl, rfl, h1, q1, q g H _ (Ext.refl g) sr q2⟩) hsub
      · exact ix_seq value slice pins s σ H _ _ v u Q I rx ry (.inr (.inl ⟨p, vs, _, w', rfl, rfl, h1, q1, q g H _ (Ext.refl g) sr q2⟩)) hsub
  · exact q.elim
/-- a part of a slice -/
abbrev WO := En → Sto → (Option Int → Sto → Prop) → Prop
def lowP (K : PySem.W.Frag) (w : WO) : TO := fun σ H Q => ∃ g cs env, Sr K g cs H ∧ Lr K g env σ ∧ w env cs fun o cs' => ∀ g' H', Ext g g' → Sr K g' cs' H' → Q o H'
structure DP (X : Cx) (e : Option Expr) (w : WO) : Prop where
  pe : PO X e (lowP X.K w)
  mo : ∀ env cs Q Q', (∀ o cs, Q o cs → Q' o cs) → w env cs Q → w env cs Q'
def wPn : WO := fun _ cs Q => Q none cs
def wPs (we : WE) : WO := fun env cs Q => we env cs fun d cs' => match d with
  | .int i => Q (some i) cs'
  | _ => False
theorem dp_none : DP X none wPn := ⟨⟨fun pins s σ H Q I ⟨g, cs, env, sr, l, h⟩ => po_none.run pins s σ H Q I (h g H (Ext.refl g) sr)⟩, fun _ _ _ _ h q => h _ _ q⟩
theorem dp_some (ha : DE X a wa) : DP X (some a) (wPs wa) := by
  refine ⟨⟨fun pins s σ H Q I ⟨g, cs, env, sr, l, h⟩ => (po_some ha.pe).run pins s σ H Q I (lowE.go ha.mo sr l h fun d cs1 g1 H1 v1 h1 e1 s1 r1 => ?_)⟩, fun env cs Q Q' h q => ha.mo env cs _ _ (fun d cs' q => ?_) q⟩
  · cases d with
    | int i => exact ⟨i, r1, h1 g1 H1 e1 s1⟩
    | _ => exact False.elim h1
  · cases d <;> first | exact h _ _ q | exact q
def cutD (ds : List D) (lo hi : Option Int) : List D := (ds.drop (HT.sIx ds.length 0 lo)).take (HT.sIx ds.length ds.length hi - HT.sIx ds.length 0 lo)
theorem cutD_rep {K : PySem.W.Frag} {g : G} {ds : List D} {vs : List V} (r : RepL K g ds vs) (lo hi : Option Int) : RepL K g (cutD ds lo hi) (cutV vs lo hi) := by
  unfold cutD cutV
  rw [r.length]
  exact (r.drop _).take _
def oSl (d : D) (lo hi : Option Int) (cs : Sto) (Q : PD) : Prop := match d with
  | .scr ns => Q (.lst (cutD (ns.map .int) lo hi)) cs
  | .tup ds => Q (.tup (cutD ds lo hi)) cs
  | .str z => z.length ≤ sizeLine ∧ Q (.str (cutS z lo hi)) cs
  | d => ∃ ds, lstOf cs d = some ds ∧ Q (.lst (cutD ds lo hi)) cs
theorem oSl.mo {d : D} {lo hi : Option Int} {cs : Sto} {Q Q' : PD} (h : ∀ d cs, Q d cs → Q' d cs) (q : oSl d lo hi cs Q) : oSl d lo hi cs Q' := by
  unfold oSl at q ⊢
  split at q
  · exact h _ _ q
  · exact h _ _ q
  · exact ⟨q.1, h _ _ q.2⟩
  · obtain ⟨ds, e, q⟩ := q
    exact ⟨ds, e, h _ _ q⟩
def wSl (we : WE) (wl wh : WO) : WE := fun env cs Q => we env cs fun d cs1 => wl env cs1 fun lo cs2 => wh env cs2 fun hi cs3 => oSl d lo hi cs3 Q
def lowSl (K : PySem.W.Frag) : V → Option Int → Option Int → Hp → VK → Prop := fun x lo hi H Q => ∃ g cs d, Sr K g cs H ∧ Rep K g d x ∧ oSl d lo hi cs (upV K g Q)
theorem slr_d : SlR X (lowSl X.K) := by
  intro pins s σ H x v vl vu lo hi sl Q I rx hs pl pu ⟨g, cs, d, sr, r, q⟩
  unfold oSl at q
  split at q
  · obtain ⟨p, e1, h1⟩ := r
    subst e1
    exact sl_list pins s σ H _ v vl vu lo hi sl Q I rx hs pl pu ⟨p, _, rfl, sqL_mono sr.le h1, new_lst sr (cutD_rep (.of_ints _) lo hi) q⟩
  · rename_i ds
    obtain ⟨p, vs, e1, h1, h2⟩ := r
    subst e1
    refine sl_tupA pins s σ H _ v vl vu lo hi sl Q I rx hs pl pu ⟨p, vs, rfl, sqT_mono sr.le h1, fun ⟨z1, z2⟩ => ?_, fun _ => new_tup sr (cutD_rep h2 lo hi) q⟩
    refine q g H _ (Ext.refl g) sr ⟨p, vs, rfl, h1, ?_⟩
    unfold cutD
    rw [h2.length, z1, z2]
    have : (List.take (vs.length - 0) (List.drop 0 ds)) = ds := by
      rw [List.drop_zero, Nat.sub_zero, ← h2.length, List.take_length]
    rw [this]
    exact h2
  · cases r
    exact sl_str pins s σ H _ v vl vu lo hi sl Q I rx hs pl pu ⟨_, rfl, q.1, q.2 g H _ (Ext.refl g) sr rfl⟩
  · obtain ⟨ds, e, q⟩ := q
    obtain ⟨p, vs, e1, h1, h2⟩ := lst_of sr e r
    subst e1
    exact sl_list pins s σ H _ v vl vu lo hi sl Q I rx hs pl pu ⟨p, vs, rfl, h1, new_lst sr (cutD_rep h2 lo hi) q⟩
theorem de_slice {lo hi : Option Expr} {wl wh : WO} {p2 : Pos} (ha : DE X a wa) (hl : DP X lo wl) (hh : DP X hi wh) : DE X (.Subscript a (.Slice lo hi none p2) pos) (wSl wa wl wh) := by
  refine ⟨PE.imp (pe_slice slr_d ha.pe hl.pe hh.pe) fun σ H Q ⟨g, cs, env, sr, l, h⟩ => ?_, fun env cs Q Q' h q => ha.mo env cs _ _ (fun d cs1 q => hl.mo env cs1 _ _ (fun o cs2 q => hh.mo env cs2 _ _ (fun o2 cs3 q => oSl.mo h q) q) q) q⟩
  refine lowE.go ha.mo sr l h fun d cs1 g1 H1 v1 h1 e1 s1 r1 => ?_
  refine ⟨g1, cs1, env, s1, l.mono e1, hl.mo _ _ _ _ (fun o cs2 h2 g2 H2 e2 s2 => ?_) h1⟩
  refine ⟨g2, cs2, env, s2, (l.mono e1).mono e2, hh.mo _ _ _ _ (fun o2 cs3 h3 g3 H3 e3 s3 => ?_) h2⟩
  exact ⟨g3, cs3, d, s3, (r1.mono e2).mono e3, oSl.mo (fun _ _ q => upV.mono ((e1.trans e2).trans e3) q) h3⟩
/-- xs[i] = e -/
def wStore (we wo wi : WE) : WS := fun E env cs => we env cs fun d cs1 => wo env cs1 fun o cs2 => wi env cs2 fun k cs3 => match o, k with
  | .cell n, .int i => ∃ ds j, cs3[n]? = some (.lst ds) ∧ ixN ds.length i = some j ∧ E.nx env (cs3.set n (.lst (ds.set j d)))
  | _, _ => False
theorem ds_store {e o i : Expr} {we wo wi : WE} {tpos : Pos} (he : DE X e we) (ho : DE X o wo) (hi : DE X i wi)
    (ha : ∀ v, assign (.Subscript o i tpos) X.env v = (do
      let ov ← holding [v] (eval o X.env)
      let iv ← holding [v, ov] (eval i X.env)
      standAt tpos
      holding [v, ov, iv] (setItem ov iv v)
      release [v, ov, iv] []) := by intro _; rfl)
    (hs : swapsWithSole [.Subscript o i tpos] e pos.line X.env = pure false := by rfl) (hw : swappedStores [.Subscript o i tpos] e X.env = pure none := by rfl) (h1 : (assignEach [.Subscript o i tpos] X.env).map (·.2) = [assign (.Subscript o i tpos) X.env] := by rfl) :
    DS X (.Assign [.Subscript o i tpos] e pos) (wStore we wo wi) := by
  refine ⟨PS.imp (ps_asg he.pe (pg_sub ho.pe hi.pe set_list ha) hs hw h1) fun D σ H ⟨g, cs, env, sr, l, h⟩ => ?_, fun E E' env cs h q => he.mo _ _ _ _ (fun d cs1 q => ho.mo _ _ _ _ (fun o cs2 q => hi.mo _ _ _ _ (fun k cs3 q => ?_) q) q) q⟩
  · refine lowE.go he.mo sr l h fun d cs1 g1 H1 v1 h1 e1 s1 r1 => ?_
    refine lowE.go ho.mo s1 (l.mono e1) h1 fun od cs2 g2 H2 v2 h2 e2 s2 r2 => ?_
    refine lowE.go hi.mo s2 ((l.mono e1).mono e2) h2 fun kd cs3 g3 H3 v3 h3 e3 s3 r3 => ?_
    split at h3
    · rename_i n i
      obtain ⟨ds, j, hc, hj, q⟩ := h3
      cases r3
      obtain ⟨p, e4, h4⟩ := r2.mono e3
      subst e4
      obtain ⟨vs, q1, q2, q3⟩ := s3.ok n p _ h4 hc
      refine ⟨p, vs, _, j, rfl, rfl, q1, by rw [← q2.length]; exact hj, ?_⟩
      exact q g3 _ σ ((e1.trans e2).trans e3) (s3.put h4 hc (by simp) ⟨_, upd_same, q2.set ((r1.mono e2).mono e3) j, q3⟩) (l.mono ((e1.trans e2).trans e3))
    · exact h3.elim
  · split at q
    · obtain ⟨ds, j, hc, hj, q⟩ := q
      exact ⟨ds, j, hc, hj, h.nx _ _ q⟩
    · exact q
end
end DL

/-! DBlt: built-in functions and types, walks of pairs, methods of lists, over data. -/
namespace DL
open PySem PySem.Spec L2
abbrev OC := List D → Sto → PD → Prop
def lowC (K : PySem.W.Frag) (o : OC) : List V → Hp → VK → Prop := fun xs H Q => ∃ g cs ds, Sr K g cs H ∧ RepL K g ds xs ∧ o ds cs (upV K g Q)
structure CallD (X : Cx) (f : Value) (o : OC) : Prop where
  op : CallR X f (lowC X.K o)
  mo : ∀ ds cs Q Q', (∀ d cs, Q d cs → Q' d cs) → o ds cs Q → o ds cs Q'
section
variable {X : Cx} {a b c : Expr} {wa wb wc : WE} {pos : Pos}
theorem CallD.mk' {f : Value} {o : OC} (mo : ∀ ds cs Q Q', (∀ d cs, Q d cs → Q' d cs) → o ds cs Q → o ds cs Q')
    (h : ∀ (pins : List (Addr × Obj)) (s : Shared) (σ : L2.St) (H : Hp) (xs : List V) (us : List Value) (Q : VK) (g : G) (cs : Sto) (ds : List D), Inv X pins σ H s → Vals xs us → Sr X.K g cs H → RepL X.K g ds xs → o ds cs (upV X.K g Q) →
      wpAny (model X.prog X.w) X.A (call f us) (EP X pins σ Q) X.xe s) : CallD X f o :=
  ⟨fun pins s σ H xs us Q I r ⟨g, cs, ds, sr, r1, q⟩ => h pins s σ H xs us Q g cs ds I r sr r1 q, mo⟩
def wB (o : OC) (w : WA) : WE := fun env cs Q => w env cs fun ds cs1 => o ds cs1 Q
theorem wB.mo {o : OC} {w : WA} (mo : ∀ ds cs Q Q', (∀ d cs, Q d cs → Q' d cs) → o ds cs Q → o ds cs Q') (h : MonoA w) : MonoE (wB o w) := fun env cs Q Q' hq q => h _ _ _ _ (fun ds cs1 q => mo _ _ _ _ hq q) q
theorem de_callB {id : String} {o : OC} {x : Str} {p : Pos} {e : Expr} {es : List Expr} {w : WA} (hc : CallD X (.builtin id) o) (hm : X.mg x = none) (hv : bootBuiltins x = some (.builtin id)) (ha : DA X (e :: es) w) (hg : Gl X x := by rfl) (hn : x ≠ "__name__" := by decide) (hdb : (x == ("__debug__" : Str)) = false := by decide)
    (he : starEach (e :: es) X.env = (false, eval e X.env) :: starEach es X.env := by rfl) (hpl : (backTo pos (starEach es X.env)).any (·.1) = false := by rfl) : DE X (.Call (.Name x p) (e :: es) [] pos) (wB o w) :=
  ⟨PE.imp (pe_callB hc.op hg hm hv ha.pe hn hdb he hpl) fun σ H Q ⟨g, cs, env, sr, l, h⟩ => lowA.go ha.mo sr l h fun ds cs1 g1 H1 vs h1 e1 s1 r1 => ⟨g1, cs1, ds, s1, r1, hc.mo _ _ _ _ (fun _ _ q => upV.mono e1 q) h1⟩, wB.mo hc.mo ha.mo⟩
theorem de_callT {T : String} {o : OC} {x : Str} {p : Pos} {e : Expr} {es : List Expr} {w : WA} (hc : CallD X (.type T) o) (hm : X.mg x = none) (hv : bootBuiltins x = some (.type T)) (ha : DA X (e :: es) w) (hg : Gl X x := by rfl) (hn : x ≠ "__name__" := by decide) (hdb : (x == ("__debug__" : Str)) = false := by decide)
    (he : starEach (e :: es) X.env = (false, eval e X.env) :: starEach es X.env := by rfl) (hpl : (backTo pos (starEach es X.env)).any (·.1) = false := by rfl) : DE X (.Call (.Name x p) (e :: es) [] pos) (wB o w) :=
  ⟨PE.imp (pe_callTy hc.op hg hm hv ha.pe hn hdb he hpl) fun σ H Q ⟨g, cs, env, sr, l, h⟩ => lowA.go ha.mo sr l h fun ds cs1 g1 H1 vs h1 e1 s1 r1 => ⟨g1, cs1, ds, s1, r1, hc.mo _ _ _ _ (fun _ _ q => upV.mono e1 q) h1⟩, wB.mo hc.mo ha.mo⟩
/-- one argument -/
def o1 (o : O1) : OC := fun ds cs Q => match ds with
  | [d] => o d cs Q
  | _ => False
theorem o1.mo {o : O1} (mo : ∀ d cs Q Q', (∀ d cs, Q d cs → Q' d cs) → o d cs Q → o d cs Q') : ∀ ds cs Q Q', (∀ d cs, Q d cs → Q' d cs) → o1 o ds cs Q → o1 o ds cs Q' := fun ds cs Q Q' h q => by
  unfold o1 at q ⊢
  split at q
  · exact mo _ _ _ _ h q
  · exact q
theorem cd1 {f : Value} {o : O1} (mo : ∀ d cs Q Q', (∀ d cs, Q d cs → Q' d cs) → o d cs Q → o d cs Q')
    (h : ∀ (pins : List (Addr × Obj)) (s : Shared) (σ : L2.St) (H : Hp) (x : V) (u : Value) (Q : VK) (g : G) (cs : Sto) (d : D), Inv X pins σ H s → RelV x u → Vals [x] [u] → Sr X.K g cs H → Rep X.K g d x → o d cs (upV X.K g Q) →
      wpAny (model X.prog X.w) X.A (call f [u]) (EP X pins σ Q) X.xe s) : CallD X f (o1 o) :=
  .mk' (o1.mo mo) fun pins s σ H xs us Q g cs ds I r sr r1 q => by
    unfold o1 at q
    split at q
    · obtain ⟨v, vr, e1, h1, h2⟩ := r1
      have h2' : vr = [] := h2
      subst e1 h2'
      obtain ⟨u, rfl, ru⟩ := vals1 r
      exact h pins s σ H v u Q g cs _ I ru r sr h1 q
    · exact q.elim
/-! ### len, int, bool, abs, list, tuple, all, any, sum -/
def oLen : O1 := fun d cs Q => match d with
  | .str y => y.length ≤ sizeLine ∧ Q (.int y.length) cs
  | d => ∃ ds, seqOf cs d = some ds ∧ Q (.int ds.length) cs
theorem cd_len : CallD X (.builtin "len") (o1 oLen) := cd1 (fun d cs Q Q' h q => by
    unfold oLen at q ⊢
    split at q
    · exact ⟨q.1, h _ _ q.2⟩
    · obtain ⟨ds, e, q⟩ := q
      exact ⟨ds, e, h _ _ q⟩) fun pins s σ H x u Q g cs d I ru rv sr r q => by
  unfold oLen at q
  split at q
  · cases r
    exact call_len pins s σ H _ _ Q I rv ⟨_, _, rfl, ⟨q.1, rfl⟩, q.2 g H _ (Ext.refl g) sr rfl⟩
  · obtain ⟨ds, e, q⟩ := q
    obtain ⟨p, vs, e1, h1, h2⟩ := seq_of sr e r
    subst e1
    refine call_len pins s σ H _ _ Q I rv ⟨_, vs.length, rfl, ?_, ?_⟩
    · rcases h1 with h1 | h1
      · exact .inl ⟨vs, h1, rfl⟩
      · exact .inr ⟨vs, h1, rfl⟩
    · have := q g H (.int ds.length) (Ext.refl g) sr rfl
      rw [h2.length] at this
      exact this
def oInt : O1 := fun d cs Q => match d with
  | .int i => Q (.int i) cs
  | .bl k => Q (.int (if k = true then 1 else 0)) cs
  | _ => False
theorem cd_int : CallD X (.type "int") (o1 oInt) := cd1 (fun d cs Q Q' h q => by
    unfold oInt at q ⊢
    split at q
    · exact h _ _ q
    · exact h _ _ q
    · exact q) fun pins s σ H x u Q g cs d I ru rv sr r q => by
  unfold oInt at q
  split at q
  · cases r
    exact call_int1 pins s σ H _ _ Q I rv (.inl ⟨_, rfl, q g H _ (Ext.refl g) sr rfl⟩)
  · cases r
    exact call_int1 pins s σ H _ _ Q I rv (.inr ⟨_, rfl, q g H _ (Ext.refl g) sr rfl⟩)
  · exact q.elim
def oAbs : O1 := fun d cs Q => match d with
  | .int i => Q (.int (if i < 0 then -i else i)) cs
  | _ => False
theorem cd_abs : CallD X (.builtin "abs") (o1 oAbs) := cd1 (fun d cs Q Q' h q => by
    unfold oAbs at q ⊢
    split at q
    · exact h _ _ q
    · exact q) fun pins s σ H x u Q g cs d I ru rv sr r q => by
  unfold oAbs at q
  split at q
  · cases r
    exact call_abs pins s σ H _ _ Q I rv ⟨_, rfl, q g H _ (Ext.refl g) sr rfl⟩
  · exact q.elim
def oTup : O1 := fun d cs Q => ∃ ds, seqOf cs d = some ds ∧ Q (.tup ds) cs
theorem cd_tup : CallD X (.type "tuple") (o1 oTup) := cd1 (fun d cs Q Q' h ⟨ds, e, q⟩ => ⟨ds, e, h _ _ q⟩) fun pins s σ H x u Q g cs d I ru rv sr r ⟨ds, e, q⟩ => by
  cases d with
  | tup es =>
    cases e
    obtain ⟨p, vs, e1, h1, h2⟩ := r
    subst e1
    exact call_tuple_of pins s σ H _ _ Q I rv ⟨p, vs, rfl, .inr ⟨sqT_mono sr.le h1, q g H _ (Ext.refl g) sr ⟨p, vs, rfl, h1, h2⟩⟩⟩
  | lst es =>
    obtain ⟨p, vs, e1, h1, h2⟩ := lst_of (d := .lst es) (ds := ds) sr e r
    subst e1
    exact call_tuple_of pins s σ H _ _ Q I rv ⟨p, vs, rfl, .inl ⟨h1, new_tup sr h2 q⟩⟩
  | cell i =>
    obtain ⟨p, vs, e1, h1, h2⟩ := lst_of (d := .cell i) (ds := ds) sr e r
    subst e1
    exact call_tuple_of pins s σ H _ _ Q I rv ⟨p, vs, rfl, .inl ⟨h1, new_tup sr h2 q⟩⟩
  | _ => cases e
def oList : O1 := fun d cs Q => ∃ ds, seqOf cs d = some ds ∧ Q (.lst ds) cs
theorem cd_list : CallD X (.type "list") (o1 oList) := cd1 (fun d cs Q Q' h ⟨ds, e, q⟩ => ⟨ds, e, h _ _ q⟩) fun pins s σ H x u Q g cs d I ru rv sr r ⟨ds, e, q⟩ => by
  obtain ⟨p, vs, e1, h1, h2⟩ := seq_of sr e r
  subst e1
  exact call_list_of pins s σ H _ _ Q I rv ⟨p, vs, rfl, h1, new_lst sr h2 q⟩
/-- a list of truths, of ints -/
def bls : List D → Option (List Bool)
  | [] => some []
  | .bl b :: ds => match bls ds with
    | some bs => some (b :: bs)
    | none => none
  | _ :: _ => none
def nums : List D → Option (List Int)
  | [] => some []
  | .int b :: ds => match nums ds with
    | some bs => some (b :: bs)
    | none => none
  | _ :: _ => none
theorem bls_rep {K : PySem.W.Frag} {g : G} : ∀ {ds : List D} {vs : List V} {bs : List Bool}, RepL K g ds vs → bls ds = some bs → vs = bs.map V.bl
  | [], vs, bs, r, e => by
    have r' : vs = [] := r
    simp only [bls, Option.some.injEq] at e
    subst r' e
    rfl
  | d :: ds, vs, bs, r, e => by
    obtain ⟨v, vr, e1, h1, h2⟩ := r
    subst e1
    unfold bls at e
    split at e
    · cases ‹_ :: _ = []›
    · rename_i b ds' he
      cases he
      split at e
      · rename_i bs' hb
        cases e
        have h1' : v = .bl b := h1
        rw [h1', bls_rep h2 hb]
        rfl
      · cases e
    · cases e
theorem nums_rep {K : PySem.W.Frag} {g : G} : ∀ {ds : List D} {vs : List V} {bs : List Int}, RepL K g ds vs → nums ds = some bs → vs = bs.map V.int
  | [], vs, bs, r, e => by
    have r' : vs = [] := r
    simp only [nums, Option.some.injEq] at e
    subst r' e
    rfl
  | d :: ds, vs, bs, r, e => by
    obtain ⟨v, vr, e1, h1, h2⟩ := r
    subst e1
    unfold nums at e
    split at e
    · cases ‹_ :: _ = []›
    · rename_i b ds' he
      cases he
      split at e
      · rename_i bs' hb
        cases e
        have h1' : v = .int b := h1
        rw [h1', nums_rep h2 hb]
        rfl
      · cases e
    · cases e
theorem bls_map : ∀ bs : List Bool, bls (bs.map .bl) = some bs
  | [] => rfl
  | b :: bs => by simp only [List.map_cons, bls, bls_map bs]
theorem nums_map : ∀ bs : List Int, nums (bs.map .int) = some bs
  | [] => rfl
  | b :: bs => by simp only [List.map_cons, nums, nums_map bs]
def oAll : O1 := fun d cs Q => ∃ ds bs, lstOf cs d = some ds ∧ bls ds = some bs ∧ Q (.bl (bs.all id)) cs
def oAny : O1 := fun d cs Q => ∃ ds bs, lstOf cs d = some ds ∧ bls ds = some bs ∧ Q (.bl (bs.any id)) cs
def oSum : O1 := fun d cs Q => ∃ ds ns, lstOf cs d = some ds ∧ nums ds = some ns ∧ Q (.int ns.sum) cs
theorem cd_all (hc : X.calm = true) : CallD X (.builtin "all") (o1 oAll) := cd1 (fun d cs Q Q' h ⟨ds, bs, e, e2, q⟩ => ⟨ds, bs, e, e2, h _ _ q⟩) fun pins s σ H x u Q g cs d I ru rv sr r ⟨ds, bs, e, e2, q⟩ => by
  obtain ⟨p, vs, e1, h1, h2⟩ := lst_of sr e r
  subst e1
  rw [bls_rep h2 e2] at h1
  exact cr_all hc pins s σ H _ _ Q I rv ⟨p, bs, rfl, h1, q g H _ (Ext.refl g) sr rfl⟩
theorem cd_any (hc : X.calm = true) : CallD X (.builtin "any") (o1 oAny) := cd1 (fun d cs Q Q' h ⟨ds, bs, e, e2, q⟩ => ⟨ds, bs, e, e2, h _ _ q⟩) fun pins s σ H x u Q g cs d I ru rv sr r ⟨ds, bs, e, e2, q⟩ => by
  obtain ⟨p, vs, e1, h1, h2⟩ := lst_of sr e r
  subst e1
  rw [bls_rep h2 e2] at h1
  exact cr_any hc pins s σ H _ _ Q I rv ⟨p, bs, rfl, h1, q g H _ (Ext.refl g) sr rfl⟩
theorem cd_sum (hc : X.calm = true) : CallD X (.builtin "sum") (o1 oSum) := cd1 (fun d cs Q Q' h ⟨ds, bs, e, e2, q⟩ => ⟨ds, bs, e, e2, h _ _ q⟩) fun pins s σ H x u Q g cs d I ru rv sr r ⟨ds, bs, e, e2, q⟩ => by
  obtain ⟨p, vs, e1, h1, h2⟩ := lst_of sr e r
  subst e1
  rw [nums_rep h2 e2] at h1
  exact cr_sum hc pins s σ H _ _ Q I rv ⟨p, bs, rfl, h1, q g H _ (Ext.refl g) sr rfl⟩
/-! ### isinstance -/
def tyD (cs : Sto) : D → Option String
  | .non => some "NoneType"
  | .bl _ => some "bool"
  | .int _ => some "int"
  | .str _ => some "str"
  | .tup _ => some "tuple"
  | .lst _ => some "list"
  | .dic _ => some "dict"
  | .cell i => match cs[i]? with
    | some (.lst _) => some "list"
    | some (.dic _) => some "dict"
    | _ => none
  | _ => none
theorem ty_rep {K : PySem.W.Frag} {g : G} {cs : Sto} {H : Hp} (s : Sr K g cs H) {d : D} {v : V} {T : String} (e : tyD cs d = some T) (r : Rep K g d v) : TyX K H v (.type T) := by
  unfold tyD at e
  split at e
  · cases e; cases r; exact .base .non
  · cases e; cases r; exact .base (.bl _)
  · cases e; cases r; exact .base (.int _)
  · cases e; cases r; exact .base (.str _)
  · cases e
    obtain ⟨p, vs, e1, h1, h2⟩ := r
    subst e1
    rcases sqT_mono s.le h1 with (h | ⟨o, h⟩) | ⟨o, its, n, h, hc, _⟩
    · exact .base (.tup h)
    · exact .fTuple h
    · exact .kTuple h hc
  · cases e
    obtain ⟨p, vs, e1, h1, h2⟩ := r
    subst e1
    exact .base (.lst (s.le _ _ h1))
  · cases e
    obtain ⟨p, vs, e1, h1, h2⟩ := r
    subst e1
    exact .base (.dK (s.le _ _ h1))
  · split at e
    · rename_i i ds hc
      cases e
      obtain ⟨p, e1, h1⟩ := r
      subst e1
      obtain ⟨vs, q1, q2, q3⟩ := s.ok _ p _ h1 hc
      exact .base (.lst q1)
    · rename_i i ds hc
      cases e
      obtain ⟨p, e1, h1⟩ := r
      subst e1
      obtain ⟨vs, q1, q2, q3⟩ := s.ok _ p _ h1 hc
      exact .base (.dK q1)
    · cases e
  · cases e
/-- isinstance(x, t), t any tuple that stands -/
theorem isi_any (pins : List (Addr × Obj)) (s : Shared) (σ : L2.St) (H : Hp) (us : List Value) (Q : VK) {x : V} {p : Addr} {vs : List V} {ws : List Value} {t : Value} {b : Bool} (I : Inv X pins σ H s) (r : Vals [x, .ref p] us) (hT : SqT X.K H p vs) (hw : Paired ClsV vs ws) (ty : TyX X.K H x t)
    (e : PySem.W.kitAny X.K t ws = some b) (q : Q (.bl b) H) : wpAny (model X.prog X.w) X.A (call (.builtin "isinstance") us) (EP X pins σ Q) X.xe s := by
  obtain ⟨u1, u2, rfl, r1, r2⟩ := vals2 r
  cases (show u2 = Value.ref p from r2)
  obtain ⟨P, Z, pz, hx⟩ := kit_of I r1 ty
  obtain ⟨its, rv, ⟨o, h1, h2, n, h3⟩, _⟩ := I.tuple hT
  have e3 := ClsV.all hw rv
  subst e3
  obtain ⟨oc, od, dt, sl⟩ := o
  simp only at h2 h3
  subst h2 h3
  exact PySem.W.kia_tup Z I.kIn pz h1 e hx fun tk => ⟨.bl b, H, I.tok tk, rfl, q⟩
/-- some of several built-in types -/
def kitAnyB (T : String) : List D → Option Bool
  | [] => some false
  | .ty n :: ds => match kitB T n with
    | some b => match kitAnyB T ds with
      | some r => some (b || r)
      | none => none
    | none => none
  | _ :: _ => none
theorem kitAnyB_rep {K : PySem.W.Frag} {g : G} {T : String} : ∀ {ds : List D} {vs : List V} {b : Bool}, kitAnyB T ds = some b → RepL K g ds vs → ∃ us, Paired ClsV vs us ∧ PySem.W.kitAny K (.type T) us = some b
  | [], vs, b, e, r => by
    have r' : vs = [] := r
    subst r'
    simp only [kitAnyB, Option.some.injEq] at e
    subst e
    exact ⟨[], .nil, rfl⟩
  | d :: ds, vs, b, e, r => by
    obtain ⟨v, vr, e1, h1, h2⟩ := r
    subst e1
    unfold kitAnyB at e
    split at e
    · cases ‹_ :: _ = []›
    · rename_i n ds' he
      cases he
      have h1' : v = .ty n := h1
      subst h1'
      split at e
      · rename_i k hk
        split at e
        · rename_i r hr
          cases e
          obtain ⟨us, hu, hq⟩ := kitAnyB_rep hr h2
          refine ⟨_, .cons (.ty n) hu, kitAny_cons (kit_ty hk) (fun hb => ?_) (fun hb => by rw [hb]; rfl)⟩
          rw [hb]
          exact hq
        · cases e
      · cases e
    · cases e
def oIsi : OC := fun ds cs Q => match ds with
  | [d, .ty n] => ∃ T b, tyD cs d = some T ∧ kitB T n = some b ∧ Q (.bl b) cs
  | [d, .tup ns] => ∃ T b, tyD cs d = some T ∧ kitAnyB T ns = some b ∧ Q (.bl b) cs
  | _ => False
theorem cd_isi : CallD X (.builtin "isinstance") oIsi := .mk' (fun ds cs Q Q' h q => by
    unfold oIsi at q ⊢
    split at q
    · obtain ⟨T, b, e1, e2, q⟩ := q
      exact ⟨T, b, e1, e2, h _ _ q⟩
    · obtain ⟨T, b, e1, e2, q⟩ := q
      exact ⟨T, b, e1, e2, h _ _ q⟩
    · exact q) fun pins s σ H xs us Q g cs ds I r sr r1 q => by
  unfold oIsi at q
  split at q
  · obtain ⟨T, b, e1, e2, q⟩ := q
    obtain ⟨v, vr, f1, h1, v2, vr2, f2, h2, h3⟩ := r1
    have h3' : vr2 = [] := h3
    subst f1 f2 h3'
    have h2' : v2 = .ty _ := h2
    subst h2'
    exact call_isi pins s σ H _ us Q I r ⟨_, _, _, _, b, rfl, .ty _, ty_rep sr e1 h1, kit_ty e2, q g H _ (Ext.refl g) sr rfl⟩
  · obtain ⟨T, b, e1, e2, q⟩ := q
    obtain ⟨v, vr, f1, h1, v2, vr2, f2, h2, h3⟩ := r1
    have h3' : vr2 = [] := h3
    subst f1 f2 h3'
    obtain ⟨p, vs, f3, h4, h5⟩ := h2
    subst f3
    obtain ⟨ws, hw, hq⟩ := kitAnyB_rep (K := X.K) e2 h5
    exact isi_any pins s σ H us Q I r (sqT_mono sr.le h4) hw (ty_rep sr e1 h1) hq (q g H _ (Ext.refl g) sr rfl)
  · exact q.elim
end
end DL

/-! DIter: enumerate and zip over data, repr. -/
namespace DL
open PySem PySem.Spec L2
open RZ (ItzT pi_zipA)

theorem en_make {v : Value} {o : Obj} {S : Heap → Prop} (B : Begins v o S) :
    Meets (Builtin.«enumerate.__new__» ⟨[.type "enumerate", v], []⟩) (fun _ R s => S s.heap ∧
      R (.ok (.ret (.ref (s.heap.push o).objs.size))) { s with heap := (s.heap.push o).push { cls := .type "enumerate", data := .fields #[.none, .bool false, .ref s.heap.objs.size, rawInt 0, .none, .none] } }) :=
  .of_wp fun prog w A R s h => by
    obtain ⟨hp, g, d, tk, os⟩ := s
    obtain ⟨h1, h⟩ := h
    have isub := sub_enumerate
    have begin_ : ∀ {A' : Around} {E : Value → Shared → Prop} {Q : Value → Shared → Prop}, Q (.ref hp.objs.size) ⟨hp.push o, g, d, tk, os⟩ → wpAny (model prog w) A' (pyIter v) Q E ⟨hp, g, d, tk, os⟩ := fun q => B.iter prog w _ _ ⟨hp, g, d, tk, os⟩ _ h1 q
    wp_walk using begin_
    refine wpAny_stack_any fun st => wpAny_pure ?_
    split
    · rename_i c _ _ _ _ _
      cases (c == Value.type "enumerate") <;> (wp_walk using begin_; exact ⟨_, rfl, h⟩)
    · wp_walk using begin_
      exact ⟨_, rfl, h⟩
theorem en_call {prog : Program} {w : World} {A : Around} {E : Value → Shared → Prop} {s : Shared} {v : Value} {o : Obj} {S : Heap → Prop} {Q : Value → Shared → Prop} (B : Begins v o S) (h1 : S s.heap)
    (h : ∀ h', IsEnum h' (s.heap.objs.size + 1) s.heap.objs.size 0 .none → h'.get? s.heap.objs.size = some o → (∀ b u, s.heap.get? b = some u → h'.get? b = some u) → Q (.ref (s.heap.objs.size + 1)) { s with heap := h' }) :
    wpAny (model prog w) A (call (.type "enumerate") [v]) Q E s := by
  refine callType_new F.called_enumerate (by decide) (F.typeCall_enumerate_1 _) (F.newCall_enumerate_1 _) (fun obj => F.args_object_init_2 obj _) F.entry_enumerate_new (en_make B) ⟨h1, ?_⟩
  have sz : (s.heap.push o).objs.size = s.heap.objs.size + 1 := Heap.size_push ..
  show _ ∧ _
  rw [sz]
  have last := Heap.get?_push_size (s.heap.push o) (o := { cls := .type "enumerate", data := .fields #[.none, .bool false, .ref s.heap.objs.size, rawInt 0, .none, .none] }) rfl
  rw [sz] at last
  exact ⟨⟨_, last, rfl⟩, h _ last (Heap.get?_push_of_some _ (Heap.get?_push_size _ B.free)) fun b u x => Heap.get?_push_of_some _ (Heap.get?_push_of_some _ x)⟩
theorem en_end {prog : Program} {w : World} {A : Around} {E : Value → Shared → Prop} {s : Shared} {e it t : Addr} {i : Nat} {items : Array Value} {old : Value} {Q : Option Value → Shared → Prop} (hh : A.handled = none)
    (he : IsEnum s.heap e it i old) (hit : s.heap.IsTupleIter it t i) (ht : s.heap.IsTuple t items) (hx : items[i]? = none) (hQ : ∀ h', Heap.ExtBut it s.heap h' → Q none { s with heap := h' }) : wpAny (model prog w) A (pyNext (.ref e)) Q E s := by
  have T : s.TypeIs (.ref e) "enumerate" := ⟨_, he, rfl⟩
  unfold pyNext
  refine wpAny_bind (wpAny_attempt (wpAny_callSpecial?_slot (name := Str.ofString "__next__") T F.slot_enumerate_next (wpAny_call_entry F.slot_enumerate_next T F.entry_enumerate_next ?_ (F.args_enumerate_next_1 _))))
  show wpAny _ _ (field (.ref e) 2 >>= _) _ _ _
  refine wpAny_bind (wpAny_field he rfl (x := .ref it) rfl (wpAny_bind (wpAny_nextOf_tuple_end hh hit ht hx fun h' x eb hx' => ?_)))
  obtain ⟨o, ho, hc⟩ := hx'
  exact wpAny_bind (wpAny_isInstance (T := "StopIteration") (b := true) ⟨o, ho, hc⟩ isSubtype_stop (wpAny_pure (hQ _ eb)))
/-- the tuple at a, its items in new pairs behind their numbers -/
def ItenT (K : PySem.W.Frag) (a : Addr) : It :=
  ⟨fun i H => ∃ (xs : List V) (x : V), SqT K H a xs ∧ xs[i]? = some x, fun i H v H' => ∃ T x, v = .ref T ∧ H T = none ∧ H' = upd H T (.tup [.int (i : Nat), x]) ∧ ∀ xs, SqT K H a xs → xs[i]? = some x, fun i H => ∃ xs : List V, SqT K H a xs ∧ xs.length ≤ i⟩
theorem turn_enT {P : Program} {w : World} {K : PySem.W.Frag} {elts : List Expr} {kk : Nat} {tpos : Pos} (a e it : Addr) :
    Turn P w K (.Tuple elts kk tpos) (ItenT K a) [e, it] e (fun i h => (∃ old, IsEnum h e it ((i : Nat) : Int) old) ∧ h.IsTupleIter it a i ∧ e ≠ it ∧ a ≠ it ∧ e ≠ a) where
  mem := List.mem_cons_self
  obj := by
    intro i h ⟨⟨old, he⟩, ⟨o, ho, hc, hd⟩, _⟩ b hb
    rcases List.mem_cons.mp hb with z | z
    · rw [z]
      exact ⟨_, he, fun v q => nomatch q⟩
    · exact ⟨o, by rw [List.mem_singleton.mp z]; exact ho, fun v q => by rw [hd] at q; cases q⟩
  keep := by
    intro i h h' ⟨⟨old, he⟩, hi, hne⟩ k
    exact ⟨⟨old, k e (by simp) _ he⟩, hi.at fun o q => k it (by simp) o q, hne⟩
  item := by
    intro X hP hw hK hc i pins s σ H E I hf ⟨⟨old, he⟩, hit, hne, hai, hea⟩ ⟨xs, x, hq, hx⟩
    subst hP hw hK
    obtain ⟨its, rv, p, hz⟩ := I.tuple hq
    obtain ⟨u, hu, ru⟩ := rv.get hx
    have hu' : its.toArray[i]? = some u := by simpa using hu
    have elt : e < s.heap.objs.size := Heap.lt_size he
    have ilt : it < s.heap.objs.size := by obtain ⟨_, q, _⟩ := hit; exact Heap.lt_size q
    have D := Draws.tuple (prog := X.prog) (w := X.w) (A := X.A.in1) (I.ok.hd hc) it a hai its.toArray
    refine wpAny_pyNext_enum_itemD (i := i) D he ⟨hit, show s.heap.IsTuple a its.toArray from p⟩ (by have := (Array.getElem?_eq_some_iff.mp hu').1; exact this) hne (by simp [hne, hea]) fun x' h' tk hx' ho hst hT hsz hk => ?_
    rw [hu'] at hx'
    cases hx'
    refine ⟨_, rfl, wpAny_letOwnedTupleGo_enum (s := { s with heap := h', toks := tk + 1 }) ho fun h'' he' sb => ?_⟩
    have hT2 : h''.get? s.heap.objs.size = some { cls := .type "tuple", data := .seq #[.int i tk, u] } := (sb.2 _ (Nat.ne_of_gt elt)).trans hT
    have made : ObjOk X.prog X.w (upd H s.heap.objs.size (.tup [.int (i : Nat), x])) h'' s.heap.objs.size (.tup [.int (i : Nat), x]) :=
      ⟨by show 2 ≤ sizeLine; decide, [.int i tk, u], .cons ⟨_, rfl⟩ (.cons ru .nil), ⟨_, hT2, rfl, _, rfl⟩⟩
    have I1 : Inv X pins σ (upd H s.heap.objs.size (.tup [.int (i : Nat), x])) { s with heap := h'', toks := tk + 1 } :=
      I.turnedNew (ch := [e, it]) (fun b ob hb q => (sb.2 b (fun z => hb (by simp [z]))).trans (hk b ob (fun z => hb (by simp [z])) (fun z => hb (by simp [z])) q)) hf (Nat.le_refl _) made
    refine ⟨.ref s.heap.objs.size, _, I1, rfl, ⟨_, x, rfl, I.hok.fresh (Nat.le_refl _), rfl, fun ys hy => by rw [I.tuple_inj hy hq]; exact hx⟩, ⟨⟨u, ?_⟩, ?_, hne, hai, hea⟩, fun b hb => ?_⟩
    · rw [show ((i + 1 : Nat) : Int) = (i : Int) + 1 by omega]
      exact he'
    · exact hst.1.at fun o q => (sb.2 it (Ne.symm hne)).trans q
    · have hb' : b < s.heap.objs.size := by
        rcases List.mem_cons.mp hb with z | z
        · rw [z]; exact elt
        · rw [List.mem_singleton.mp z]; exact ilt
      rw [upd_ne (Nat.ne_of_lt hb')]
      exact (hf b hb).1
  done := by
    intro X hP hw hK hc i pins s σ H E I hf ⟨⟨old, he⟩, hit, hne, hai, hea⟩ ⟨xs, hq, hx⟩
    subst hP hw hK
    obtain ⟨its, rv, p, hz⟩ := I.tuple hq
    obtain ⟨f0, f1, f2, f3, f4, f5⟩ := hf it (by simp)
    have hl := rv.length
    refine en_end (I.ok.hd hc) he hit (show s.heap.IsTuple a its.toArray from p) (by simp; omega) fun h' eb => ⟨rfl, I.turned (t' := s.toks) (fun b o hb q => eb b o hb q) f0 f1 f3 f4 f5⟩
  self := fun A i s Q E st h => let ⟨⟨_, he⟩, _⟩ := st; wpAny_pyIter_enum he h

section
variable {X : Cx} {a b : Expr} {wa wb : WE} {pos : Pos}
/-- the iterator of enumerate over a list or a tuple -/
def iEnA (K : PySem.W.Frag) (ta : TA) : TI := fun σ H R => ta σ H fun vs H1 => ∃ p xs, vs = [.ref p] ∧ ((SqL K H1 p xs ∧ R (Ite K p) H1) ∨ (SqT K H1 p xs ∧ R (ItenT K p) H1))
theorem pi_enA {e : Expr} {ta : TA} {p tpos : Pos} {elts : List Expr} {kk : Nat} (hg : Gl X "enumerate") (hm : X.mg "enumerate" = none) (ha : PA X [e] ta) (hs : starEach [e] X.env = [(false, eval e X.env)] := by rfl) :
    PI X (.Tuple elts kk tpos) (.Call (.Name "enumerate" p) [e] [] pos) (iEnA X.K ta) := by
  refine ⟨fun pins s σ H R I h => PyProof.Rows.Call_ (ld_blt I hg hm PyProof.Rows.boot_enumerate (PyProof.Rows.callWith_type1 (thn (ha.run pos pins s σ H _ I h) fun us s1 ⟨vs, H1, I1, r1, q1⟩ => ?_) hs rfl))⟩
  obtain ⟨q, xs, ex, hq⟩ := q1
  subst ex
  obtain ⟨u, rfl, ru⟩ := vals1 r1
  cases (show u = Value.ref q from ru)
  -- the two new cells are young
  have young : ∀ b, b ∈ [s1.heap.objs.size + 1, s1.heap.objs.size] → s1.heap.objs.size ≤ b := fun b hb => by
    rcases List.mem_cons.mp hb with z | z
    · rw [z]; exact Nat.le_add_right _ _
    · rw [List.mem_singleton.mp z]; exact Nat.le_refl _
  rcases hq with ⟨hq, hR⟩ | ⟨hq, hR⟩
  · obtain ⟨its, rv, pl, hz⟩ := I1.list hq
    refine en_call (begins_list q its.toArray) pl.isList fun h' he hit hk => wpAny_pyIter_enum he ?_
    exact ⟨_, [s1.heap.objs.size + 1, s1.heap.objs.size], _, _, H1, rfl, I1.kept (t' := s1.toks) hk, turn_enum q _ s1.heap.objs.size, ⟨⟨.none, he⟩, ⟨_, hit, rfl, rfl⟩, Nat.succ_ne_self _⟩, fun b hb => I1.fpOk (young b hb) (I1.hok.fresh (young b hb)), hR⟩
  · obtain ⟨its, rv, pt, hz⟩ := I1.tuple hq
    have lt := pt.lt
    refine en_call (begins_tuple q its.toArray) (show s1.heap.IsTuple q its.toArray from pt) fun h' he hit hk => wpAny_pyIter_enum he ?_
    exact ⟨_, [s1.heap.objs.size + 1, s1.heap.objs.size], _, _, H1, rfl, I1.kept (t' := s1.toks) hk, turn_enT q _ s1.heap.objs.size, ⟨⟨.none, he⟩, ⟨_, hit, rfl, rfl⟩, Nat.succ_ne_self _, Nat.ne_of_lt lt, Nat.ne_of_gt (Nat.lt_succ_of_lt lt)⟩, fun b hb => I1.fpOk (young b hb) (I1.hok.fresh (young b hb)), hR⟩
/-- pairs of a number and an item -/
def enD : Nat → List D → List D
  | _, [] => []
  | n, d :: ds => .tup [.int (n : Nat), d] :: enD (n + 1) ds
theorem enD_len : ∀ (n : Nat) (ds : List D), (enD n ds).length = ds.length
  | _, [] => rfl
  | n, d :: ds => by simp [enD, enD_len (n + 1) ds]
theorem enD_get : ∀ (n : Nat) (ds : List D) (i : Nat) (d : D), (enD n ds)[i]? = some d → ∃ x, ds[i]? = some x ∧ d = .tup [.int ((n + i : Nat) : Int), x]
  | _, [], i, d, h => by simp [enD] at h
  | n, x :: ds, 0, d, h => by
    simp [enD] at h
    exact ⟨x, rfl, by rw [← h]; rfl⟩
  | n, x :: ds, i + 1, d, h => by
    obtain ⟨y, h1, h2⟩ := enD_get (n + 1) ds i d (by simpa [enD] using h)
    exact ⟨y, by simpa using h1, by rw [h2, show n + 1 + i = n + (i + 1) by omega]⟩
theorem pair_new {K : PySem.W.Frag} {g : G} {cs : Sto} {H : Hp} {d1 d2 : D} {v1 v2 : V} {T : Addr} (s : Sr K g cs H) (h1 : Rep K g d1 v1) (h2 : Rep K g d2 v2) (hn : H T = none) : ∃ g2, Ext g g2 ∧ Sr K g2 cs (upd H T (.tup [v1, v2])) ∧ Rep K g2 (.tup [d1, d2]) (.ref T) :=
  ⟨g.add T _, Ext.add s hn _, s.add hn _, T, [v1, v2], rfl, .of add_at, .cons (h1.mono (Ext.add s hn _)) (.cons (h2.mono (Ext.add s hn _)) .nil)⟩
theorem itd_enL {K : PySem.W.Frag} {g : G} {W : Sto → Prop} {p : Addr} {ds : List D} {vs : List V} (h : g.Z p = some (.lst vs)) (r : RepL K g ds vs) : ItD K g W (Ite K p) (enD 0 ds) := by
  intro g' cs' H e s _
  have h' : SqL K H p vs := .of (s.le _ _ (e.z _ _ h))
  refine ⟨fun i hi => ⟨vs, h', by rw [enD_len] at hi; rw [← r.length]; exact hi⟩, fun i d hd => ?_⟩
  obtain ⟨x, q1, q2⟩ := enD_get 0 ds i d hd
  obtain ⟨v, q3, q4⟩ := r.get q1
  refine ⟨⟨vs, v, h', q3⟩, fun y H' ⟨T, v', e1, hT, e2, q⟩ => ?_⟩
  have := q vs h'
  rw [q3] at this
  cases this
  subst e1 e2 q2
  have e0 : ((0 + i : Nat) : Int) = ((i : Nat) : Int) := by simp
  rw [e0]
  exact pair_new s rfl (Rep.sub e _ _ q4) hT
theorem itd_enT {K : PySem.W.Frag} {g : G} {W : Sto → Prop} {p : Addr} {ds : List D} {vs : List V} (h : SqT K g.Z p vs) (r : RepL K g ds vs) : ItD K g W (ItenT K p) (enD 0 ds) := by
  intro g' cs' H e s _
  have h' : SqT K H p vs := sqT_mono s.le (sqT_mono e.z h)
  refine ⟨fun i hi => ⟨vs, h', by rw [enD_len] at hi; rw [← r.length]; exact hi⟩, fun i d hd => ?_⟩
  obtain ⟨x, q1, q2⟩ := enD_get 0 ds i d hd
  obtain ⟨v, q3, q4⟩ := r.get q1
  refine ⟨⟨vs, v, h', q3⟩, fun y H' ⟨T, v', e1, hT, e2, q⟩ => ?_⟩
  have := q vs h'
  rw [q3] at this
  cases this
  subst e1 e2 q2
  have e0 : ((0 + i : Nat) : Int) = ((i : Nat) : Int) := by simp
  rw [e0]
  exact pair_new s rfl (Rep.sub e _ _ q4) hT
/-- what a list or tuple that stays holds -/
def stay : D → Option (List D)
  | .lst ds => some ds
  | .tup ds => some ds
  | _ => none
def wEnum (w : WA) : WI := fun env cs Q => w env cs fun ds cs' => ∃ d xs, ds = [d] ∧ stay d = some xs ∧ Q (enD 0 xs) wAll cs'
theorem di_enum {e : Expr} {p tpos : Pos} {elts : List Expr} {kk : Nat} {w : WA} (hm : X.mg "enumerate" = none) (ha : DA X [e] w) (hg : Gl X "enumerate" := by rfl) (hs : starEach [e] X.env = [(false, eval e X.env)] := by rfl) :
    DI X (.Tuple elts kk tpos) (.Call (.Name "enumerate" p) [e] [] pos) (wEnum w) := by
  refine ⟨⟨fun pins s σ H R I ⟨g, cs, env, sr, l, h⟩ => (pi_enA hg hm ha.pe hs).run pins s σ H R I ?_⟩, fun env cs Q Q' hq q => ha.mo _ _ _ _ (fun ds cs' ⟨d, xs, e1, e2, q⟩ => ⟨d, xs, e1, e2, hq _ _ _ q⟩) q⟩
  refine lowA.go ha.mo sr l h fun ds cs1 g1 H1 vs ⟨d, xs, e1, e2, q⟩ ex s1 r1 => ?_
  subst e1
  obtain ⟨v, vr, f1, h1, h2⟩ := r1
  have h2' : vr = [] := h2
  subst f1 h2'
  cases d with
  | lst es =>
    cases e2
    obtain ⟨p, us, f2, h3, h4⟩ := h1
    subst f2
    exact ⟨p, us, rfl, .inl ⟨.of (s1.le _ _ h3), q g1 H1 _ ex s1 (itd_enL h3 h4)⟩⟩
  | tup es =>
    cases e2
    obtain ⟨p, us, f2, h3, h4⟩ := h1
    subst f2
    exact ⟨p, us, rfl, .inr ⟨sqT_mono s1.le h3, q g1 H1 _ ex s1 (itd_enT h3 h4)⟩⟩
  | _ => cases e2
/-! ### zip of two lists, of two tuples -/
def zipD : List D → List D → List D
  | d :: ds, e :: es => .tup [d, e] :: zipD ds es
  | _, _ => []
theorem zipD_get : ∀ (ds es : List D) (i : Nat) (d : D), (zipD ds es)[i]? = some d → ∃ x y, ds[i]? = some x ∧ es[i]? = some y ∧ d = .tup [x, y]
  | [], es, i, d, h => by simp [zipD] at h
  | x :: ds, [], i, d, h => by simp [zipD] at h
  | x :: ds, y :: es, 0, d, h => by
    simp [zipD] at h
    exact ⟨x, y, rfl, rfl, h.symm⟩
  | x :: ds, y :: es, i + 1, d, h => by
    obtain ⟨x', y', h1, h2, h3⟩ := zipD_get ds es i d (by simpa [zipD] using h)
    exact ⟨x', y', by simpa using h1, by simpa using h2, h3⟩
theorem zipD_len : ∀ (ds es : List D), (zipD ds es).length = min ds.length es.length
  | [], es => by simp [zipD]
  | x :: ds, [] => by simp [zipD]
  | x :: ds, y :: es => by
    simp only [zipD, List.length_cons, zipD_len ds es]
    omega
theorem itd_zipL {K : PySem.W.Frag} {g : G} {W : Sto → Prop} {p q : Addr} {ds es : List D} {vs us : List V} (h : g.Z p = some (.lst vs)) (h2 : g.Z q = some (.lst us)) (r : RepL K g ds vs) (r2 : RepL K g es us) : ItD K g W (Itz K p q) (zipD ds es) := by
  intro g' cs' H e s _
  have h' : SqL K H p vs := .of (s.le _ _ (e.z _ _ h))
  have h2' : SqL K H q us := .of (s.le _ _ (e.z _ _ h2))
  refine ⟨fun i hi => ⟨vs, us, h', h2', by rw [zipD_len] at hi; rw [← r.length, ← r2.length]; omega⟩, fun i d hd => ?_⟩
  obtain ⟨x, y, q1, q2, q3⟩ := zipD_get ds es i d hd
  obtain ⟨v, k1, k2⟩ := r.get q1
  obtain ⟨u, k3, k4⟩ := r2.get q2
  refine ⟨⟨vs, us, v, u, h', h2', k1, k3⟩, fun z H' ⟨T, v', u', e1, hT, e2, m1, m2⟩ => ?_⟩
  have n1 := m1 vs h'
  have n2 := m2 us h2'
  rw [k1] at n1
  rw [k3] at n2
  cases n1
  cases n2
  subst e1 e2 q3
  exact pair_new s (Rep.sub e _ _ k2) (Rep.sub e _ _ k4) hT
theorem itd_zipT {K : PySem.W.Frag} {g : G} {W : Sto → Prop} {p q : Addr} {ds es : List D} {vs us : List V} (h : SqT K g.Z p vs) (h2 : SqT K g.Z q us) (r : RepL K g ds vs) (r2 : RepL K g es us) : ItD K g W (ItzT K p q) (zipD ds es) := by
  intro g' cs' H e s _
  have h' : SqT K H p vs := sqT_mono s.le (sqT_mono e.z h)
  have h2' : SqT K H q us := sqT_mono s.le (sqT_mono e.z h2)
  refine ⟨fun i hi => ⟨vs, us, h', h2', by rw [zipD_len] at hi; rw [← r.length, ← r2.length]; omega⟩, fun i d hd => ?_⟩
  obtain ⟨x, y, q1, q2, q3⟩ := zipD_get ds es i d hd
  obtain ⟨v, k1, k2⟩ := r.get q1
  obtain ⟨u, k3, k4⟩ := r2.get q2
  refine ⟨⟨vs, us, v, u, h', h2', k1, k3⟩, fun z H' ⟨T, v', u', e1, hT, e2, m1, m2⟩ => ?_⟩
  have n1 := m1 vs h'
  have n2 := m2 us h2'
  rw [k1] at n1
  rw [k3] at n2
  cases n1
  cases n2
  subst e1 e2 q3
  exact pair_new s (Rep.sub e _ _ k2) (Rep.sub e _ _ k4) hT
def wZip (w : WA) : WI := fun env cs Q => w env cs fun ds cs' => ∃ xs ys, (ds = [.lst xs, .lst ys] ∨ ds = [.tup xs, .tup ys]) ∧ Q (zipD xs ys) wAll cs'
theorem di_zip {e e2 : Expr} {p tpos : Pos} {elts : List Expr} {kk : Nat} {w : WA} (hm : X.mg "zip" = none) (ha : DA X [e, e2] w) (hg : Gl X "zip" := by rfl) (he : starEach (e :: [e2]) X.env = (false, eval e X.env) :: starEach [e2] X.env := by rfl) (hpl : (backTo pos (starEach [e2] X.env)).any (·.1) = false := by rfl) :
    DI X (.Tuple elts kk tpos) (.Call (.Name "zip" p) [e, e2] [] pos) (wZip w) := by
  refine ⟨⟨fun pins s σ H R I ⟨g, cs, env, sr, l, h⟩ => (pi_zipA (hg := hg) (hm := hm) (ha := ha.pe) he hpl).run pins s σ H R I ?_⟩, fun env cs Q Q' hq q => ha.mo _ _ _ _ (fun ds cs' ⟨xs, ys, e1, q⟩ => ⟨xs, ys, e1, hq _ _ _ q⟩) q⟩
  refine lowA.go ha.mo sr l h fun ds cs1 g1 H1 vs ⟨xs, ys, e1, q⟩ ex s1 r1 => ?_
  rcases e1 with e1 | e1
  · subst e1
    obtain ⟨v, vr, f1, h1, v2, vr2, f2, h2, h3⟩ := r1
    have h3' : vr2 = [] := h3
    subst f1 f2 h3'
    obtain ⟨p, us, f3, h4, h5⟩ := h1
    obtain ⟨p2, us2, f4, h6, h7⟩ := h2
    subst f3 f4
    exact ⟨p, p2, us, us2, rfl, .inl ⟨.of (s1.le _ _ h4), .of (s1.le _ _ h6), q g1 H1 _ ex s1 (itd_zipL h4 h6 h5 h7)⟩⟩
  · subst e1
    obtain ⟨v, vr, f1, h1, v2, vr2, f2, h2, h3⟩ := r1
    have h3' : vr2 = [] := h3
    subst f1 f2 h3'
    obtain ⟨p, us, f3, h4, h5⟩ := h1
    obtain ⟨p2, us2, f4, h6, h7⟩ := h2
    subst f3 f4
    exact ⟨p, p2, us, us2, rfl, .inr ⟨sqT_mono s1.le h4, sqT_mono s1.le h6, q g1 H1 _ ex s1 (itd_zipT h4 h6 h5 h7)⟩⟩
/-! ### repr -/
mutual
theorem noDict_toPy : ∀ (d : D) (p : PyData), toPy d = some p → p.hasDict = false
  | .non, p, e => by simp only [toPy, Option.some.injEq] at e; subst e; simp only [PyData.hasDict]
  | .bl b, p, e => by simp only [toPy, Option.some.injEq] at e; subst e; simp only [PyData.hasDict]
  | .int i, p, e => by simp only [toPy, Option.some.injEq] at e; subst e; simp only [PyData.hasDict]
  | .str x, p, e => by simp only [toPy, Option.some.injEq] at e; subst e; simp only [PyData.hasDict]
  | .tup ds, p, e => by
    unfold toPy at e
    split at e
    · rename_i ps hp
      cases e
      simp only [PyData.hasDict]
      exact noDict_toPyL ds ps hp
    · cases e
  | .lst ds, p, e => by
    unfold toPy at e
    split at e
    · rename_i ps hp
      cases e
      simp only [PyData.hasDict]
      exact noDict_toPyL ds ps hp
    · cases e
  | .ty _, _, e => by simp [toPy] at e
  | .ref _, _, e => by simp [toPy] at e
  | .dic _, _, e => by simp [toPy] at e
  | .obj _ _, _, e => by simp [toPy] at e
  | .cell _, _, e => by simp [toPy] at e
  | .scr _, _, e => by simp [toPy] at e
theorem noDict_toPyL : ∀ (ds : List D) (ps : List PyData), toPyL ds = some ps → PyData.hasDictAll ps = false
  | [], ps, e => by simp only [toPyL, Option.some.injEq] at e; subst e; simp only [PyData.hasDictAll]
  | d :: ds, ps, e => by
    unfold toPyL at e
    split at e
    · rename_i p hp
      split at e
      · rename_i qs hq
        cases e
        simp only [PyData.hasDictAll, noDict_toPy d p hp, noDict_toPyL ds qs hq, Bool.or_self]
      · cases e
    · cases e
end
theorem noDict_pyOf {cs : Sto} {d : D} {p : PyData} (e : pyOf cs d = some p) : p.hasDict = false := by
  unfold pyOf at e
  split at e
  · split at e
    · split at e
      · cases e
        simp only [PyData.hasDict]
        exact noDict_toPyL _ _ ‹_›
      · cases e
    · cases e
  · exact noDict_toPy _ p e
def oRepr : O1 := fun d cs Q => ∃ p, pyOf cs d = some p ∧ p.showable = true ∧ p.shown.length ≤ sizeLine ∧ p.depth ≤ 60 ∧ Q (.str p.shown) cs
theorem cd_repr (hg : X.A.guards = some []) (hu : X.A.units + 64 < cLine) : CallD X (.builtin "repr") (o1 oRepr) := cd1 (fun d cs Q Q' h ⟨p, e1, e2, e3, e4, q⟩ => ⟨p, e1, e2, e3, e4, h _ _ q⟩) fun pins s σ H x u Q g cs d I ru rv sr r ⟨p, e1, e2, e3, e4, q⟩ => by
  obtain ⟨as, rd⟩ := Dp.reads I p x u (dp_pyOf sr e1 r) ru
  have fin : ∀ h' t tk, (∀ b o, s.heap.get? b = some o → h'.get? b = some o) → EP X pins σ Q (.str p.shown t) { s with heap := h', toks := tk } := fun h' t tk hk => ⟨.str p.shown, H, I.kept hk, ⟨t, rfl⟩, q g H _ (Ext.refl g) sr rfl⟩
  cases x with
  | ref a =>
    cases (show u = Value.ref a from ru)
    exact repr_of_reads' rd e2 (fun h => by rw [noDict_pyOf e1] at h; cases h) hg (by omega) (fun _ _ e => e) (fun h' t tk hk => fin h' t tk hk) e3
  | int i =>
    obtain ⟨t, rfl⟩ := ru
    have hp : p = .int i := by
      cases rd
      rfl
    subst hp
    exact PySem.P.repr_of_int (by simpa [PyData.showable] using e2) (by simpa only [PyData.shown] using fin s.heap s.toks (s.toks + 1) fun _ _ e => e)
  | bl b =>
    cases (show u = Value.bool b from ru)
    have hp : p = .bool b := by
      cases rd
      rfl
    subst hp
    exact PySem.P.repr_of_bool (by simpa only [PyData.shown] using fin s.heap s.toks (s.toks + 1) fun _ _ e => e)
  | non =>
    cases (show u = Value.none from ru)
    have hp : p = .none := by
      cases rd
      rfl
    subst hp
    exact PySem.P.repr_of_none (by simpa only [PyData.shown] using fin s.heap s.toks (s.toks + 1) fun _ _ e => e)
  | str y =>
    obtain ⟨t, rfl⟩ := ru
    have hp : p = .str y := by
      cases rd
      rfl
    subst hp
    exact PySem.P.repr_of_str (by simpa only [PyData.shown] using fin s.heap s.toks (s.toks + 1) fun _ _ e => e) (by simpa only [PyData.shown] using e3)
  | byt y => obtain ⟨t, rfl⟩ := ru; cases rd
  | flt y => obtain ⟨t, rfl⟩ := ru; cases rd
  | ty n => cases (show u = Value.type n from ru); cases rd
end
end DL

/-! DEnd: a changing list that stays from a statement on; methods of lists; the end of a law. -/
namespace DL
open PySem PySem.Spec L2
open PyProof.Rows (IntsAre)

/-- from here on the list in slot i stays -/
def wFrz (i : Nat) (u : WS) : WS := fun E env cs => ∃ n ds, env[i]? = some (some (.cell n)) ∧ cs[n]? = some (.lst ds) ∧ u E (env.set i (some (.lst ds))) (cs.set n .dead)
theorem dss_frz {X : Cx} {sts : List Stmt} {u : WS} (i : Nat) (h : DSs X sts u) : DSs X sts (wFrz i u) := by
  refine ⟨PSs.imp h.pe fun D σ H ⟨g, cs, env, s, l, n, ds, e1, e2, hu⟩ => ?_, fun E E' env cs hE ⟨n, ds, e1, e2, hu⟩ => ⟨n, ds, e1, e2, h.mo _ _ _ _ hE hu⟩⟩
  obtain ⟨v, q1, a, ev, q2⟩ := l.ok i _ e1
  subst ev
  obtain ⟨vs, r1, r2, r3⟩ := s.ok n a _ q2 e2
  obtain ⟨s2, ex⟩ := s.freeze q2 e2 r1 r3
  refine ⟨_, _, _, s2, ?_, h.mo _ _ _ _ (upN.mono ex D) hu⟩
  have l2 := (l.mono ex).set (i := i) (d := .lst ds) (v := .ref a) ⟨a, vs, rfl, add_at, r2.mono ex⟩
  have es : σ.set i (some (.ref a)) = σ := by
    apply List.ext_getElem?
    intro j
    by_cases hj : i = j
    · subst hj
      rw [List.getElem?_set_self (List.getElem?_eq_some_iff.mp q1).1, q1]
    · rw [List.getElem?_set_ne hj]
  rw [es] at l2
  exact l2
section
variable {X : Cx} {a b : Expr} {wa wb : WE} {pos : Pos}
end
/-- a constant of the module -/
structure KonD (K : PySem.W.Frag) (mg : Str → Option Value) (x : Str) (d : D) : Prop where
  it : ∃ u v, mg x = some u ∧ RelV v u ∧ ∀ g, Rep K g d v
theorem KonD.de {X : Cx} {x : Str} {d : D} {pos : Pos} (k : KonD X.K X.mg x d) (hg : Gl X x) (hd : (x == ("__debug__" : Str)) = false := by decide) : DE X (.Name x pos) (wC d) := by
  obtain ⟨u, v, h1, h2, h3⟩ := k.it
  exact de_glob d hg h1 h2 h3 hd
theorem kon_int {K : PySem.W.Frag} {h : Heap} {mg : Str → Option Value} (X : K.In h) (G : h.Ns mainGlobals mg) {x : Str} {i : Int} {t : Tok} (q : PySem.W.nsIn K mainGlobals x = some (some (.int i t))) : KonD K mg x (.int i) :=
  ⟨_, .int i, PySem.W.mg_of X G q, ⟨t, rfl⟩, fun _ => rfl⟩
/-- x += y -/
def oIadd : O2 := fun d1 d2 cs Q => match d1, d2 with
  | .int i, .int j => Q (.int (i + j)) cs
  | .str x, .str y => x.length + y.length ≤ sizeLine ∧ Q (.str (x ++ y)) cs
  | _, _ => False
theorem opd_iadd {X : Cx} : OpD X (inplaceOp .Add) oIadd := by
  refine .mk' (fun d1 d2 cs Q Q' h q => ?_) fun pins s σ H x y v u Q g cs d1 d2 I rx ry sr r1 r2 q => ?_
  · unfold oIadd at q ⊢
    split at q
    · exact h _ _ q
    · exact ⟨q.1, h _ _ q.2⟩
    · exact q
  · unfold oIadd at q
    split at q
    · cases r1; cases r2
      exact iop_add pins s σ H _ _ v u Q I rx ry ⟨_, _, rfl, rfl, q g H _ (Ext.refl g) sr rfl⟩
    · cases r1; cases r2
      exact iop_add_str pins s σ H _ _ v u Q I rx ry ⟨_, _, rfl, rfl, q.1, q.2 g H _ (Ext.refl g) sr rfl⟩
    · exact q.elim
/-- what the law gives: True at every list of ints -/
def spLaw (n : Nat) : FSpec := { ι := { ns : List Int // ns.length ≤ n }, args := fun ns => [.scr ns.1], pre := fun _ cs => cs = [], res := fun _ _ d _ => d = .bl true }
theorem walk_D {l : PySem.W.OpenLaw} {n k : Nat} {q : Program} {loose : List Str} {XP : (Str → Option Value) → Heap → Prop} {YP : World → Heap → Prop} {d : DefRec} {K : Params → PySem.W.Frag} {x : Str}
    (hn : l.most = some n) (hn2 : n ≤ sizeLine) (hdf : d.params.defaults = []) (hr : RoomG k callerA) (hY : ∀ (w : World) (h : Heap), YP w h → (K w.params).In h)
    (F : ∀ (w : World) (mg : Str → Option Value) (fa : Addr) (h : Heap), (K w.params).In h → h.Ns mainGlobals mg → mg d.name = some (.ref fa) →
      ∃ fd : FuncData, (∀ (s : Shared) (u : Value), BindsTo s fd ⟨[u], []⟩ [(x, u)]) ∧ ∀ base : Heap, (K w.params).In base → base.Ns mainGlobals mg → FnG l.prog w (K w.params) mg base CX0 k fa fd [x] (dSp (K w.params) (spLaw n))) :
    PySem.W.WalkO q loose XP YP l.row.toRowW d [] (fun f vs => PySem.call f vs) := by
  refine Att.attach_call hn hdf fun w s₀ s mg mb fa o pm cd doc a vs ns Gr Y ho hd hcd hmg hobj hints hlen hg => ?_
  have KX := hY w _ Y
  obtain ⟨fd, hb, hF⟩ := F w mg fa _ KX Gr.T.g hmg
  have rv := vals_ints hints
  have hl : ns.length ≤ sizeLine := Nat.le_trans hlen hn2
  have lenV := hints.length
  -- some abstract heap in which nothing but the script may stand, locked
  obtain ⟨H, only, seq, hok, free⟩ : ∃ H : Hp, (∀ b, H b = none ∨ ∃ ob xs, H b = some (.frz ob (.lst xs))) ∧ SqL (K w.params) H a (ns.map V.int) ∧ HOk l.prog w H s.heap ∧ ∀ b, H b ≠ none → b = a ∧ (K w.params).lookup a = none := by
    cases hk : (K w.params).lookup a with
    | some ob =>
      have e := KX a ob hk
      rw [hobj] at e
      cases e
      exact ⟨fun _ => none, fun _ => .inl rfl, .inr ⟨_, vs.toArray, _, hk, rfl, rfl, rfl, by rw [List.size_toArray, lenV]; exact hl, by simpa using rv⟩, fun b u z => (by cases (show (none : Option HO) = some u from z)), fun b z => absurd rfl z⟩
    | none =>
      refine ⟨upd (fun _ => none) a (.frz { cls := .type "list", data := .seq vs.toArray } (.lst (ns.map V.int))), fun b => ?_, .inl (.inr ⟨_, upd_same⟩), fun b u z => ?_, fun b z => ?_⟩
      · by_cases e : b = a
        · exact .inr ⟨_, _, by rw [e]; exact upd_same⟩
        · exact .inl (upd_ne e)
      · by_cases e : b = a
        · subst e
          rw [upd_same] at z
          cases z
          exact ⟨hobj, by rw [List.length_map]; exact hl, vs, _, rv, hobj⟩
        · rw [upd_ne e] at z
          cases z
      · by_cases e : b = a
        · exact ⟨e, rfl⟩
        · exact absurd (upd_ne e) z
  have nons : ∀ {b : Addr} {m : Str → Option Value}, s.heap.Ns b m → (hidT s.heap H).Ns b m := fun {b m} ⟨ob, es, ep, e, dd, r⟩ => ⟨ob, es, ep, hidT_get e (by
    cases z : H b with
    | none => rfl
    | some u =>
      obtain ⟨rfl, _⟩ := free b (by rw [z]; simp)
      rw [hobj] at e
      cases e
      cases (show Data.seq vs.toArray _ = Data.dict es ep from dd)), dd, r⟩
  have Kb : (K w.params).In (hidT s.heap H) := fun b ob e => hidT_get (KX b ob e) (by
    cases z : H b with
    | none => rfl
    | some u =>
      obtain ⟨rfl, z2⟩ := free b (by rw [z]; simp)
      rw [z2] at e
      cases e)
  have M : Mod (K w.params) mg (hidT s.heap H) := ⟨Kb, nons Gr.T.g, ⟨mb, nons Gr.T.b, Gr.T.builtins⟩, let ⟨mc, h1, h2⟩ := Gr.T.nolimit; ⟨mc, nons h1, h2⟩⟩
  have e0 : Env0 l.prog w (K w.params) mg (hidT s.heap H) callerA [] s H := ⟨rfl, M, fun b ob e => of_hidT e, Nat.le_of_eq (hidT_size _ _), trivial, fun b z => (by cases z), hok, PyProof.Rows.AllBare.of_eq hg⟩
  let g0 : G := ⟨H, [], []⟩
  have sr0 : Sr (K w.params) g0 [] H := ⟨fun _ _ e => e, rfl, List.nodup_nil, fun b z => (by cases z), fun i b c z _ => (by cases (show ([] : List Addr)[i]? = some b from z)), fun p z => (by cases z), List.nodup_nil⟩
  have sp0 : dSp (K w.params) (spLaw n) [.ref a] H (fun v _ => v = .bl true) fun _ _ _ => False :=
    ⟨g0, [], ⟨ns, hlen⟩, sr0, .cons ⟨a, rfl, seq⟩ .nil, rfl, fun dd cs' z g' H' v _ _ r => by
      have z' : dd = .bl true := z
      subst z'
      exact r, fun x cs' z => z.elim⟩
  refine codeAny_mono ((hF _ Kb (nons Gr.T.g)).run callerA [] s H ⟨[.ref a], []⟩ [.ref a] [.ref a] _ _ hr e0 (hb s (.ref a)) (.cons rfl .nil) sp0) fun r s' h => ?_
  cases r with
  | error e => exact (show False from h).elim
  | ok fl =>
    cases fl with
    | next => exact h.elim
    | brk => exact h.elim
    | cont => exact h.elim
    | ret u =>
      obtain ⟨v, H', os, bare, un, hok', r', z⟩ := h
      cases (show v = .bl true from z)
      cases (show u = Value.bool true from r')
      refine ⟨rfl, OldK.of_keep fun b ob e => ?_, os, bare⟩
      rcases only b with z | ⟨ob', xs, z⟩
      · exact un.keep b ob e z (by simp [frs]) (by simp)
      · obtain ⟨e1, _⟩ := hok b _ z
        obtain ⟨e2, _⟩ := hok' b _ (un.frzs b ob' _ z)
        rw [e] at e1
        cases e1
        exact e2
end DL

/-! DLib: what loops do, by an invariant; the sieve; sizes of ints. -/
namespace DL
open PySem PySem.Spec L2

/-! ### loops by an invariant -/
theorem for_inv {p : Pat} {wb : WS} {E : DN} {W : Sto → Prop} (I : Nat → En → Sto → Prop) : ∀ (ds : List D) (env : En) (cs : Sto) (h0 : I 0 env cs) (hW : ∀ i env cs, I i env cs → W cs)
    (hs : ∀ i d env cs, ds[i]? = some d → I i env cs → ∃ env', patSet cs p d env = some env' ∧ ∀ E' : DN, (∀ env cs, I (i + 1) env cs → E'.nx env cs) → (∀ env cs, I (i + 1) env cs → E'.ct env cs) → (∀ d cs, E.rt d cs → E'.rt d cs) → (∀ env cs, E.nx env cs → E'.bk env cs) → wb E' env' cs)
    (hd : ∀ env cs, I ds.length env cs → E.nx env cs), floop p wb E W ds env cs
  | [], env, cs, h0, hW, hs, hd => ⟨hW _ _ _ h0, hd _ _ h0⟩
  | d :: ds, env, cs, h0, hW, hs, hd => by
    refine ⟨hW _ _ _ h0, ?_⟩
    obtain ⟨env', e, h⟩ := hs 0 d env cs rfl h0
    rw [e]
    have go : ∀ env cs, I 1 env cs → floop p wb E W ds env cs := fun env cs h1 => for_inv (fun i => I (i + 1)) ds env cs h1 (fun i => hW (i + 1)) (fun i d env cs hi => hs (i + 1) d env cs (by simpa using hi)) (fun env cs => hd env cs)
    exact h _ go go (fun _ _ q => q) (fun _ _ q => q)
theorem lc_inv {p : Pat} {tt : WT} {we : WE} {env : En} {W : Sto → Prop} {Q : PD} (I : Nat → List D → Sto → Prop) : ∀ (ds acc : List D) (cs : Sto) (h0 : I 0 acc cs) (hW : ∀ i acc cs, I i acc cs → W cs)
    (hs : ∀ i d acc cs, ds[i]? = some d → I i acc cs → ∃ env', patSet cs p d env = some env' ∧ ∀ (R1 : PD) (R2 : Sto → Prop), (∀ y cs, I (i + 1) (acc ++ [y]) cs → R1 y cs) → (∀ cs, I (i + 1) acc cs → R2 cs) → tt env' cs fun b cs2 => if b = true then we env' cs2 R1 else R2 cs2)
    (hd : ∀ acc cs, I ds.length acc cs → Q (.lst acc) cs), lcloop p tt we env W Q ds acc cs
  | [], acc, cs, h0, hW, hs, hd => ⟨hW _ _ _ h0, hd _ _ h0⟩
  | d :: ds, acc, cs, h0, hW, hs, hd => by
    refine ⟨hW _ _ _ h0, ?_⟩
    obtain ⟨env', e, h⟩ := hs 0 d acc cs rfl h0
    rw [e]
    have go : ∀ acc cs, I 1 acc cs → lcloop p tt we env W Q ds acc cs := fun acc cs h1 => lc_inv (fun i => I (i + 1)) ds acc cs h1 (fun i => hW (i + 1)) (fun i d acc cs hi => hs (i + 1) d acc cs (by simpa using hi)) (fun acc cs => hd acc cs)
    exact h _ _ (fun y cs h1 => go _ cs h1) (fun cs h1 => go _ cs h1)
/-- a comprehension without a test whose element changes nothing -/
theorem lc_map {p : Pat} {we : WE} {env : En} {W : Sto → Prop} {Q : PD} (f : D → D) {cs : Sto} (hW : W cs) : ∀ (ds acc : List D)
    (hs : ∀ d ∈ ds, ∃ env', patSet cs p d env = some env' ∧ ∀ R : PD, R (f d) cs → we env' cs R) (hd : Q (.lst (acc ++ ds.map f)) cs), lcloop p wYes we env W Q ds acc cs
  | [], acc, hs, hd => ⟨hW, by simpa using hd⟩
  | d :: ds, acc, hs, hd => by
    refine ⟨hW, ?_⟩
    obtain ⟨env', e, h⟩ := hs d List.mem_cons_self
    rw [e]
    show wYes env' cs _
    simp only [wYes, if_true]
    exact h _ (lc_map f hW ds _ (fun d hd => hs d (List.mem_cons_of_mem _ hd)) (by simpa using hd))
/-- with a test -/
theorem lc_filter {p : Pat} {tt : WT} {we : WE} {env : En} {W : Sto → Prop} {Q : PD} (t : D → Bool) (f : D → D) {cs : Sto} (hW : W cs) : ∀ (ds acc : List D)
    (hs : ∀ d ∈ ds, ∃ env', patSet cs p d env = some env' ∧ (∀ R : Bool → Sto → Prop, R (t d) cs → tt env' cs R) ∧ (t d = true → ∀ R : PD, R (f d) cs → we env' cs R)) (hd : Q (.lst (acc ++ (ds.filter t).map f)) cs), lcloop p tt we env W Q ds acc cs
  | [], acc, hs, hd => ⟨hW, by simpa using hd⟩
  | d :: ds, acc, hs, hd => by
    refine ⟨hW, ?_⟩
    obtain ⟨env', e, h1, h2⟩ := hs d List.mem_cons_self
    rw [e]
    refine h1 _ ?_
    have tl : ∀ d ∈ ds, ∃ env', patSet cs p d env = some env' ∧ (∀ R : Bool → Sto → Prop, R (t d) cs → tt env' cs R) ∧ (t d = true → ∀ R : PD, R (f d) cs → we env' cs R) := fun d hd => hs d (List.mem_cons_of_mem _ hd)
    cases ht : t d with
    | true =>
      rw [if_pos rfl]
      refine h2 ht _ (lc_filter t f hW ds _ tl ?_)
      simpa [List.filter_cons, ht] using hd
    | false =>
      rw [if_neg (by simp)]
      refine lc_filter t f hW ds _ tl ?_
      simpa [List.filter_cons, ht] using hd

/-! ### the sieve: its cells, how many were begun, what is left of a great one -/
def svc (ns : List Int) (k r : Int) : CO := .lst [.lst (ns.map .int), .int k, .int r]
def SvN (i n : Nat) (cs : Sto) : Prop := ∃ ns k r, cs[i]? = some (svc ns k r) ∧ 0 ≤ k ∧ k ≤ (n : Int) ∧ ns.length ≤ 60
/-- at i a sieve that has begun at most n cells; all else as it was -/
structure Mv (i n : Nat) (cs cs' : Sto) : Prop where
  sv : SvN i n cs'
  len : cs'.length = cs.length
  el : ∀ j, j ≠ i → cs'[j]? = cs[j]?
theorem SvN.mono {i n m : Nat} {cs : Sto} (h : SvN i n cs) (l : n ≤ m) : SvN i m cs := by
  obtain ⟨ns, k, r, e, h0, h1, h2⟩ := h
  exact ⟨ns, k, r, e, h0, by omega, h2⟩
theorem Mv.refl {i n : Nat} {cs : Sto} (h : SvN i n cs) : Mv i n cs cs := ⟨h, rfl, fun _ _ => rfl⟩
theorem Mv.trans {i n m : Nat} {cs cs1 cs2 : Sto} (a : Mv i n cs cs1) (b : Mv i m cs1 cs2) : Mv i m cs cs2 := ⟨b.sv, b.len.trans a.len, fun j h => (b.el j h).trans (a.el j h)⟩
theorem Mv.mono {i n m : Nat} {cs cs1 : Sto} (a : Mv i n cs cs1) (l : n ≤ m) : Mv i m cs cs1 := ⟨a.sv.mono l, a.len, a.el⟩
theorem Mv.set {i n : Nat} {cs : Sto} {ns : List Int} {k r : Int} (hi : i < cs.length) (h0 : 0 ≤ k) (h1 : k ≤ (n : Int)) (h2 : ns.length ≤ 60) : Mv i n cs (cs.set i (svc ns k r)) :=
  ⟨⟨ns, k, r, by rw [List.getElem?_set_self hi], h0, h1, h2⟩, by simp, fun j h => by rw [List.getElem?_set_ne (Ne.symm h)]⟩

/-! ### sizes of ints -/
def Bd (n : Nat) (x : Int) : Prop := x.natAbs < 2 ^ n
theorem Bd.mono {n m : Nat} {x : Int} (h : Bd n x) (l : n ≤ m) : Bd m x := Nat.lt_of_lt_of_le h (Nat.pow_le_pow_right (by decide) l)
theorem Bd.add {n : Nat} {x y : Int} (h : Bd n x) (k : Bd n y) : Bd (n + 1) (x + y) := by
  have e : 2 ^ (n + 1) = 2 ^ n + 2 ^ n := by rw [Nat.pow_succ]; omega
  unfold Bd at *
  rw [e]
  omega
theorem Bd.sub {n : Nat} {x y : Int} (h : Bd n x) (k : Bd n y) : Bd (n + 1) (x - y) := by
  have e : 2 ^ (n + 1) = 2 ^ n + 2 ^ n := by rw [Nat.pow_succ]; omega
  unfold Bd at *
  rw [e]
  omega
theorem Bd.neg {n : Nat} {x : Int} (h : Bd n x) : Bd n (-x) := by
  unfold Bd at *
  rw [Int.natAbs_neg]
  exact h
theorem Bd.mul {n m : Nat} {x y : Int} (h : Bd n x) (k : Bd m y) : Bd (n + m) (x * y) := by
  unfold Bd at *
  rw [Int.natAbs_mul, Nat.pow_add]
  exact Nat.mul_lt_mul'' h k
theorem Bd.ok {n m : Nat} {x y : Int} (h : Bd n x) (k : Bd m y) (l : n + m ≤ 900000) : cMul x y :=
  .inr (wide_mul (a := n + 1) (b := m + 1) (h.mono (Nat.le_succ n)) (k.mono (Nat.le_succ m)) (Nat.succ_pos _) (Nat.succ_pos _) (by omega))
theorem Bd.left {x y : Int} (h : Bd 64 x) : cMul x y := .inl (.inl (by unfold Bd at h; omega))
theorem Bd.right {x y : Int} (h : Bd 64 y) : cMul x y := .inl (.inr (by unfold Bd at h; omega))
theorem Bd.of {n : Nat} {x : Int} (h : x.natAbs < 2 ^ n) : Bd n x := h
end DL

/-! DEval: the readings computed step by step, from the outside: what stands behind a step is not looked at before the step is done. -/
namespace DL
open PySem PySem.Spec L2

/-- what must not be looked at yet: a later place of the same word hangs on it -/
structure Lz {α : Sort u} (k : α) : Type where
/-- go on with what is there -/
def bindP {α : Type} (o : Option α) (k : α → Prop) (_z : Lz k := ⟨⟩) : Prop := match o with
  | some a => k a
  | none => False
theorem bindP_some {α : Type} (a : α) (k : α → Prop) (z : Lz k) : bindP (some a) k z = k a := (rfl)
theorem bindP_none {α : Type} (k : α → Prop) (z : Lz k) : bindP none k z = False := (rfl)
theorem bindP_i {α : Type} {o : Option α} {k : α → Prop} {z : Lz k} (a : α) (h : o = some a) (q : k a) : bindP o k z := by rw [h]; exact q
def cond2 (b : Bool) (A B : Prop) (_z : Lz (PProd.mk A B) := ⟨⟩) : Prop := if b = true then A else B
theorem cond2_true (A B : Prop) (z : Lz (PProd.mk A B)) : cond2 true A B z = A := (rfl)
theorem cond2_false (A B : Prop) (z : Lz (PProd.mk A B)) : cond2 false A B z = B := (rfl)
theorem cond2_i {b : Bool} {A B : Prop} {z : Lz (PProd.mk A B)} (h1 : b = true → A) (h2 : b = false → B) : cond2 b A B z := by
  cases b
  · exact h2 rfl
  · exact h1 rfl
theorem cond2_d {p : Prop} [Decidable p] {A B : Prop} {z : Lz (PProd.mk A B)} (h1 : p → A) (h2 : ¬ p → B) : cond2 (decide p) A B z := by
  by_cases h : p
  · rw [decide_eq_true h]; exact h1 h
  · rw [decide_eq_false h]; exact h2 h
theorem cond2_n {p : Prop} [Decidable p] {A B : Prop} {z : Lz (PProd.mk A B)} (h1 : ¬ p → A) (h2 : p → B) : cond2 (!decide p) A B z := by
  by_cases h : p
  · rw [decide_eq_true h]; exact h2 h
  · rw [decide_eq_false h]; exact h1 h
def letE {α : Type} (e : α) (k : α → Prop) (_z : Lz k := ⟨⟩) : Prop := k e
theorem letE_eq {α : Type} (e : α) (k : α → Prop) (z : Lz k) : letE e k z = k e := (rfl)
def envAt (env : En) (i : Nat) : Option D := match env[i]? with
  | some (some d) => some d
  | _ => none
theorem envAt_zero (d : D) (env : En) : envAt (some d :: env) 0 = some d := (rfl)
theorem envAt_none (env : En) : envAt (none :: env) 0 = none := (rfl)
theorem envAt_succ (x : Option D) (env : En) (n : Nat) : envAt (x :: env) (n + 1) = envAt env n := (rfl)
/-- a call of a def by its contract: nothing is looked at but the arguments -/
def callP (s : FSpec) (ds : List D) (cs : Sto) (Q : PD) (_z : Lz (s, Q) := ⟨⟩) : Prop := ∃ i, ds = s.args i ∧ s.pre i cs ∧ ∀ d cs', s.res i cs d cs' → Q d cs'
theorem callP_i {s : FSpec} {ds : List D} {cs : Sto} {Q : PD} {z : Lz (s, Q)} (i : s.ι) (h : ds = s.args i) (hp : s.pre i cs) (q : ∀ d cs', s.res i cs d cs' → Q d cs') : callP s ds cs Q z := ⟨i, h, hp, q⟩
/-- walks: nothing is looked at but the items and the store -/
def forP (p : Pat) (wb : WS) (E : DN) (W : Sto → Prop) (ds : List D) (env : En) (cs : Sto) (_z : Lz (p, wb, E, W) := ⟨⟩) : Prop := floop p wb E W ds env cs
theorem forP_i {p : Pat} {wb : WS} {E : DN} {W : Sto → Prop} {ds : List D} {env : En} {cs : Sto} {z : Lz (p, wb, E, W)} (h : floop p wb E W ds env cs) : forP p wb E W ds env cs z := h
theorem forP_nil (p : Pat) (wb : WS) (E : DN) (W : Sto → Prop) (env : En) (cs : Sto) (z : Lz (p, wb, E, W)) : forP p wb E W [] env cs z = (W cs ∧ E.nx env cs) := (rfl)
theorem forP_cons (p : Pat) (wb : WS) (E : DN) (W : Sto → Prop) (d : D) (ds : List D) (env : En) (cs : Sto) (z : Lz (p, wb, E, W)) : forP p wb E W (d :: ds) env cs z = (W cs ∧ bindP (patSet cs p d env) fun env' => wb { E with nx := fun env cs => forP p wb E W ds env cs, ct := fun env cs => forP p wb E W ds env cs, bk := E.nx } env' cs) := by
  show floop p wb E W (d :: ds) env cs = _
  unfold floop
  cases patSet cs p d env <;> rfl
def lcP (p : Pat) (tt : WT) (we : WE) (env : En) (W : Sto → Prop) (Q : PD) (ds acc : List D) (cs : Sto) (_z : Lz (p, tt, we, env, W, Q) := ⟨⟩) : Prop := lcloop p tt we env W Q ds acc cs
theorem lcP_i {p : Pat} {tt : WT} {we : WE} {env : En} {W : Sto → Prop} {Q : PD} {ds acc : List D} {cs : Sto} {z : Lz (p, tt, we, env, W, Q)} (h : lcloop p tt we env W Q ds acc cs) : lcP p tt we env W Q ds acc cs z := h
theorem lcP_nil (p : Pat) (tt : WT) (we : WE) (env : En) (W : Sto → Prop) (Q : PD) (acc : List D) (cs : Sto) (z : Lz (p, tt, we, env, W, Q)) : lcP p tt we env W Q [] acc cs z = (W cs ∧ Q (.lst acc) cs) := (rfl)
theorem lcP_cons (p : Pat) (tt : WT) (we : WE) (env : En) (W : Sto → Prop) (Q : PD) (d : D) (ds acc : List D) (cs : Sto) (z : Lz (p, tt, we, env, W, Q)) : lcP p tt we env W Q (d :: ds) acc cs z = (W cs ∧ bindP (patSet cs p d env) fun env' => tt env' cs fun b cs2 => cond2 b (we env' cs2 fun y cs3 => lcP p tt we env W Q ds (acc ++ [y]) cs3) (lcP p tt we env W Q ds acc cs2)) := by
  show lcloop p tt we env W Q (d :: ds) acc cs = _
  unfold lcloop
  cases patSet cs p d env <;> rfl
def whileP (t : WT) (wb : WS) (E : DN) (env : En) (cs : Sto) (_z : Lz (t, wb, E, env) := ⟨⟩) : Prop := wWhile t wb E env cs
theorem whileP_i {t : WT} {wb : WS} {E : DN} {env : En} {cs : Sto} {z : Lz (t, wb, E, env)} (h : wWhile t wb E env cs) : whileP t wb E env cs z := h
theorem wWhile_eq (t : WT) (wb : WS) (E : DN) (env : En) (cs : Sto) : wWhile t wb E env cs = whileP t wb E env cs := (rfl)

section
variable {env : En} {cs : Sto} {Q : PD} {E : DN}
theorem sz_le {n : Nat} (h : n ≤ 4096) : (n ≤ sizeLine) = True := eq_true (Nat.le_trans h (by rw [sizeLine_eq]; decide))
theorem and_t {p : Prop} : (True ∧ p) = p := propext ⟨fun h => h.2, fun h => ⟨trivial, h⟩⟩
theorem notD {p : Prop} [Decidable p] : (!decide p) = decide (¬ p) := by
  by_cases h : p <;> simp [h]
theorem ixN_nat {n i : Nat} (h : i < n) : ixN n (i : Int) = some i := by
  unfold ixN
  rw [if_pos (Int.natCast_nonneg i), if_pos (by omega)]
  simp
theorem ixN_out {n i : Nat} (h : ¬ i < n) : ixN n (i : Int) = none := by
  unfold ixN
  rw [if_pos (Int.natCast_nonneg i), if_neg (by omega)]
theorem atI_nat {α : Type} (l : List α) (i : Nat) : atI l (i : Int) = l[i]? := by
  unfold atI
  by_cases h : i < l.length
  · rw [ixN_nat h]; rfl
  · rw [ixN_out h, List.getElem?_eq_none (by omega)]; rfl
theorem atI_last {α : Type} (l : List α) : atI l (-1) = l.getLast? := by
  unfold atI ixN
  rw [if_neg (by omega)]
  by_cases h : 0 < l.length
  · rw [if_pos (by omega), List.getLast?_eq_getElem?]
    show l[(-1 + (l.length : Int)).toNat]? = _
    congr 1
    omega
  · have : l = [] := by cases l <;> simp_all
    subst this
    rfl
theorem atI_zero {α : Type} (a : α) (l : List α) : atI (a :: l) 0 = some a := atI_nat _ 0
theorem atI_1 {α : Type} (a b : α) (l : List α) : atI (a :: b :: l) 1 = some b := atI_nat _ 1
theorem atI_2 {α : Type} (a b c : α) (l : List α) : atI (a :: b :: c :: l) 2 = some c := atI_nat _ 2
theorem atI_3 {α : Type} (a b c d : α) (l : List α) : atI (a :: b :: c :: d :: l) 3 = some d := atI_nat _ 3
theorem ix0 {n : Nat} : ixN (n + 1) 0 = some 0 := ixN_nat (i := 0) (by omega)
theorem ix1 {n : Nat} : ixN (n + 2) 1 = some 1 := ixN_nat (i := 1) (by omega)
theorem ix2 {n : Nat} : ixN (n + 3) 2 = some 2 := ixN_nat (i := 2) (by omega)
theorem ix3 {n : Nat} : ixN (n + 4) 3 = some 3 := ixN_nat (i := 3) (by omega)
theorem take_min {α : Type} (l : List α) (a b : Nat) (h : b = l.length) : l.take (min a b) = l.take a := by
  by_cases h2 : a ≤ b
  · rw [Nat.min_eq_left h2]
  · rw [Nat.min_eq_right (by omega), h, List.take_length, List.take_of_length_le (by omega)]
theorem sIx_int (n d : Nat) {k : Int} (h : 0 ≤ k) : HT.sIx n d (some k) = min k.toNat n := by
  show (if k < 0 then (k + (n : Int)).toNat else min k.toNat n) = _
  rw [if_neg (by omega)]
theorem cutD_to (ds : List D) {k : Int} (h : 0 ≤ k) : cutD ds none (some k) = ds.take k.toNat := by
  unfold cutD
  rw [sIx_int _ _ h, HT.sIx_none, List.drop_zero, Nat.sub_zero, take_min _ _ _ rfl]
theorem cutD_from (ds : List D) {k : Int} (h : 0 ≤ k) : cutD ds (some k) none = ds.drop k.toNat := by
  unfold cutD
  rw [sIx_int _ _ h, HT.sIx_none]
  by_cases h2 : k.toNat ≤ ds.length
  · rw [Nat.min_eq_left h2, List.take_of_length_le (by rw [List.length_drop]; omega)]
  · rw [Nat.min_eq_right (by omega), Nat.sub_self, List.take_zero, List.drop_eq_nil_of_le (by omega)]
theorem cutD_mid (ds : List D) {i j : Int} (hi : 0 ≤ i) (hj : 0 ≤ j) : cutD ds (some i) (some j) = (ds.drop i.toNat).take (j.toNat - i.toNat) := by
  unfold cutD
  rw [sIx_int _ _ hi, sIx_int _ _ hj]
  by_cases h2 : i.toNat ≤ ds.length
  · rw [Nat.min_eq_left h2]
    by_cases h3 : j.toNat ≤ ds.length
    · rw [Nat.min_eq_left h3]
    · rw [Nat.min_eq_right (by omega), List.take_of_length_le (by rw [List.length_drop]; omega), List.take_of_length_le (by rw [List.length_drop]; omega)]
  · rw [Nat.min_eq_right (by omega : ds.length ≤ i.toNat), List.drop_eq_nil_of_le (by omega), List.drop_eq_nil_of_le (by omega), List.take_nil, List.take_nil]
theorem cutD_all (ds : List D) : cutD ds none none = ds := by
  unfold cutD
  rw [HT.sIx_none, HT.sIx_none, List.drop_zero, Nat.sub_zero, List.take_length]
theorem kB_int_int : kitB "int" "int" = some true := by decide +kernel
theorem kB_int_bool : kitB "int" "bool" = some false := by decide +kernel
theorem kB_bool_int : kitB "bool" "int" = some true := by decide +kernel
theorem kB_bool_bool : kitB "bool" "bool" = some true := by decide +kernel
theorem kB_list_lt : kitAnyB "list" [.ty "list", .ty "tuple"] = some true := by decide +kernel
theorem kB_tuple_lt : kitAnyB "tuple" [.ty "list", .ty "tuple"] = some true := by decide +kernel
/-! ### expressions -/
theorem wC_eq (d : D) : wC d env cs Q = Q d cs := (rfl)
theorem wVar_eq (i : Nat) : wVar i env cs Q = bindP (envAt env i) fun d => Q d cs := by
  unfold wVar envAt
  cases e : env[i]? with
  | none => simp only [e]; rfl
  | some o => cases o <;> simp only [e] <;> rfl
theorem wOp_eq (o : O2) (wa wb : WE) : wOp o wa wb env cs Q = wa env cs fun d1 cs1 => wb env cs1 fun d2 cs2 => o d1 d2 cs2 Q := (rfl)
theorem wUn_eq (o : O1) (wa : WE) : wUn o wa env cs Q = wa env cs fun d cs1 => o d cs1 Q := (rfl)
def blD : D → Option Bool
  | .bl b => some b
  | _ => none
theorem wTst_eq (w : WE) (Q : Bool → Sto → Prop) : wTst w env cs Q = w env cs fun d cs' => bindP (blD d) fun b => Q b cs' := by
  unfold wTst
  congr
  funext d cs'
  cases d <;> rfl
/-- truth: what must hold, and the answer -/
def truD (cs : Sto) (d : D) : Option (Prop × Bool) := (truOf cs d).map fun b => (truSz d, b)
theorem oTru_eq (d : D) (Q : Bool → Sto → Prop) : oTru d cs Q = bindP (truD cs d) fun p => p.1 ∧ Q p.2 cs := by
  unfold oTru truD
  cases truOf cs d with
  | none => exact propext ⟨fun ⟨_, e, _⟩ => (by cases e), fun h => False.elim h⟩
  | some b => exact propext ⟨fun ⟨_, e, z, q⟩ => by cases e; exact ⟨z, q⟩, fun ⟨z, q⟩ => ⟨b, rfl, z, q⟩⟩
theorem wTruD_eq (w : WE) (Q : Bool → Sto → Prop) : wTruD w env cs Q = w env cs fun d cs' => bindP (truD cs' d) fun p => p.1 ∧ Q p.2 cs' := by
  unfold wTruD
  congr
  funext d cs'
  exact oTru_eq d Q
theorem wAnd_eq (t u : WT) (Q : Bool → Sto → Prop) : wAnd t u env cs Q = t env cs fun c cs1 => cond2 c (u env cs1 Q) (Q false cs1) := (rfl)
theorem wOr_eq (t u : WT) (Q : Bool → Sto → Prop) : wOr t u env cs Q = t env cs fun c cs1 => cond2 c (Q true cs1) (u env cs1 Q) := (rfl)
theorem wNotD_eq (t : WT) (Q : Bool → Sto → Prop) : wNotD t env cs Q = t env cs fun c cs1 => Q (!c) cs1 := (rfl)
theorem wAndV_eq (wa wb : WE) : wAndV wa wb env cs Q = wa env cs fun d cs1 => bindP (truD cs1 d) fun p => p.1 ∧ cond2 p.2 (wb env cs1 Q) (Q d cs1) := by
  unfold wAndV
  congr
  funext d cs'
  exact oTru_eq d _
theorem wOrV_eq (wa wb : WE) : wOrV wa wb env cs Q = wa env cs fun d cs1 => bindP (truD cs1 d) fun p => p.1 ∧ cond2 p.2 (Q d cs1) (wb env cs1 Q) := by
  unfold wOrV
  congr
  funext d cs'
  exact oTru_eq d _
theorem wNotV_eq (wa : WE) : wNotV wa env cs Q = wa env cs fun d cs1 => bindP (truD cs1 d) fun p => p.1 ∧ Q (.bl (!p.2)) cs1 := by
  unfold wNotV
  congr
  funext d cs'
  exact oTru_eq d _
theorem wIf_eq (t : WT) (wa wb : WE) : wIf t wa wb env cs Q = t env cs fun c cs1 => cond2 c (wa env cs1 Q) (wb env cs1 Q) := (rfl)
theorem wTup_eq (w : WA) : wTup w env cs Q = w env cs fun ds cs' => ds.length ≤ sizeLine ∧ Q (.tup ds) cs' := (rfl)
theorem wLst_eq (w : WA) : wLst w env cs Q = w env cs fun ds cs' => ds.length ≤ sizeLine ∧ Q (.lst ds) cs' := (rfl)
theorem wCel_eq (w : WA) : wCel w env cs Q = w env cs fun ds cs' => ds.length ≤ sizeLine ∧ Q (.cell cs'.length) (cs' ++ [.lst ds]) := (rfl)
theorem wNil_eq (Q : List D → Sto → Prop) : wNil env cs Q = Q [] cs := (rfl)
theorem wCons_eq (wa : WE) (wr : WA) (Q : List D → Sto → Prop) : wCons wa wr env cs Q = wa env cs fun d cs1 => wr env cs1 fun ds cs2 => Q (d :: ds) cs2 := (rfl)
theorem wB_eq (o : OC) (w : WA) : wB o w env cs Q = w env cs fun ds cs1 => o ds cs1 Q := (rfl)
theorem o1_eq (o : O1) (d : D) : o1 o [d] cs Q = o d cs Q := (rfl)
theorem wCall_eq (s : FSpec) (wa : WA) : wCall s wa env cs Q = wa env cs fun ds cs1 => callP s ds cs1 Q := (rfl)
theorem wCall0_eq (s : FSpec) : wCall0 s env cs Q = callP s [] cs Q := propext ⟨fun ⟨i, e, h⟩ => ⟨i, e.symm, h⟩, fun ⟨i, e, h⟩ => ⟨i, e.symm, h⟩⟩
theorem wCallK_eq (s : FSpec) (n m : Nat) (perm : List Nat) (wa wk : WA) : wCallK s n m perm wa wk env cs Q = wa env cs fun ds cs1 => wk env cs1 fun es cs2 => ds.length = n ∧ es.length = m ∧ callP s (gP perm (ds ++ es)) cs2 Q := (rfl)
theorem wPn_eq (Q : Option Int → Sto → Prop) : wPn env cs Q = Q none cs := (rfl)
def intD : D → Option Int
  | .int i => some i
  | _ => none
theorem wPs_eq (we : WE) (Q : Option Int → Sto → Prop) : wPs we env cs Q = we env cs fun d cs' => bindP (intD d) fun i => Q (some i) cs' := by
  unfold wPs
  congr
  funext d cs'
  cases d <;> rfl
theorem wSl_eq (we : WE) (wl wh : WO) : wSl we wl wh env cs Q = we env cs fun d cs1 => wl env cs1 fun lo cs2 => wh env cs2 fun hi cs3 => oSl d lo hi cs3 Q := (rfl)
theorem wLc_eq (wi : WI) (p : Pat) (tt : WT) (we : WE) (vs : List Nat) : wLc wi p tt we vs env cs Q = wi env cs fun ds W cs1 => ds.length ≤ sizeLine ∧ letE (wipeE env vs) fun env' => lcP p tt we env' W Q ds [] cs1 := (rfl)
def seqI (cs : Sto) : D → Option (List D × (Sto → Prop))
  | .lst ds => some (ds, wAll)
  | .tup ds => some (ds, wAll)
  | .cell n => match cs[n]? with
    | some (.lst ds) => some (ds, wCl n ds)
    | _ => none
  | _ => none
theorem wSeqI_eq (we : WE) (Q : List D → (Sto → Prop) → Sto → Prop) : wSeqI we env cs Q = we env cs fun d cs' => bindP (seqI cs' d) fun p => Q p.1 p.2 cs' := by
  unfold wSeqI
  congr
  funext d cs'
  cases d with
  | cell n =>
    simp only [seqI]
    cases e : cs'[n]? with
    | none => simp [*, bindP_some, bindP_none]
    | some c => cases c <;> simp [*, bindP_some, bindP_none]
  | _ => rfl
def rng1 : List D → Option (Prop × List D)
  | [.int j] => some (-(2 ^ 62) ≤ j ∧ j < 2 ^ 62, rngD 0 j.toNat)
  | _ => none
def rng2 : List D → Option (Prop × List D)
  | [.int i, .int j] => some (-(2 ^ 62) ≤ i ∧ i < 2 ^ 62 ∧ -(2 ^ 62) ≤ j ∧ j < 2 ^ 62, rngD i (j - i).toNat)
  | _ => none
theorem wRng1_eq (w : WA) (Q : List D → (Sto → Prop) → Sto → Prop) : wRng1 w env cs Q = w env cs fun ds cs' => bindP (rng1 ds) fun p => p.1 ∧ Q p.2 wAll cs' := by
  unfold wRng1
  congr
  funext ds cs'
  refine propext ⟨fun ⟨j, e, h1, h2, q⟩ => ?_, fun h => ?_⟩
  · subst e
    exact ⟨⟨h1, h2⟩, q⟩
  · unfold rng1 at h
    split at h
    · exact ⟨_, rfl, h.1.1, h.1.2, h.2⟩
    · exact h.elim
theorem wRng2_eq (w : WA) (Q : List D → (Sto → Prop) → Sto → Prop) : wRng2 w env cs Q = w env cs fun ds cs' => bindP (rng2 ds) fun p => p.1 ∧ Q p.2 wAll cs' := by
  unfold wRng2
  congr
  funext ds cs'
  refine propext ⟨fun ⟨i, j, e, h, q⟩ => ?_, fun h => ?_⟩
  · subst e
    exact ⟨h, q⟩
  · unfold rng2 at h
    split at h
    · exact ⟨_, _, rfl, h.1, h.2⟩
    · exact h.elim
def en1 : List D → Option (List D)
  | [d] => (stay d).map (enD 0)
  | _ => none
theorem wEnum_eq (w : WA) (Q : List D → (Sto → Prop) → Sto → Prop) : wEnum w env cs Q = w env cs fun ds cs' => bindP (en1 ds) fun xs => Q xs wAll cs' := by
  unfold wEnum
  congr
  funext ds cs'
  refine propext ⟨fun ⟨d, xs, e, e2, q⟩ => ?_, fun h => ?_⟩
  · subst e
    simp only [en1, e2, Option.map_some, bindP_some]
    exact q
  · unfold en1 at h
    split at h
    · rename_i d
      cases e : stay d with
      | none => rw [e] at h; exact h.elim
      | some xs => rw [e] at h; exact ⟨d, xs, rfl, e, h⟩
    · exact h.elim
def zip1 : List D → Option (List D)
  | [.lst xs, .lst ys] => some (zipD xs ys)
  | [.tup xs, .tup ys] => some (zipD xs ys)
  | _ => none
theorem wZip_eq (w : WA) (Q : List D → (Sto → Prop) → Sto → Prop) : wZip w env cs Q = w env cs fun ds cs' => bindP (zip1 ds) fun xs => Q xs wAll cs' := by
  unfold wZip
  congr
  funext ds cs'
  refine propext ⟨fun ⟨xs, ys, e, q⟩ => ?_, fun h => ?_⟩
  · rcases e with e | e <;> (subst e; exact q)
  · unfold zip1 at h
    split at h
    · exact ⟨_, _, .inl rfl, h⟩
    · exact ⟨_, _, .inr rfl, h⟩
    · exact h.elim
/-! ### operations: what must hold, and the value -/
def iD (C : Int → Int → Prop) (f : Int → Int → D) : D → D → Option (Prop × D)
  | .int i, .int j => some (C i j, f i j)
  | _, _ => none
theorem oI_eq (C : Int → Int → Prop) (f : Int → Int → D) (d1 d2 : D) : oI C f d1 d2 cs Q = bindP (iD C f d1 d2) fun p => p.1 ∧ Q p.2 cs := by
  cases d1 <;> cases d2 <;> rfl
def uD (f : Int → D) : D → Option D
  | .int i => some (f i)
  | _ => none
theorem oU_eq (f : Int → D) (d : D) : oU f d cs Q = bindP (uD f d) fun x => Q x cs := by
  cases d <;> rfl
def addD (cs : Sto) (d1 d2 : D) : Option (Prop × D) := match d1, d2 with
  | .int i, .int j => some (True, .int (i + j))
  | .int i, .bl k => some (True, .int (i + PyProof.Rows.b2i k))
  | .str x, .str y => some (x.length + y.length ≤ sizeLine, .str (x ++ y))
  | .tup xs, .tup ys => some (xs.length + ys.length ≤ sizeLine, .tup (xs ++ ys))
  | d1, d2 => match lstOf cs d1 with
    | some xs => match lstOf cs d2 with
      | some ys => some (xs.length + ys.length ≤ sizeLine, .lst (xs ++ ys))
      | none => none
    | none => none
theorem addB {d1 d2 : D} : (∃ xs ys, lstOf cs d1 = some xs ∧ lstOf cs d2 = some ys ∧ xs.length + ys.length ≤ sizeLine ∧ Q (.lst (xs ++ ys)) cs) = bindP (match lstOf cs d1 with
    | some xs => match lstOf cs d2 with
      | some ys => some (xs.length + ys.length ≤ sizeLine, D.lst (xs ++ ys))
      | none => none
    | none => none) fun p => p.1 ∧ Q p.2 cs := by
  cases e1 : lstOf cs d1 with
  | none => simp [bindP_none]
  | some xs =>
    cases e2 : lstOf cs d2 with
    | none => simp [bindP_none]
    | some ys => simp [bindP_some]
theorem oAdd_eq (d1 d2 : D) : oAdd d1 d2 cs Q = bindP (addD cs d1 d2) fun p => p.1 ∧ Q p.2 cs := by
  cases d1 <;> cases d2 <;> first | rfl | exact addB | exact (and_t).symm
def iaddD : D → D → Option (Prop × D)
  | .int i, .int j => some (True, .int (i + j))
  | .str x, .str y => some (x.length + y.length ≤ sizeLine, .str (x ++ y))
  | _, _ => none
theorem oIadd_eq (d1 d2 : D) : oIadd d1 d2 cs Q = bindP (iaddD d1 d2) fun p => p.1 ∧ Q p.2 cs := by
  cases d1 <;> cases d2 <;> first | rfl | exact (and_t).symm
def mulD (cs : Sto) (d1 d2 : D) : Option (Prop × D) := match d1, d2 with
  | .int i, .int j => some (cMul i j, .int (i * j))
  | .tup xs, .int k => some (xs ≠ [] ∧ 1 ≤ k ∧ xs.length * k.toNat ≤ sizeLine, .tup (List.replicate k.toNat xs).flatten)
  | d1, .int k => match lstOf cs d1 with
    | some xs => some (-(2 ^ 63) ≤ k ∧ k < 2 ^ 63 ∧ xs.length * k.toNat ≤ sizeLine, .lst (List.replicate k.toNat xs).flatten)
    | none => none
  | _, _ => none
theorem mulB {d1 : D} {k : Int} : (∃ xs, lstOf cs d1 = some xs ∧ -(2 ^ 63) ≤ k ∧ k < 2 ^ 63 ∧ xs.length * k.toNat ≤ sizeLine ∧ Q (.lst (List.replicate k.toNat xs).flatten) cs) = bindP (match lstOf cs d1 with
    | some xs => some (-(2 ^ 63) ≤ k ∧ k < 2 ^ 63 ∧ xs.length * k.toNat ≤ sizeLine, D.lst (List.replicate k.toNat xs).flatten)
    | none => none) fun p => p.1 ∧ Q p.2 cs := by
  cases e : lstOf cs d1 with
  | none => simp [bindP_none]
  | some ds => simp [bindP_some, and_assoc]
theorem oMul_eq (d1 d2 : D) : oMul d1 d2 cs Q = bindP (mulD cs d1 d2) fun p => p.1 ∧ Q p.2 cs := by
  cases d2 with
  | int k => cases d1 <;> first | rfl | exact mulB
  | _ => cases d1 <;> rfl
def eqD (cs : Sto) (neg : Bool) (d1 d2 : D) : Option (Prop × D) := match d1, d2 with
  | .str x, .str y => some (True, .bl (if neg = true then !decide (x = y) else decide (x = y)))
  | d1, d2 => match pyOf cs d1 with
    | some p => match pyOf cs d2 with
      | some q => some (SeqAt.shaped p = true ∧ SeqAt.shaped q = true, .bl (if neg = true then !PyData.eqv p q else PyData.eqv p q))
      | none => none
    | none => none
theorem eqB {neg : Bool} {d1 d2 : D} : (∃ p q, pyOf cs d1 = some p ∧ pyOf cs d2 = some q ∧ SeqAt.shaped p = true ∧ SeqAt.shaped q = true ∧ Q (.bl (if neg = true then !PyData.eqv p q else PyData.eqv p q)) cs) = bindP (match pyOf cs d1 with
    | some p => match pyOf cs d2 with
      | some q => some (SeqAt.shaped p = true ∧ SeqAt.shaped q = true, D.bl (if neg = true then !PyData.eqv p q else PyData.eqv p q))
      | none => none
    | none => none) fun p => p.1 ∧ Q p.2 cs := by
  cases e1 : pyOf cs d1 with
  | none => simp [bindP_none]
  | some p =>
    cases e2 : pyOf cs d2 with
    | none => simp [bindP_none]
    | some q => simp [bindP_some, and_assoc]
theorem oEq_eq (neg : Bool) (d1 d2 : D) : oEq neg d1 d2 cs Q = bindP (eqD cs neg d1 d2) fun p => p.1 ∧ Q p.2 cs := by
  cases d1 <;> cases d2 <;> first | exact eqB | exact (and_t).symm
theorem eqD_int (neg : Bool) (i j : Int) : eqD cs neg (.int i) (.int j) = some (True, .bl (if neg = true then !decide (i = j) else decide (i = j))) := by
  have e : PyData.eqv (.int i) (.int j) = decide (i = j) := by rw [Bool.eq_iff_iff]; simp [PyData.eqv]
  simp only [eqD, pyOf, toPy, e]
  simp [SeqAt.shaped, PyData.canLay0, PyData.depth]
theorem eqD_str (neg : Bool) (x y : Str) : eqD cs neg (.str x) (.str y) = some (True, .bl (if neg = true then !decide (x = y) else decide (x = y))) := (rfl)
theorem eqD_bl (neg : Bool) (i j : Bool) : eqD cs neg (.bl i) (.bl j) = some (True, .bl (if neg = true then !(i == j) else (i == j))) := by
  have e : PyData.eqv (.bool i) (.bool j) = (i == j) := by simp [PyData.eqv]
  simp only [eqD, pyOf, toPy, e]
  simp [SeqAt.shaped, PyData.canLay0, PyData.depth]
def isND (neg : Bool) : D → D → Option D
  | d1, .non => some (.bl (if neg = true then !isNon d1 else isNon d1))
  | .bl a, .bl b => some (.bl (if neg = true then !(decide (a = b)) else decide (a = b)))
  | _, _ => none
theorem oIsN_eq (neg : Bool) (d1 d2 : D) : oIsN neg d1 d2 cs Q = bindP (isND neg d1 d2) fun x => Q x cs := by
  cases d2 <;> first | rfl | (cases d1 <;> rfl)
def ixD (cs : Sto) (d1 d2 : D) : Option (Prop × D) := match d2 with
  | .int i => match d1 with
    | .str z => match atI z.cps.toList i with
      | some c => some (z.length ≤ sizeLine, .str ⟨#[c]⟩)
      | none => none
    | d1 => match seqOf cs d1 with
      | some ds => match atI ds i with
        | some d => some (True, d)
        | none => none
      | none => none
  | _ => none
theorem ixB {d1 : D} {i : Int} : (∃ ds d, seqOf cs d1 = some ds ∧ atI ds i = some d ∧ Q d cs) = bindP (match seqOf cs d1 with
      | some ds => match atI ds i with
        | some d => some (True, d)
        | none => none
      | none => none) fun p => p.1 ∧ Q p.2 cs := by
  cases e : seqOf cs d1 with
  | none => simp [bindP_none]
  | some ds => cases e2 : atI ds i <;> simp [*, bindP_some, bindP_none]
theorem oIx_eq (d1 d2 : D) : oIx d1 d2 cs Q = bindP (ixD cs d1 d2) fun p => p.1 ∧ Q p.2 cs := by
  cases d2 with
  | int i =>
    cases d1 with
    | str z =>
      unfold oIx ixD
      simp only
      cases e : atI z.cps.toList i with
      | none => simp [*, bindP_some, bindP_none]
      | some c => simp [*, bindP_some, bindP_none]
    | _ => exact ixB
  | _ => rfl
def slD (cs : Sto) (d : D) (lo hi : Option Int) : Option (Prop × D) := match d with
  | .scr ns => some (True, .lst (cutD (ns.map .int) lo hi))
  | .tup ds => some (True, .tup (cutD ds lo hi))
  | .str z => some (z.length ≤ sizeLine, .str (cutS z lo hi))
  | d => match lstOf cs d with
    | some ds => some (True, .lst (cutD ds lo hi))
    | none => none
theorem slB {d : D} {lo hi : Option Int} : (∃ ds, lstOf cs d = some ds ∧ Q (.lst (cutD ds lo hi)) cs) = bindP (match lstOf cs d with
    | some ds => some (True, D.lst (cutD ds lo hi))
    | none => none) fun p => p.1 ∧ Q p.2 cs := by
  cases e : lstOf cs d <;> simp [bindP_some, bindP_none]
theorem oSl_eq (d : D) (lo hi : Option Int) : oSl d lo hi cs Q = bindP (slD cs d lo hi) fun p => p.1 ∧ Q p.2 cs := by
  cases d <;> first | rfl | exact slB | exact (and_t).symm
def lenD (cs : Sto) (d : D) : Option (Prop × D) := match d with
  | .str y => some (y.length ≤ sizeLine, .int y.length)
  | d => match seqOf cs d with
    | some ds => some (True, .int ds.length)
    | none => none
theorem lenB {d : D} : (∃ ds, seqOf cs d = some ds ∧ Q (.int ds.length) cs) = bindP (match seqOf cs d with
    | some ds => some (True, D.int ds.length)
    | none => none) fun p => p.1 ∧ Q p.2 cs := by
  cases e : seqOf cs d <;> simp [bindP_some, bindP_none]
theorem oLen_eq (d : D) : oLen d cs Q = bindP (lenD cs d) fun p => p.1 ∧ Q p.2 cs := by
  cases d <;> first | rfl | exact lenB
def intOf : D → Option D
  | .int i => some (.int i)
  | .bl k => some (.int (if k = true then 1 else 0))
  | _ => none
theorem oInt_eq (d : D) : oInt d cs Q = bindP (intOf d) fun x => Q x cs := by
  cases d <;> rfl
def absD : D → Option D
  | .int i => some (.int (if i < 0 then -i else i))
  | _ => none
theorem oAbs_eq (d : D) : oAbs d cs Q = bindP (absD d) fun x => Q x cs := by
  cases d <;> rfl
theorem oTup_eq (d : D) : oTup d cs Q = bindP (seqOf cs d) fun ds => Q (.tup ds) cs := by
  unfold oTup
  cases seqOf cs d <;> simp [*, bindP_some, bindP_none]
theorem oList_eq (d : D) : oList d cs Q = bindP (seqOf cs d) fun ds => Q (.lst ds) cs := by
  unfold oList
  cases seqOf cs d <;> simp [*, bindP_some, bindP_none]
def blsD (cs : Sto) (d : D) : Option (List Bool) := match lstOf cs d with
  | some ds => bls ds
  | none => none
def numsD (cs : Sto) (d : D) : Option (List Int) := match lstOf cs d with
  | some ds => nums ds
  | none => none
theorem oAll_eq (d : D) : oAll d cs Q = bindP (blsD cs d) fun bs => Q (.bl (bs.all id)) cs := by
  unfold oAll blsD
  cases e : lstOf cs d with
  | none => simp [*, bindP_some, bindP_none]
  | some ds => cases e2 : bls ds <;> simp [*, bindP_some, bindP_none, e2]
theorem oAny_eq (d : D) : oAny d cs Q = bindP (blsD cs d) fun bs => Q (.bl (bs.any id)) cs := by
  unfold oAny blsD
  cases e : lstOf cs d with
  | none => simp [*, bindP_some, bindP_none]
  | some ds => cases e2 : bls ds <;> simp [*, bindP_some, bindP_none, e2]
theorem oSum_eq (d : D) : oSum d cs Q = bindP (numsD cs d) fun ns => Q (.int ns.sum) cs := by
  unfold oSum numsD
  cases e : lstOf cs d with
  | none => simp [*, bindP_some, bindP_none]
  | some ds => cases e2 : nums ds <;> simp [*, bindP_some, bindP_none, e2]
def isiD (cs : Sto) : List D → Option Bool
  | [d, .ty n] => match tyD cs d with
    | some T => kitB T n
    | none => none
  | [d, .tup ns] => match tyD cs d with
    | some T => kitAnyB T ns
    | none => none
  | _ => none
theorem isiB {o : Option String} {f : String → Option Bool} : (∃ T b, o = some T ∧ f T = some b ∧ Q (.bl b) cs) = bindP (match o with
    | some T => f T
    | none => none) fun b => Q (.bl b) cs := by
  refine propext ⟨fun ⟨T, b, e1, e2, q⟩ => ?_, fun h => ?_⟩
  · subst e1
    show bindP (f T) _
    rw [e2]
    exact q
  · cases o with
    | none => exact h.elim
    | some T =>
      have h' : bindP (f T) fun b => Q (.bl b) cs := h
      cases e : f T with
      | none => rw [e] at h'; exact h'.elim
      | some b => rw [e] at h'; exact ⟨T, b, rfl, e, h'⟩
theorem oIsi_eq (ds : List D) : oIsi ds cs Q = bindP (isiD cs ds) fun b => Q (.bl b) cs := by
  match ds with
  | [] => rfl
  | [_] => rfl
  | [d, e] => cases e <;> first | rfl | exact isiB (f := fun T => kitB T _) | exact isiB (f := fun T => kitAnyB T _)
  | _ :: e :: _ :: _ => cases e <;> rfl
def reprD (cs : Sto) (d : D) : Option (Prop × Str) := (pyOf cs d).map fun p => (p.showable = true ∧ p.shown.length ≤ sizeLine ∧ p.depth ≤ 60, p.shown)
theorem oRepr_eq (d : D) : oRepr d cs Q = bindP (reprD cs d) fun p => p.1 ∧ Q (.str p.2) cs := by
  unfold oRepr reprD
  cases pyOf cs d <;> simp [bindP_some, bindP_none, and_assoc]
/-! ### statements -/
theorem wSeq_eq (w u : WS) : wSeq w u E env cs = w { E with nx := fun env' cs' => u E env' cs' } env cs := (rfl)
theorem wNext_eq : wNext E env cs = E.nx env cs := (rfl)
theorem wSet_eq (i : Nat) (we : WE) : wSet i we E env cs = we env cs fun d cs' => letE (env.set i (some d)) fun env' => E.nx env' cs' := (rfl)
theorem wPar_eq (i j : Nat) (w : WA) : wPar i j w E env cs = w env cs fun ds cs' => bindP (match ds with | [d, e] => some ((env.set i (some d)).set j (some e)) | _ => none) fun env' => E.nx env' cs' := by
  unfold wPar
  congr
  funext ds cs'
  match ds with
  | [] => rfl
  | [_] => rfl
  | [_, _] => rfl
  | _ :: _ :: _ :: _ => rfl
theorem wPar3_eq (i j k : Nat) (w : WA) : wPar3 i j k w E env cs = w env cs fun ds cs' => bindP (match ds with | [d, e, f] => some (((env.set i (some d)).set j (some e)).set k (some f)) | _ => none) fun env' => E.nx env' cs' := by
  unfold wPar3
  congr
  funext ds cs'
  match ds with
  | [] => rfl
  | [_] => rfl
  | [_, _] => rfl
  | [_, _, _] => rfl
  | _ :: _ :: _ :: _ :: _ => rfl
theorem wPat_eq (p : Pat) (we : WE) : wPat p we E env cs = we env cs fun d cs' => bindP (patSet cs' p d env) fun env' => E.nx env' cs' := by
  unfold wPat
  congr
  funext d cs'
  cases patSet cs' p d env <;> rfl
theorem wAug_eq (i : Nat) (o : O2) (we : WE) : wAug i o we E env cs = bindP (envAt env i) fun x => we env cs fun d cs1 => o x d cs1 fun z cs2 => letE (env.set i (some z)) fun env' => E.nx env' cs2 := by
  unfold wAug envAt
  cases e : env[i]? with
  | none => simp only [e]; rfl
  | some o => cases o <;> simp only [e] <;> rfl
theorem wIfS_eq (t : WT) (w u : WS) : wIfS t w u E env cs = t env cs fun b cs1 => cond2 b (w E env cs1) (u E env cs1) := (rfl)
theorem wRet_eq (we : WE) : wRet we E env cs = we env cs E.rt := (rfl)
theorem wRetN_eq : wRetN E env cs = E.rt .non cs := (rfl)
theorem wDrop_eq (we : WE) : wDrop we E env cs = we env cs fun _ cs' => E.nx env cs' := (rfl)
theorem wBreak_eq : wBreak E env cs = E.bk env cs := (rfl)
theorem wCont_eq : wCont E env cs = E.ct env cs := (rfl)
theorem wFor_eq (wi : WI) (p : Pat) (wb : WS) : wFor wi p wb E env cs = wi env cs fun ds W cs1 => forP p wb E W ds env cs1 := (rfl)
def stoD (cs : Sto) (o k d : D) : Option Sto := match o, k with
  | .cell n, .int i => match cs[n]? with
    | some (.lst ds) => match ixN ds.length i with
      | some j => some (cs.set n (.lst (ds.set j d)))
      | none => none
    | _ => none
  | _, _ => none
theorem stoB {n : Nat} {i : Int} {d : D} {k : Sto → Prop} : (∃ ds j, cs[n]? = some (.lst ds) ∧ ixN ds.length i = some j ∧ k (cs.set n (.lst (ds.set j d)))) = bindP (match cs[n]? with
    | some (.lst ds) => match ixN ds.length i with
      | some j => some (cs.set n (.lst (ds.set j d)))
      | none => none
    | _ => none) k := by
  cases e : cs[n]? with
  | none => simp [bindP_none]
  | some c =>
    cases c with
    | lst ds => cases e2 : ixN ds.length i <;> simp [bindP_some, bindP_none, e2]
    | _ => simp [bindP_none]
theorem wStore_eq (we wo wi : WE) : wStore we wo wi E env cs = we env cs fun d cs1 => wo env cs1 fun o cs2 => wi env cs2 fun k cs3 => bindP (stoD cs3 o k d) fun cs4 => E.nx env cs4 := by
  unfold wStore
  congr
  funext d cs1
  congr
  funext o cs2
  congr
  funext k cs3
  cases o <;> first | rfl | (cases k <;> first | rfl | exact stoB)
def frzD (env : En) (cs : Sto) (i : Nat) : Option (En × Sto) := match envAt env i with
  | some (.cell n) => match cs[n]? with
    | some (.lst ds) => some (env.set i (some (.lst ds)), cs.set n .dead)
    | _ => none
  | _ => none
theorem wFrz_eq (i : Nat) (u : WS) : wFrz i u E env cs = bindP (frzD env cs i) fun p => u E p.1 p.2 := by
  unfold wFrz frzD envAt
  refine propext ⟨fun ⟨n, ds, e1, e2, h⟩ => ?_, fun h => ?_⟩
  · rw [e1]
    simp only [e2]
    exact h
  · cases e1 : env[i]? with
    | none => rw [e1] at h; exact h.elim
    | some o =>
      rw [e1] at h
      cases o with
      | none => exact h.elim
      | some d =>
        cases d with
        | cell n =>
          cases e2 : cs[n]? with
          | none => simp only [e2] at h; exact h.elim
          | some c =>
            cases c with
            | lst ds => simp only [e2] at h; exact ⟨n, ds, rfl, e2, h⟩
            | _ => simp only [e2] at h; exact h.elim
        | _ => exact h.elim
end

/-! ### lists, tuples and changing lists alike -/
def lstAt (cs : Sto) (n : Nat) : Option (List D) := match cs[n]? with
  | some (.lst ds) => some ds
  | _ => none
theorem lstOf_cell {cs : Sto} {n : Nat} : lstOf cs (.cell n) = lstAt cs n := (rfl)
theorem seqOf_cell {cs : Sto} {n : Nat} : seqOf cs (.cell n) = lstAt cs n := (rfl)
theorem seqI_cell {cs : Sto} {n : Nat} : seqI cs (.cell n) = (lstAt cs n).map fun ds => (ds, wCl n ds) := by
  unfold lstAt
  cases e : cs[n]? with
  | none => simp only [seqI, e, Option.map_none]
  | some c => cases c <;> simp only [seqI, e, Option.map_none, Option.map_some]
theorem lenD_cell {cs : Sto} {n : Nat} : lenD cs (.cell n) = (lstAt cs n).map fun xs => (True, .int xs.length) := by
  show (match lstAt cs n with | some ds => some (True, D.int ds.length) | none => none) = _
  cases lstAt cs n <;> rfl
theorem ixD_cell {cs : Sto} {n : Nat} (i : Int) : ixD cs (.cell n) (.int i) = (lstAt cs n).bind fun xs => (atI xs i).map fun d => (True, d) := by
  show (match lstAt cs n with | some ds => (match atI ds i with | some d => some (True, d) | none => none) | none => none) = _
  cases lstAt cs n with
  | none => rfl
  | some ds => cases h : atI ds i <;> simp only [h, Option.bind_some, Option.map_none, Option.map_some]
theorem truD_cell {cs : Sto} {n : Nat} : truD cs (.cell n) = (lstAt cs n).map fun xs => (True, !xs.isEmpty) := by
  show ((lstAt cs n).map fun ds => !ds.isEmpty).map (fun b => (truSz (.cell n), b)) = _
  cases lstAt cs n <;> rfl
theorem stoD_cell {cs : Sto} {n : Nat} (i : Int) (d : D) : stoD cs (.cell n) (.int i) d = (lstAt cs n).bind fun xs => (ixN xs.length i).map fun j => cs.set n (.lst (xs.set j d)) := by
  unfold lstAt
  cases e : cs[n]? with
  | none => simp only [stoD, e, Option.bind_none]
  | some c =>
    cases c with
    | lst xs => cases e2 : ixN xs.length i <;> simp only [stoD, e, e2, Option.bind_some, Option.map_none, Option.map_some]
    | _ => simp only [stoD, e, Option.bind_none]
theorem frzD_eq (env : En) (cs : Sto) (i : Nat) : frzD env cs i = (envAt env i).bind fun d => match d with
    | .cell n => (lstAt cs n).map fun ds => (env.set i (some (.lst ds)), cs.set n .dead)
    | _ => none := by
  unfold frzD lstAt
  cases envAt env i with
  | none => rfl
  | some d =>
    cases d with
    | cell n =>
      simp only [Option.bind_some]
      cases e : cs[n]? with
      | none => rfl
      | some c => cases c <;> rfl
    | _ => rfl
theorem lstAt_get {cs : Sto} {n : Nat} {xs : List D} (h : cs[n]? = some (.lst xs)) : lstAt cs n = some xs := by simp only [lstAt, h]
theorem lstAt_set {cs : Sto} {n : Nat} (xs : List D) (h : n < cs.length) : lstAt (cs.set n (.lst xs)) n = some xs := by simp only [lstAt, List.getElem?_set_self h]
theorem lstAt_ne {cs : Sto} {n m : Nat} {c : CO} (h : m ≠ n) : lstAt (cs.set m c) n = lstAt cs n := by simp only [lstAt, List.getElem?_set_ne h]
theorem lstAt_app {cs : Sto} (xs : List D) : lstAt (cs ++ [.lst xs]) cs.length = some xs := by simp [lstAt]
theorem lstAt_old {cs : Sto} {n : Nat} {c : CO} (h : n < cs.length) : lstAt (cs ++ [c]) n = lstAt cs n := by simp only [lstAt, List.getElem?_append_left h]
theorem set_app {cs : Sto} {c c' : CO} : (cs ++ [c]).set cs.length c' = cs ++ [c'] := by simp
theorem set_old {cs : Sto} {n : Nat} {c c' : CO} (h : n < cs.length) : (cs ++ [c]).set n c' = cs.set n c' ++ [c] := by rw [List.set_append_left _ _ h]
theorem lstAt_0 (c : List D) (r : Sto) : lstAt (.lst c :: r) 0 = some c := (rfl)
theorem lstAt_s (c : CO) (r : Sto) (n : Nat) : lstAt (c :: r) (n + 1) = lstAt r n := (rfl)
theorem app_len {cs : Sto} {c : CO} : (cs ++ [c]).length = cs.length + 1 := by simp
theorem isi_non {cs : Sto}  (n : String) : isiD cs [.non, .ty n] = kitB "NoneType" n := (rfl)
theorem isit_non {cs : Sto}  (ns : List D) : isiD cs [.non, .tup ns] = kitAnyB "NoneType" ns := (rfl)
theorem isi_bl {cs : Sto} (b : Bool) (n : String) : isiD cs [(.bl b), .ty n] = kitB "bool" n := (rfl)
theorem isit_bl {cs : Sto} (b : Bool) (ns : List D) : isiD cs [(.bl b), .tup ns] = kitAnyB "bool" ns := (rfl)
theorem isi_int {cs : Sto} (i : Int) (n : String) : isiD cs [(.int i), .ty n] = kitB "int" n := (rfl)
theorem isit_int {cs : Sto} (i : Int) (ns : List D) : isiD cs [(.int i), .tup ns] = kitAnyB "int" ns := (rfl)
theorem isi_str {cs : Sto} (x : Str) (n : String) : isiD cs [(.str x), .ty n] = kitB "str" n := (rfl)
theorem isit_str {cs : Sto} (x : Str) (ns : List D) : isiD cs [(.str x), .tup ns] = kitAnyB "str" ns := (rfl)
theorem isi_tup {cs : Sto} (xs : List D) (n : String) : isiD cs [(.tup xs), .ty n] = kitB "tuple" n := (rfl)
theorem isit_tup {cs : Sto} (xs : List D) (ns : List D) : isiD cs [(.tup xs), .tup ns] = kitAnyB "tuple" ns := (rfl)
theorem isi_lst {cs : Sto} (xs : List D) (n : String) : isiD cs [(.lst xs), .ty n] = kitB "list" n := (rfl)
theorem isit_lst {cs : Sto} (xs : List D) (ns : List D) : isiD cs [(.lst xs), .tup ns] = kitAnyB "list" ns := (rfl)
theorem isi_dic {cs : Sto} (kvs : List (Key × D)) (n : String) : isiD cs [(.dic kvs), .ty n] = kitB "dict" n := (rfl)
theorem isit_dic {cs : Sto} (kvs : List (Key × D)) (ns : List D) : isiD cs [(.dic kvs), .tup ns] = kitAnyB "dict" ns := (rfl)
theorem lstOf_lst {cs : Sto} (xs : List D) : lstOf cs (.lst xs) = some xs := (rfl)
theorem seqOf_lst {cs : Sto} (xs : List D) : seqOf cs (.lst xs) = some xs := (rfl)
theorem seqOf_tup {cs : Sto} (xs : List D) : seqOf cs (.tup xs) = some xs := (rfl)
theorem seqI_lst {cs : Sto} (xs : List D) : seqI cs (.lst xs) = some (xs, wAll) := (rfl)
theorem seqI_tup {cs : Sto} (xs : List D) : seqI cs (.tup xs) = some (xs, wAll) := (rfl)
theorem lenD_str {cs : Sto} (x : Str) : lenD cs (.str x) = some (x.length ≤ sizeLine, .int x.length) := (rfl)
theorem lenD_lst {cs : Sto} (xs : List D) : lenD cs (.lst xs) = some (True, .int xs.length) := (rfl)
theorem lenD_tup {cs : Sto} (xs : List D) : lenD cs (.tup xs) = some (True, .int xs.length) := (rfl)
theorem ixD_lst {cs : Sto} (xs : List D) (i : Int) : ixD cs (.lst xs) (.int i) = (atI xs i).map fun d => (True, d) := by simp only [ixD, seqOf, lstOf]; cases atI xs i <;> rfl
theorem ixD_tup {cs : Sto} (xs : List D) (i : Int) : ixD cs (.tup xs) (.int i) = (atI xs i).map fun d => (True, d) := by simp only [ixD, seqOf]; cases atI xs i <;> rfl
theorem ixD_seq {cs : Sto} {d : D} {xs : List D} (h : seqOf cs d = some xs) (i : Int) : ixD cs d (.int i) = (atI xs i).map fun d => (True, d) := by
  cases d <;> first | (cases h; done) | (simp only [ixD, h]; cases atI xs i <;> rfl)
theorem truD_non {cs : Sto}  : truD cs .non = some (True, false) := (rfl)
theorem truD_bl {cs : Sto} (b : Bool) : truD cs (.bl b) = some (True, b) := (rfl)
theorem truD_int {cs : Sto} (i : Int) : truD cs (.int i) = some (True, (i != 0)) := (rfl)
theorem truD_str {cs : Sto} (x : Str) : truD cs (.str x) = some (x.length ≤ sizeLine, ((x.length : Int) != 0)) := (rfl)
theorem truD_tup {cs : Sto} (xs : List D) : truD cs (.tup xs) = some (True, (!xs.isEmpty)) := (rfl)
theorem truD_lst {cs : Sto} (xs : List D) : truD cs (.lst xs) = some (True, (!xs.isEmpty)) := (rfl)
theorem truD_dic {cs : Sto} (kvs : List (Key × D)) : truD cs (.dic kvs) = some (True, (!kvs.isEmpty)) := (rfl)
theorem isi_cell {cs : Sto} {k : Nat} {xs : List D} (h : cs[k]? = some (.lst xs)) (n : String) : isiD cs [.cell k, .ty n] = kitB "list" n := by simp only [isiD, tyD, h]
theorem isit_cell {cs : Sto} {k : Nat} {xs : List D} (h : cs[k]? = some (.lst xs)) (ns : List D) : isiD cs [.cell k, .tup ns] = kitAnyB "list" ns := by simp only [isiD, tyD, h]
theorem lenD_seq {cs : Sto} {d : D} {ds : List D} (h : seqOf cs d = some ds) : lenD cs d = some (True, .int ds.length) := by
  cases d <;> first | (cases h; done) | (simp only [lenD, h])
theorem isiD_seq {cs : Sto} {d : D} {ds : List D} (h : seqOf cs d = some ds) : isiD cs [d, .tup [.ty "list", .ty "tuple"]] = some true := by
  cases d with
  | tup xs => simp only [isiD, tyD, kB_tuple_lt]
  | lst xs => simp only [isiD, tyD, kB_list_lt]
  | cell n =>
    simp only [seqOf, lstOf] at h
    cases e : cs[n]? with
    | none => rw [e] at h; cases h
    | some c =>
      rw [e] at h
      cases c with
      | lst xs => simp only [isiD, tyD, e, kB_list_lt]
      | _ => cases h
  | _ => cases h
theorem seqI_seq {cs : Sto} {d : D} {ds : List D} (h : seqOf cs d = some ds) : ∃ W, seqI cs d = some (ds, W) ∧ W cs := by
  cases d with
  | tup xs => cases h; exact ⟨wAll, rfl, trivial⟩
  | lst xs => cases h; exact ⟨wAll, rfl, trivial⟩
  | cell n =>
    simp only [seqOf, lstOf] at h
    cases e : cs[n]? with
    | none => rw [e] at h; cases h
    | some c =>
      rw [e] at h
      cases c with
      | lst xs => cases h; exact ⟨wCl n ds, by simp only [seqI, e], e⟩
      | _ => cases h
  | _ => cases h

/-! ### numbers, truths, None, in tuples and lists: what == and repr need -/
mutual
def DB (n : Nat) : Nat → D → Prop
  | _, .int i => Bd n i
  | _, .bl _ => True
  | _, .non => True
  | k + 1, .tup ds => DBL n k ds
  | k + 1, .lst ds => DBL n k ds
  | _, _ => False
def DBL (n : Nat) : Nat → List D → Prop
  | _, [] => True
  | k, d :: ds => DB n k d ∧ DBL n k ds
end
mutual
def dwt : D → Nat
  | .tup ds => dwts ds
  | .lst ds => dwts ds
  | _ => 0
def dwts : List D → Nat
  | [] => 0
  | d :: ds => dwt d + 1 + dwts ds
end
theorem log2_lt {n : Nat} {x : Int} (h : Bd n x) (l : n ≤ 1920) : x.natAbs.log2 < 1920 := by
  by_cases h0 : x.natAbs = 0
  · rw [h0]; decide
  · exact (Nat.log2_lt h0).mpr (Nat.lt_of_lt_of_le h (Nat.pow_le_pow_right (by decide) l))
structure PyOK (k w : Nat) (p : PyData) : Prop where
  lay : p.canLay0 = true
  dep : p.depth ≤ k
  sh : p.showable = true
  lv : p.leavesShort 1921 = true
  bk : p.bulk = w
structure PyOKL (k w : Nat) (p : List PyData) : Prop where
  lay : PyData.canLayAll0 p = true
  dep : PyData.depthAll p ≤ k
  sh : PyData.showableAll p = true
  lv : PyData.leavesShortAll 1921 p = true
  bk : PyData.bulkAll p = w
mutual
theorem DB.py {n : Nat} (l : n ≤ 1920) : ∀ {k : Nat} {d : D}, DB n k d → ∃ p, toPy d = some p ∧ PyOK k (dwt d) p
  | k, .int i, h => ⟨.int i, by simp only [toPy], by simp [PyData.canLay0], by simp [PyData.depth], by simp only [PyData.showable, decide_eq_true_eq]; exact log2_lt (by simpa [DB] using h) l, by
      simp only [PyData.leavesShort, decide_eq_true_eq]
      have e := int_text_length_le (a := i) (k := 1920) (by decide) (log2_lt (by simpa [DB] using h) l)
      show (Str.ofString (toString i)).length ≤ 1921
      rw [ofString_length]
      exact e, by simp [PyData.bulk, dwt]⟩
  | k, .bl b, h => ⟨.bool b, by simp only [toPy], by simp [PyData.canLay0], by simp [PyData.depth], by simp [PyData.showable], by simp [PyData.leavesShort], by simp [PyData.bulk, dwt]⟩
  | k, .non, h => ⟨.none, by simp only [toPy], by simp [PyData.canLay0], by simp [PyData.depth], by simp [PyData.showable], by simp [PyData.leavesShort], by simp [PyData.bulk, dwt]⟩
  | k + 1, .tup ds, h => by
    obtain ⟨ps, e, o⟩ := DBL.py l (k := k) (ds := ds) (by simpa [DB] using h)
    exact ⟨.tuple ps, by simp only [toPy, e], by simp only [PyData.canLay0]; exact o.lay, by simp only [PyData.depth]; have := o.dep; omega, by simp only [PyData.showable]; exact o.sh, by simp only [PyData.leavesShort]; exact o.lv, by simp only [PyData.bulk, dwt]; exact o.bk⟩
  | k + 1, .lst ds, h => by
    obtain ⟨ps, e, o⟩ := DBL.py l (k := k) (ds := ds) (by simpa [DB] using h)
    exact ⟨.list ps, by simp only [toPy, e], by simp only [PyData.canLay0]; exact o.lay, by simp only [PyData.depth]; have := o.dep; omega, by simp only [PyData.showable]; exact o.sh, by simp only [PyData.leavesShort]; exact o.lv, by simp only [PyData.bulk, dwt]; exact o.bk⟩
  | 0, .tup ds, h => by simp [DB] at h
  | 0, .lst ds, h => by simp [DB] at h
  | _, .str _, h => by simp [DB] at h
  | _, .ty _, h => by simp [DB] at h
  | _, .ref _, h => by simp [DB] at h
  | _, .dic _, h => by simp [DB] at h
  | _, .obj _ _, h => by simp [DB] at h
  | _, .cell _, h => by simp [DB] at h
  | _, .scr _, h => by simp [DB] at h
theorem DBL.py {n : Nat} (l : n ≤ 1920) : ∀ {k : Nat} {ds : List D}, DBL n k ds → ∃ p, toPyL ds = some p ∧ PyOKL k (dwts ds) p
  | k, [], h => ⟨[], by simp only [toPyL], by simp [PyData.canLayAll0], by simp [PyData.depthAll], by simp [PyData.showableAll], by simp [PyData.leavesShortAll], by simp [PyData.bulkAll, dwts]⟩
  | k, d :: ds, h => by
    have h' : DB n k d ∧ DBL n k ds := by simpa [DBL] using h
    obtain ⟨p, e1, o1⟩ := DB.py l h'.1
    obtain ⟨ps, e2, o2⟩ := DBL.py l h'.2
    refine ⟨p :: ps, by simp only [toPyL, e1, e2], by simp only [PyData.canLayAll0, o1.lay, o2.lay, Bool.and_self], by simp only [PyData.depthAll]; have := o1.dep; have := o2.dep; omega, by simp only [PyData.showableAll, o1.sh, o2.sh, Bool.and_self], by simp only [PyData.leavesShortAll, o1.lv, o2.lv, Bool.and_self], by simp only [PyData.bulkAll, dwts, o1.bk, o2.bk]⟩
end
def noC : D → Bool
  | .cell _ => false
  | _ => true
theorem pyOf_noC {cs : Sto} {d : D} (h : noC d = true) : pyOf cs d = toPy d := by
  cases d <;> first | rfl | cases h
theorem DB.noC {n k : Nat} : ∀ {d : D}, DB n k d → noC d = true := fun {d} h => by
  cases d <;> first | rfl | (cases k <;> simp [DB] at h)
/-- the text of a value -/
def shD (d : D) : Str := match toPy d with
  | some p => p.shown
  | none => ""
theorem reprD_ok {cs : Sto} {n k : Nat} {d : D} (h : DB n k d) (l : n ≤ 1920 := by decide) (hk : k ≤ 60 := by decide) (hw : dwt d ≤ 8000 := by decide) : reprD cs d = some (True, shD d) := by
  obtain ⟨p, e, o⟩ := h.py l
  have h3 : p.shown.length ≤ sizeLine := by
    have h := PyData.shown_le_bulk 1921 (by decide) p o.lv
    have := o.bk
    have h2 : (1921 + 2) * p.bulk ≤ 1923 * 8000 := Nat.mul_le_mul (by omega) (by omega)
    rw [sizeLine_eq]
    omega
  unfold reprD shD
  rw [pyOf_noC h.noC, e]
  simp only [Option.map_some, Option.some.injEq, Prod.mk.injEq, and_true]
  exact eq_true ⟨o.sh, h3, Nat.le_trans o.dep hk⟩
theorem eqD_self {cs : Sto} {n k : Nat} {d : D} {neg : Bool} (h : DB n k d) (l : n ≤ 1920 := by decide) (hk : k ≤ 60 := by decide) : eqD cs neg d d = some (True, .bl (!neg)) := by
  obtain ⟨p, e, o⟩ := h.py l
  have e2 : SeqAt.shaped p = true := by
    unfold SeqAt.shaped
    rw [o.lay]
    simp only [Bool.true_and, decide_eq_true_eq]
    have := o.dep
    omega
  unfold eqD
  split
  · simp [DB] at h
  · rw [pyOf_noC h.noC, e]
    simp only [e2, SeqAt.eqv_refl p o.lay, and_self]
    cases neg <;> rfl
end DL

/-! DTrim: a def's own changing lists are forgotten behind it. -/
namespace DL
open PySem PySem.Spec L2
open PyProof.Rows (envOfC)

mutual
/-- all changing objects in it stand below n -/
def okD (n : Nat) : D → Prop
  | .cell i => i < n
  | .tup ds => okDs n ds
  | .lst ds => okDs n ds
  | .dic kvs => okKs n kvs
  | .obj _ fs => okFs n fs
  | _ => True
def okDs (n : Nat) : List D → Prop
  | [] => True
  | d :: ds => okD n d ∧ okDs n ds
def okKs (n : Nat) : List (Key × D) → Prop
  | [] => True
  | (_, d) :: ds => okD n d ∧ okKs n ds
def okFs (n : Nat) : List (Str × D) → Prop
  | [] => True
  | (_, d) :: ds => okD n d ∧ okFs n ds
end
def okCO (n : Nat) : CO → Prop
  | .lst ds => okDs n ds
  | .ins _ fs => okFs n fs
  | .dic kvs => okKs n kvs
  | .dead => True
def okS (n : Nat) (cs : Sto) : Prop := ∀ c ∈ cs, okCO n c
def G.cut (g : G) (n : Nat) : G := { g with as := g.as.take n }
section
variable {K : PySem.W.Frag} {g : G} {cs : Sto} {H : Hp}
mutual
theorem Rep.okD : ∀ (d : D) (v : V), Rep K g d v → DL.okD g.as.length d
  | .non, _, _ => by simp [DL.okD]
  | .bl _, _, _ => by simp [DL.okD]
  | .int _, _, _ => by simp [DL.okD]
  | .str _, _, _ => by simp [DL.okD]
  | .ty _, _, _ => by simp [DL.okD]
  | .ref _, _, _ => by simp [DL.okD]
  | .scr _, _, _ => by simp [DL.okD]
  | .tup ds, v, h => by
    obtain ⟨a, vs, e1, h1, h2⟩ := h
    simp only [DL.okD]
    exact RepL.okD ds vs h2
  | .lst ds, v, h => by
    obtain ⟨a, vs, e1, h1, h2⟩ := h
    simp only [DL.okD]
    exact RepL.okD ds vs h2
  | .dic ds, v, h => by
    obtain ⟨a, vs, e1, h1, h2⟩ := h
    simp only [DL.okD]
    exact RepK.okD ds vs h2
  | .obj C ds, v, h => by
    obtain ⟨a, dx, vs, e1, h1, h2⟩ := h
    simp only [DL.okD]
    exact RepF.okD ds vs h2
  | .cell i, v, h => by
    obtain ⟨a, e1, h1⟩ := h
    simp only [DL.okD]
    exact (List.getElem?_eq_some_iff.mp h1).1
theorem RepL.okD : ∀ (ds : List D) (vs : List V), RepL K g ds vs → okDs g.as.length ds
  | [], _, _ => by simp [okDs]
  | d :: ds, vs, h => by
    obtain ⟨v, r, e1, h1, h2⟩ := h
    simp only [okDs]
    exact ⟨Rep.okD d v h1, RepL.okD ds r h2⟩
theorem RepK.okD : ∀ (ds : List (Key × D)) (vs : List (Key × V)), RepK K g ds vs → okKs g.as.length ds
  | [], _, _ => by simp [okKs]
  | (k, d) :: ds, vs, h => by
    obtain ⟨v, r, e1, h1, h2⟩ := h
    simp only [okKs]
    exact ⟨Rep.okD d v h1, RepK.okD ds r h2⟩
theorem RepF.okD : ∀ (ds : List (Str × D)) (vs : List (Str × V)), RepF K g ds vs → okFs g.as.length ds
  | [], _, _ => by simp [okFs]
  | (k, d) :: ds, vs, h => by
    obtain ⟨v, r, e1, h1, h2⟩ := h
    simp only [okFs]
    exact ⟨Rep.okD d v h1, RepF.okD ds r h2⟩
end
mutual
theorem Rep.cut (n : Nat) : ∀ (d : D) (v : V), DL.okD n d → Rep K g d v → Rep K (g.cut n) d v
  | .non, _, _, h => h
  | .bl _, _, _, h => h
  | .int _, _, _, h => h
  | .str _, _, _, h => h
  | .ty _, _, _, h => h
  | .ref _, _, _, h => h
  | .scr _, _, _, h => h
  | .tup ds, v, o, h => by
    obtain ⟨a, vs, e1, h1, h2⟩ := h
    exact ⟨a, vs, e1, h1, RepL.cut n ds vs (by simpa only [DL.okD] using o) h2⟩
  | .lst ds, v, o, h => by
    obtain ⟨a, vs, e1, h1, h2⟩ := h
    exact ⟨a, vs, e1, h1, RepL.cut n ds vs (by simpa only [DL.okD] using o) h2⟩
  | .dic ds, v, o, h => by
    obtain ⟨a, vs, e1, h1, h2⟩ := h
    exact ⟨a, vs, e1, h1, RepK.cut n ds vs (by simpa only [DL.okD] using o) h2⟩
  | .obj C ds, v, o, h => by
    obtain ⟨a, dx, vs, e1, h1, h2⟩ := h
    exact ⟨a, dx, vs, e1, h1, RepF.cut n ds vs (by simpa only [DL.okD] using o) h2⟩
  | .cell i, v, o, h => by
    obtain ⟨a, e1, h1⟩ := h
    refine ⟨a, e1, ?_⟩
    show (g.as.take n)[i]? = some a
    rw [List.getElem?_take_of_lt (by simpa only [DL.okD] using o)]
    exact h1
theorem RepL.cut (n : Nat) : ∀ (ds : List D) (vs : List V), okDs n ds → RepL K g ds vs → RepL K (g.cut n) ds vs
  | [], _, _, h => h
  | d :: ds, vs, o, h => by
    obtain ⟨v, r, e1, h1, h2⟩ := h
    have o' : DL.okD n d ∧ okDs n ds := by simpa only [okDs] using o
    exact ⟨v, r, e1, Rep.cut n d v o'.1 h1, RepL.cut n ds r o'.2 h2⟩
theorem RepK.cut (n : Nat) : ∀ (ds : List (Key × D)) (vs : List (Key × V)), okKs n ds → RepK K g ds vs → RepK K (g.cut n) ds vs
  | [], _, _, h => h
  | (k, d) :: ds, vs, o, h => by
    obtain ⟨v, r, e1, h1, h2⟩ := h
    have o' : DL.okD n d ∧ okKs n ds := by simpa only [okKs] using o
    exact ⟨v, r, e1, Rep.cut n d v o'.1 h1, RepK.cut n ds r o'.2 h2⟩
theorem RepF.cut (n : Nat) : ∀ (ds : List (Str × D)) (vs : List (Str × V)), okFs n ds → RepF K g ds vs → RepF K (g.cut n) ds vs
  | [], _, _, h => h
  | (k, d) :: ds, vs, o, h => by
    obtain ⟨v, r, e1, h1, h2⟩ := h
    have o' : DL.okD n d ∧ okFs n ds := by simpa only [okFs] using o
    exact ⟨v, r, e1, Rep.cut n d v o'.1 h1, RepF.cut n ds r o'.2 h2⟩
end
theorem COk.okCO {a : Addr} {c : CO} (h : COk K g H a c) : DL.okCO g.as.length c := by
  cases c with
  | lst ds => obtain ⟨vs, h1, h2, h3⟩ := h; exact RepL.okD ds vs h2
  | ins C ds => obtain ⟨dx, vs, h1, h2, h3⟩ := h; exact RepF.okD ds vs h2
  | dic ds => obtain ⟨vs, h1, h2, h3⟩ := h; exact RepK.okD ds vs h2
  | dead => trivial
theorem COk.cut {a : Addr} {c : CO} {n : Nat} (o : DL.okCO n c) (h : COk K g H a c) : COk K (g.cut n) H a c := by
  cases c with
  | lst ds => obtain ⟨vs, h1, h2, h3⟩ := h; exact ⟨vs, h1, RepL.cut n ds vs o h2, h3⟩
  | ins C ds => obtain ⟨dx, vs, h1, h2, h3⟩ := h; exact ⟨dx, vs, h1, RepF.cut n ds vs o h2, h3⟩
  | dic ds => obtain ⟨vs, h1, h2, h3⟩ := h; exact ⟨vs, h1, RepK.cut n ds vs o h2, h3⟩
  | dead => trivial
theorem Sr.okS (s : Sr K g cs H) : DL.okS cs.length cs := fun c hc => by
  obtain ⟨i, hi, e⟩ := List.getElem_of_mem hc
  have e2 : cs[i]? = some c := by rw [List.getElem?_eq_getElem hi, e]
  have hl : i < g.as.length := by rw [s.len]; exact hi
  have := (s.ok i g.as[i] c (List.getElem?_eq_getElem hl) e2).okCO
  rwa [s.len] at this
theorem Sr.cut (s : Sr K g cs H) {n : Nat} (o : DL.okS n (cs.take n)) : Sr K (g.cut n) (cs.take n) H :=
  ⟨s.le, by show (g.as.take n).length = _; rw [List.length_take, List.length_take, s.len], s.nd.sublist (List.take_sublist _ _), fun a ha => s.th a (List.mem_of_mem_take ha), fun i a c h1 h2 => by
    have h1' : (g.as.take n)[i]? = some a := h1
    have hi : i < n := by
      have := (List.getElem?_eq_some_iff.mp h1').1
      rw [List.length_take] at this
      omega
    have hc : c ∈ cs.take n := List.mem_of_getElem? h2
    rw [List.getElem?_take_of_lt hi] at h1' h2
    exact (s.ok i a c h1' h2).cut (o c hc), fun p hp => ⟨(s.rs p hp).1, (s.rs p hp).2.1, fun z => (s.rs p hp).2.2 (List.mem_of_mem_take z)⟩, s.rn⟩
end
/-- as it is, or behind the def's own changing objects -/
def trimR (n : Nat) (R : PD) : PD := fun d cs' => R d cs' ∨ (okD n d ∧ okS n (cs'.take n) ∧ R d (cs'.take n))
theorem trim_up {K : PySem.W.Frag} {g : G} {cs : Sto} {H : Hp} {R : PD} {Q : VK} (s : Sr K g cs H) (hq : ∀ d cs', R d cs' → upV K g Q d cs') {d : D} {cs' : Sto} (h : trimR cs.length R d cs') : upV K g Q d cs' := by
  rcases h with h | ⟨h1, h2, h3⟩
  · exact hq d cs' h
  · intro g' H' v e s' r
    refine hq d _ h3 (g'.cut cs.length) H' v ⟨e.z, ⟨[], ?_⟩, e.r⟩ (s'.cut h2) (r.cut _ d v h1)
    obtain ⟨t, et⟩ := e.a
    show g'.as.take cs.length = g.as ++ []
    rw [et, ← s.len, List.take_left', List.append_nil]
    rfl
section
variable {P : Program} {w : World} {K : PySem.W.Frag} {mg : Str → Option Value} {base : Heap}
theorem dfunT {k : Nat} {f : Addr} {name qual : Str} {st : Stmt} {fd : FuncData} {N ps : List Str} {sp : FSpec} (F : Fun K name qual st f fd) (S : FnScope N ps (defScope st)) (len : ∀ i, (sp.args i).length = ps.length)
    (h : ∀ (cdv : Value) (A : Around) (outer : List PySem.Env) (s : Shared) (H : Hp) (E : XK), RoomG k (A.deeper (envOfC qual (defScope st) s.heap.objs.size f cdv)) → ∃ wS, DSs (cxOf CX0 P w K mg base N qual (defScope st) f cdv A outer s H E).nox (defBody st) wS ∧
      ∀ i cs, okS cs.length cs → sp.pre i cs → wS { nx := fun _ cs' => trimR cs.length (sp.res i cs) .non cs', rt := trimR cs.length (sp.res i cs) } (startE N.length (sp.args i)) cs) : FnG P w K mg base CX0 (k + 1) f fd ps (dSp K sp) := by
  refine fnG_of F S (fun vs H Q E ⟨g, cs, i, _, r, _⟩ => r.length.symm.trans (len i)) fun cdv A outer s H vs Q E hr ⟨g, cs, i, sr, r, hp, hq, _⟩ => ?_
  obtain ⟨wS, hd, hw⟩ := h cdv A outer s H E hr
  refine ⟨_, hd.pe.nox, g, cs, startE N.length (sp.args i), sr, Lr.start r, hd.mo { nx := fun _ cs' => trimR cs.length (sp.res i cs) .non cs', rt := trimR cs.length (sp.res i cs) } _ _ _ ⟨fun env cs' q g' H' σ e s' l => ?_, fun d cs' q => trim_up sr hq q, fun _ _ z => (show False from z).elim, fun _ _ z => (show False from z).elim⟩ (hw i cs sr.okS hp)⟩
  exact trim_up sr hq q g' H' .non e s' rfl
end
/-! ### what must hold of sizes -/
theorem cMul_l {i j : Int} (h1 : -18446744073709551616 < i) (h2 : i < 18446744073709551616) : cMul i j = True := eq_true (.inl (.inl ⟨by omega, by omega⟩))
theorem cMul_r {i j : Int} (h1 : -18446744073709551616 < j) (h2 : j < 18446744073709551616) : cMul i j = True := eq_true (.inl (.inr ⟨by omega, by omega⟩))
theorem CPow_lit {i j : Int} (h1 : 0 ≤ j) (h2 : j ≤ 1000000) (h3 : -18446744073709551616 < i) (h4 : i < 18446744073709551616) : CPow i j = True := eq_true ⟨h1, h2, by omega⟩
theorem CDivW_lit {i j : Int} (h1 : 0 < j) (h2 : j < 18446744073709551616) : CDivW i j = True := eq_true ⟨h1, by
  have : j.natAbs.log2 < 64 := by
    rw [Nat.log2_lt (by omega)]
    omega
  omega⟩
theorem toPyL_ints : ∀ ns : List Int, toPyL (ns.map .int) = some (ns.map PyData.int)
  | [] => rfl
  | n :: ns => by simp only [List.map_cons, toPyL, toPy, toPyL_ints ns]
theorem lay_ints : ∀ ns : List Int, PyData.canLayAll0 (ns.map PyData.int) = true
  | [] => rfl
  | n :: ns => by simp only [List.map_cons, PyData.canLayAll0, PyData.canLay0, lay_ints ns, Bool.and_self]
theorem dep_ints : ∀ ns : List Int, PyData.depthAll (ns.map PyData.int) = 0
  | [] => rfl
  | n :: ns => by simp only [List.map_cons, PyData.depthAll, PyData.depth, dep_ints ns, Nat.max_self]
theorem eqD_ints {cs : Sto} (ns : List Int) : eqD cs true (.lst (ns.map .int)) (.lst []) = some (True, .bl (!ns.isEmpty)) := by
  simp only [eqD, pyOf, toPy, toPyL_ints]
  have h1 : SeqAt.shaped (.list (ns.map PyData.int)) = true := by
    simp only [SeqAt.shaped, PyData.canLay0, lay_ints, PyData.depth, dep_ints]
    decide
  have h2 : SeqAt.shaped (.list []) = true := by decide
  simp only [toPyL, h1, h2, and_self, Option.some.injEq, Prod.mk.injEq, true_and, if_true, D.bl.injEq]
  cases ns <;> simp [PyData.eqv, PyData.eqvAll]
theorem atI_mod {ns : List Int} {k : Int} (h : ns.isEmpty = false) (h0 : 0 ≤ k) : ∃ x, atI (ns.map D.int) (k % (ns.length : Int)) = some (.int x) := by
  have hp : 0 < ns.length := by cases ns <;> simp_all
  have h1 := Int.emod_nonneg k (b := (ns.length : Int)) (by omega)
  have h2 := Int.emod_lt_of_pos k (b := (ns.length : Int)) (by omega)
  obtain ⟨m, hm⟩ := Int.eq_ofNat_of_zero_le h1
  rw [hm, atI_nat]
  have : m < ns.length := by omega
  exact ⟨ns[m], by rw [List.getElem?_map, List.getElem?_eq_getElem this]; rfl⟩
theorem len_pos {ns : List Int} (h : ns.isEmpty = false) : (0 : Int) < ns.length := by
  have hp : 0 < ns.length := by cases ns <;> simp_all
  omega
theorem pmulB {a b A B : Int} (h1 : 0 ≤ a) (h2 : a ≤ A) (h3 : 0 ≤ b) (h4 : b ≤ B) : 0 ≤ a * b ∧ a * b ≤ A * B :=
  ⟨Int.mul_nonneg h1 h3, Int.mul_le_mul h2 h4 h3 (Int.le_trans h1 h2)⟩
theorem mix1 {x k M c1 c2 e : Int} (hM : 0 < M) (hM2 : M ≤ 4294967296) (k0 : 0 ≤ k) (k1 : k ≤ 100001) (a0 : 0 ≤ c1) (a1 : c1 ≤ 1048576) (b0 : 0 ≤ c2) (b1 : c2 ≤ 1048576) (e0 : 0 ≤ e) (e1 : e ≤ 1000000) : CPow (x % M + c1 * k + c2) e := by
  have h1 := Int.emod_nonneg x (b := M) (by omega)
  have h2 := Int.emod_lt_of_pos x hM
  have h3 := pmulB a0 a1 k0 k1
  exact ⟨e0, e1, by omega⟩
theorem mix2 {m k c1 c2 c3 c4 e : Int} (m0 : 0 ≤ m) (m1 : m < 4294967296) (k0 : 0 ≤ k) (k1 : k ≤ 100001) (a0 : 0 ≤ c1) (a1 : c1 ≤ 64) (b0 : 0 ≤ c2) (b1 : c2 ≤ 1048576) (d0 : 0 ≤ c3) (d1 : c3 ≤ 1048576) (f0 : 0 ≤ c4) (f1 : c4 ≤ 1048576) (e0 : 0 ≤ e) (e1 : e ≤ 1000000) : CPow (m * (c1 * k + c2) + c3 * k * k + c4) e := by
  have h1 := pmulB a0 a1 k0 k1
  have h2 := pmulB (a := m) (b := c1 * k + c2) (A := 4294967296) (B := 64 * 100001 + 1048576) m0 (by omega) (by omega) (by omega)
  have h3 := pmulB d0 d1 k0 k1
  have h4 := pmulB h3.1 h3.2 k0 k1
  exact ⟨e0, e1, by omega⟩
theorem cMul_mod {z M j : Int} (hM : 0 < M) (hM2 : M ≤ 4294967296) : cMul (z % M) j := by
  have h1 := Int.emod_nonneg z (b := M) (by omega)
  have h2 := Int.emod_lt_of_pos z hM
  exact .inl (.inl ⟨by omega, by omega⟩)
theorem mix3 {z k M c1 c2 c3 c4 e : Int} (hM : 0 < M) (hM2 : M ≤ 4294967296) (k0 : 0 ≤ k) (k1 : k ≤ 100001) (a0 : 0 ≤ c1) (a1 : c1 ≤ 64) (b0 : 0 ≤ c2) (b1 : c2 ≤ 1048576) (d0 : 0 ≤ c3) (d1 : c3 ≤ 1048576) (f0 : 0 ≤ c4) (f1 : c4 ≤ 1048576) (e0 : 0 ≤ e) (e1 : e ≤ 1000000) : CPow (z % M * (c1 * k + c2) + c3 * k * k + c4) e :=
  mix2 (Int.emod_nonneg z (by omega)) (Int.lt_of_lt_of_le (Int.emod_lt_of_pos z hM) hM2) k0 k1 a0 a1 b0 b1 d0 d1 f0 f1 e0 e1
theorem rngD_len {lo : Int} {n : Nat} : (rngD lo n).length = n := by simp [rngD]
theorem rngD_get {lo : Int} {n i : Nat} {d : D} (h : (rngD lo n)[i]? = some d) : i < n ∧ d = .int (lo + i) := by
  have hi : i < n := by
    have := (List.getElem?_eq_some_iff.mp h).1
    rwa [rngD_len] at this
  refine ⟨hi, ?_⟩
  unfold rngD at h
  rw [List.getElem?_map, List.getElem?_range hi] at h
  cases h
  rfl
theorem rngD_z {lo : Int} : rngD lo 0 = [] := (rfl)
theorem rngD_s {lo : Int} {n : Nat} : rngD lo (n + 1) = .int lo :: rngD (lo + 1) n := by
  unfold rngD
  rw [List.range_succ_eq_map, List.map_cons, List.map_map]
  congr 1
  · simp
  · apply List.map_congr_left
    intro i _
    simp only [Function.comp_apply, D.int.injEq]
    omega
theorem trim_app {cs tail : Sto} {R : PD} {d : D} (hk : okS cs.length cs) (hd : okD cs.length d) (h : R d cs) : trimR cs.length R d (cs ++ tail) :=
  .inr ⟨hd, by rw [List.take_left' rfl]; exact hk, by rw [List.take_left' rfl]; exact h⟩
/-! ### tuples and lists of ints compared -/
theorem eqv_ints : ∀ xs ys : List Int, PyData.eqvAll (xs.map .int) (ys.map .int) = decide (xs = ys)
  | [], [] => rfl
  | [], y :: ys => by simp [PyData.eqvAll]
  | x :: xs, [] => by simp [PyData.eqvAll]
  | x :: xs, y :: ys => by
    simp only [List.map_cons, PyData.eqvAll, eqv_ints xs ys]
    rw [Bool.eq_iff_iff]
    simp [PyData.eqv]
theorem shaped_ints (ns : List Int) : SeqAt.shaped (.tuple (ns.map PyData.int)) = true ∧ SeqAt.shaped (.list (ns.map PyData.int)) = true := by
  simp only [SeqAt.shaped, PyData.canLay0, lay_ints, PyData.depth, dep_ints]
  decide
theorem eqD_tints {cs : Sto} (neg : Bool) (xs ys : List Int) : eqD cs neg (.tup (xs.map .int)) (.tup (ys.map .int)) = some (True, .bl (if neg = true then !decide (xs = ys) else decide (xs = ys))) := by
  simp only [eqD, pyOf, toPy, toPyL_ints, (shaped_ints _).1, and_self, PyData.eqv, eqv_ints]
theorem eqD_lints {cs : Sto} (neg : Bool) (xs ys : List Int) : eqD cs neg (.lst (xs.map .int)) (.lst (ys.map .int)) = some (True, .bl (if neg = true then !decide (xs = ys) else decide (xs = ys))) := by
  simp only [eqD, pyOf, toPy, toPyL_ints, (shaped_ints _).2, and_self, PyData.eqv, eqv_ints]
theorem eqD_t2 {cs : Sto} (neg : Bool) (a b c d : Int) : eqD cs neg (.tup [.int a, .int b]) (.tup [.int c, .int d]) = some (True, .bl (if neg = true then !decide (a = c ∧ b = d) else decide (a = c ∧ b = d))) := by
  have h := eqD_tints (cs := cs) neg [a, b] [c, d]
  simp only [List.cons.injEq, and_true] at h
  exact h
end DL

/-! DMore: methods of lists and ints, in, any and all over ints, module constants that are tuples. -/
namespace DL
open PySem PySem.Spec L2
section
variable {X : Cx} {a b c : Expr} {wa wb wc : WE} {pos : Pos}
/-! ### methods of built-in types -/
abbrev OM := D → List D → Sto → PD → Prop
def lowM (K : PySem.W.Frag) (o : OM) : V → List V → Hp → VK → Prop := fun x xs H Q => ∃ g cs d ds, Sr K g cs H ∧ Rep K g d x ∧ RepL K g ds xs ∧ o d ds cs (upV K g Q)
structure MtD (X : Cx) (id : String) (o : OM) : Prop where
  op : MtR X id (lowM X.K o)
  mo : ∀ d ds cs Q Q', (∀ d cs, Q d cs → Q' d cs) → o d ds cs Q → o d ds cs Q'
theorem MtD.mk' {id : String} {o : OM} (mo : ∀ d ds cs Q Q', (∀ d cs, Q d cs → Q' d cs) → o d ds cs Q → o d ds cs Q')
    (h : ∀ (pins : List (Addr × Obj)) (s : Shared) (σ : L2.St) (H : Hp) (x : V) (xs : List V) (v : Value) (us : List Value) (Q : VK) (g : G) (cs : Sto) (d : D) (ds : List D), Inv X pins σ H s → RelV x v → Vals xs us → Sr X.K g cs H → Rep X.K g d x → RepL X.K g ds xs → o d ds cs (upV X.K g Q) →
      wpAny (model X.prog X.w) X.A (call (.builtin id) (v :: us)) (EP X pins σ Q) X.xe s) : MtD X id o :=
  ⟨fun pins s σ H x xs v us Q I rx r ⟨g, cs, d, ds, sr, r1, r2, q⟩ => h pins s σ H x xs v us Q g cs d ds I rx r sr r1 r2 q, mo⟩
/-- what kind of receiver -/
def rcvT (cs : Sto) : D → Option String
  | .str _ => some "str"
  | .int _ => some "int"
  | .lst _ => some "list"
  | .dic _ => some "dict"
  | .cell i => match cs[i]? with
    | some (.lst _) => some "list"
    | some (.dic _) => some "dict"
    | _ => none
  | _ => none
theorem rcv_ty {K : PySem.W.Frag} {g : G} {cs : Sto} {H : Hp} (s : Sr K g cs H) {d : D} {v : V} {T : String} (e : rcvT cs d = some T) (r : Rep K g d v) : tyV K T v H := by
  cases d with
  | str x => cases r; cases e; rfl
  | int x => cases r; cases e; rfl
  | lst ds =>
    cases e
    obtain ⟨a, vs, e1, h1, h2⟩ := r
    subst e1
    exact .inl ⟨rfl, vs, .of (s.le _ _ h1)⟩
  | dic ds =>
    cases e
    obtain ⟨a, vs, e1, h1, h2⟩ := r
    subst e1
    exact .inr (.inr (.inl ⟨rfl, .inl ⟨vs, s.le _ _ h1⟩⟩))
  | cell i =>
    simp only [rcvT] at e
    obtain ⟨a, e1, h1⟩ := r
    subst e1
    split at e
    · rename_i ds hc
      cases e
      obtain ⟨vs, q1, q2, q3⟩ := s.ok i a _ h1 hc
      exact .inl ⟨rfl, vs, .of q1⟩
    · rename_i ds hc
      cases e
      obtain ⟨vs, q1, q2, q3⟩ := s.ok i a _ h1 hc
      exact .inr (.inr (.inl ⟨rfl, .inl ⟨vs, q1⟩⟩))
    · cases e
  | _ => cases e
def wMt (T : String) (o : OM) (wo : WE) (wa : WA) : WE := fun env cs Q => wo env cs fun d cs1 => rcvT cs1 d = some T ∧ wa env cs1 fun ds cs2 => o d ds cs2 Q
theorem wMt.mo {T : String} {o : OM} {wo : WE} {wa : WA} (mo : ∀ d ds cs Q Q', (∀ d cs, Q d cs → Q' d cs) → o d ds cs Q → o d ds cs Q') (ho : MonoE wo) (ha : MonoA wa) : MonoE (wMt T o wo wa) := fun env cs Q Q' hq q =>
  ho _ _ _ _ (fun d cs1 ⟨t, q⟩ => ⟨t, ha _ _ _ _ (fun ds cs2 q => mo _ _ _ _ _ hq q) q⟩) q
variable {o e : Expr} {es : List Expr} {wo : WE} {name : Str} {apos cpos : Pos} {T id : String}
theorem de_mt {f : OM} {w : WA} (hm : MtD X id f) (pa : PlainAttrs T) (slot : Slot T name id) (hty : typeOf (.builtin id) = pure (.type "method_descriptor")) (ho : DE X o wo) (ha : DA X (e :: es) w)
    (hbase : attributeBase o name X.env (eval o X.env) = eval o X.env := by rfl)
    (hfew : ((backTo cpos (starEach (e :: es) X.env)).all (fun x => !x.1) && (backToKw cpos (keywordEach [] X.env)).all (fun x => x.1.isSome)
      && decide ((e :: es).length + ([] : List Keyword).length + (if ([] : List Keyword).isEmpty then 0 else 1) < 30)) = true := by rfl)
    (hline : (apos.endLine == cpos.line) = true := by rfl) (hs : starEach (e :: es) X.env = (false, eval e X.env) :: starEach es X.env := by rfl) (hplain : (backTo cpos (starEach es X.env)).any (·.1) = false := by rfl) :
    DE X (.Call (.Attribute o name apos) (e :: es) [] cpos) (wMt T f wo w) :=
  ⟨PE.imp (pe_bm pa slot hty hm.op ho.pe ha.pe hbase hfew hline hs hplain) fun σ H Q ⟨g, cs, env, s, l, h⟩ => lowE.go ho.mo s l h fun d1 cs1 g1 H1 v1 ⟨t1, h1⟩ e1 s1 r1 => ⟨rcv_ty s1 t1 r1, lowA.go ha.mo s1 (l.mono e1) h1 fun ds cs2 g2 H2 vs h2 e2 s2 r2 => ⟨g2, cs2, d1, ds, s2, r1.mono e2, r2, hm.mo _ _ _ _ _ (fun _ _ q => upV.mono (e1.trans e2) q) h2⟩⟩, wMt.mo hm.mo ho.mo ha.mo⟩
theorem de_mt0 {f : OM} (hm : MtD X id f) (pa : PlainAttrs T) (slot : Slot T name id) (hty : typeOf (.builtin id) = pure (.type "method_descriptor")) (ho : DE X o wo)
    (hbase : attributeBase o name X.env (eval o X.env) = eval o X.env := by rfl) (hline : (apos.endLine == cpos.line) = true := by rfl) :
    DE X (.Call (.Attribute o name apos) [] [] cpos) (wMt T f wo wNil) :=
  ⟨PE.imp (pe_bm0 pa slot hty hm.op ho.pe hbase hline) fun σ H Q ⟨g, cs, env, s, l, h⟩ => lowE.go ho.mo s l h fun d1 cs1 g1 H1 v1 ⟨t1, h1⟩ e1 s1 r1 => ⟨rcv_ty s1 t1 r1, g1, cs1, d1, [], s1, r1, rfl, hm.mo _ _ _ _ _ (fun _ _ q => upV.mono e1 q) h1⟩, wMt.mo hm.mo ho.mo (fun _ cs _ _ h q => h _ _ q)⟩
/-- l.append(y) -/
def appS (cs : Sto) (d : D) (ds : List D) : Option (Prop × Sto) := match d, ds with
  | .cell n, [y] => (lstAt cs n).map fun xs => (xs.length < sizeLine, cs.set n (.lst (xs ++ [y])))
  | _, _ => none
theorem lstAt_some {cs : Sto} {n : Nat} {xs : List D} (h : lstAt cs n = some xs) : cs[n]? = some (.lst xs) := by
  unfold lstAt at h
  split at h
  · rename_i ds e
    cases h
    exact e
  · cases h
def oApp : OM := fun d ds cs Q => bindP (appS cs d ds) fun p => p.1 ∧ Q .non p.2
theorem bindP_mo {α : Type} {o : Option α} {k k' : α → Prop} {z : Lz k} {z' : Lz k'} (h : ∀ a, k a → k' a) (q : bindP o k z) : bindP o k' z' := by
  cases o with
  | none => exact q.elim
  | some a => exact h a q
theorem md_append : MtD X "list.append" oApp := .mk' (fun d ds cs Q Q' h q => bindP_mo (fun p q => ⟨q.1, h _ _ q.2⟩) q) fun pins s σ H x xs v us Q g cs d ds I rx r sr r1 r2 q => by
  unfold oApp at q
  cases ea : appS cs d ds with
  | none => rw [ea] at q; exact q.elim
  | some p =>
    rw [ea] at q
    obtain ⟨hz, q⟩ := q
    unfold appS at ea
    split at ea
    · rename_i n y
      cases el : lstAt cs n with
      | none => rw [el] at ea; cases ea
      | some ys =>
        rw [el] at ea
        cases ea
        obtain ⟨a, e1, h1⟩ := r1
        subst e1
        obtain ⟨vs, q1, q2, q3⟩ := sr.ok n a _ h1 (lstAt_some el)
        obtain ⟨u, ur, e2, h2, h3⟩ := r2
        have h3' : ur = [] := h3
        subst e2 h3'
        exact mt_append pins s σ H _ _ v us Q I rx r ⟨a, vs, u, rfl, rfl, q1, by rw [← q2.length]; exact hz, q g _ _ (Ext.refl g) (sr.put h1 (lstAt_some el) (by simp) ⟨_, upd_same, q2.append (.cons h2 .nil), q3⟩) rfl⟩
    · cases ea
theorem de_append {w : WA} (ho : DE X o wo) (ha : DA X [e] w)
    (hbase : attributeBase o "append" X.env (eval o X.env) = eval o X.env := by rfl)
    (hfew : ((backTo cpos (starEach [e] X.env)).all (fun x => !x.1) && (backToKw cpos (keywordEach [] X.env)).all (fun x => x.1.isSome)
      && decide (([e] : List Expr).length + ([] : List Keyword).length + (if ([] : List Keyword).isEmpty then 0 else 1) < 30)) = true := by rfl)
    (hline : (apos.endLine == cpos.line) = true := by rfl) (hs : starEach [e] X.env = (false, eval e X.env) :: starEach [] X.env := by rfl) (hplain : (backTo cpos (starEach [] X.env)).any (·.1) = false := by rfl) :
    DE X (.Call (.Attribute o "append" apos) [e] [] cpos) (wMt "list" oApp wo w) :=
  de_mt md_append PySem.F.plainAttrs_list PySem.F.slot_list_append PySem.F.type_list_append ho ha hbase hfew hline hs hplain
/-- l.pop(): the last one -/
def popS (cs : Sto) (d : D) (ds : List D) : Option (D × Sto) := match d, ds with
  | .cell n, [] => (lstAt cs n).bind fun xs => (xs[xs.length - 1]?).map fun y => (y, cs.set n (.lst xs.dropLast))
  | _, _ => none
def oPop : OM := fun d ds cs Q => bindP (popS cs d ds) fun p => Q p.1 p.2
theorem RepL.dropLast {K : PySem.W.Frag} {g : G} {ds : List D} {vs : List V} (r : RepL K g ds vs) : RepL K g ds.dropLast vs.dropLast := by
  rw [List.dropLast_eq_take, List.dropLast_eq_take, r.length]
  exact r.take _
theorem md_pop : MtD X "list.pop" oPop := .mk' (fun d ds cs Q Q' h q => bindP_mo (fun p q => h _ _ q) q) fun pins s σ H x xs v us Q g cs d ds I rx r sr r1 r2 q => by
  unfold oPop at q
  cases ea : popS cs d ds with
  | none => rw [ea] at q; exact q.elim
  | some p =>
    rw [ea] at q
    unfold popS at ea
    split at ea
    · rename_i n
      cases el : lstAt cs n with
      | none => rw [el] at ea; cases ea
      | some ys =>
        rw [el] at ea
        obtain ⟨y, hy, ep⟩ := Option.map_eq_some_iff.mp ea
        subst ep
        obtain ⟨a, e1, h1⟩ := r1
        subst e1
        obtain ⟨vs, q1, q2, q3⟩ := sr.ok n a _ h1 (lstAt_some el)
        have h3' : xs = [] := r2
        subst h3'
        obtain ⟨u, hu, ru⟩ := q2.get hy
        exact mt_pop pins s σ H _ _ v us Q I rx r ⟨a, vs, u, rfl, rfl, q1, by rw [← q2.length]; exact hu, q g _ _ (Ext.refl g) (sr.put h1 (lstAt_some el) (by simp) ⟨_, upd_same, q2.dropLast, q3⟩) ru⟩
    · cases ea
/-- i.bit_length() -/
def wBits (w : WE) : WE := fun env cs Q => w env cs fun d cs' => bindP (intD d) fun i => Q (.int (Builtin.Int.intBits i : Nat)) cs'
theorem de_bits {w : WE} (ho : DE X o w) (hbase : attributeBase o "bit_length" X.env (eval o X.env) = eval o X.env := by rfl) (hline : (apos.endLine == pos.line) = true := by rfl) : DE X (.Call (.Attribute o "bit_length" apos) [] [] pos) (wBits w) :=
  ⟨PE.imp (pe_bits ho.pe hbase hline) fun σ H Q ⟨g, cs, env, s, l, h⟩ => lowE.go ho.mo s l h fun d1 cs1 g1 H1 v1 h1 e1 s1 r1 => by
    cases d1 with
    | int i => cases r1; exact ⟨i, rfl, h1 g1 H1 _ e1 s1 rfl⟩
    | _ => exact h1.elim, fun env cs Q Q' h q => ho.mo env cs _ _ (fun d cs1 q => bindP_mo (fun i q => h _ _ q) q) q⟩
/-! ### x in xs -/
def inD (cs : Sto) (neg : Bool) (d1 d2 : D) : Option (Prop × D) := match pyOf cs d1 with
  | some p => match seqOf cs d2 with
    | some ds => match toPyL ds with
      | some qs => some (SeqAt.shaped p = true ∧ SeqAt.shaped (.list qs) = true, .bl (if neg = true then !(qs.any fun z => PyData.eqv z p) else qs.any fun z => PyData.eqv z p))
      | none => none
    | none => none
  | none => none
def oIn (neg : Bool) : O2 := fun d1 d2 cs Q => bindP (inD cs neg d1 d2) fun p => p.1 ∧ Q p.2 cs
theorem dp_sq {K : PySem.W.Frag} {g : G} {cs : Sto} {H : Hp} (s : Sr K g cs H) {d : D} {v : V} {ds : List D} {qs : List PyData} (e : seqOf cs d = some ds) (e2 : toPyL ds = some qs) (r : Rep K g d v) : Dp K H v (.list qs) ∨ Dp K H v (.tuple qs) := by
  obtain ⟨a, vs, e1, h1, h2⟩ := seq_of s e r
  subst e1
  rcases h1 with h1 | h1
  · exact .inl (.lst h1 (dp_toPyL s ds vs qs e2 h2))
  · exact .inr (.tup h1 (dp_toPyL s ds vs qs e2 h2))
theorem opd_inB (neg : Bool) (hu : X.A.units + 65 < cLine) {pins : List (Addr × Obj)} {s : Shared} {σ : L2.St} {H : Hp} {x y : V} {v u : Value} {Q : VK} {g : G} {cs : Sto} {d1 d2 : D} (I : Inv X pins σ H s) (rx : RelV x v) (ry : RelV y u) (sr : Sr X.K g cs H) (r1 : Rep X.K g d1 x) (r2 : Rep X.K g d2 y) (q : oIn neg d1 d2 cs (upV X.K g Q)) :
    wpAny (model X.prog X.w) X.A (compareOp (if neg = true then .NotIn else .In) v u) (EP X pins σ Q) X.xe s := by
  unfold oIn inD at q
  cases e1 : pyOf cs d1 with
  | none => rw [e1] at q; exact q.elim
  | some p =>
    cases e2 : seqOf cs d2 with
    | none => rw [e1, e2] at q; exact q.elim
    | some ds =>
      cases e3 : toPyL ds with
      | none => simp only [e1, e2, e3, bindP_none] at q
      | some qs =>
        simp only [e1, e2, e3, bindP_some] at q
        obtain ⟨as, ra⟩ := Dp.reads I p x v (dp_pyOf sr e1 r1) rx
        have fin := q.2 g H _ (Ext.refl g) sr rfl
        rcases dp_sq sr e2 e3 r2 with h | h
        · obtain ⟨bs, rb⟩ := Dp.reads I (.list qs) y u h ry
          cases neg with
          | false => exact SeqAt.in_list_reads rb ra (SeqAt.canLay_of_shaped q.1.2) (SeqAt.canLay_of_shaped q.1.1) (PyProof.Rows.room_in_shaped q.1.1 hu) ⟨.bl _, H, I, rfl, fin⟩
          | true => exact SeqAt.notIn_list_reads rb ra (SeqAt.canLay_of_shaped q.1.2) (SeqAt.canLay_of_shaped q.1.1) (PyProof.Rows.room_in_shaped q.1.1 hu) ⟨.bl _, H, I, rfl, fin⟩
        · obtain ⟨bs, rb⟩ := Dp.reads I (.tuple qs) y u h ry
          cases neg with
          | false => exact SeqAt.in_tuple_reads rb ra (SeqAt.canLay_of_shaped q.1.2) (SeqAt.canLay_of_shaped q.1.1) (PyProof.Rows.room_in_shaped q.1.1 hu) ⟨.bl _, H, I, rfl, fin⟩
          | true => exact SeqAt.notIn_tuple_reads rb ra (SeqAt.canLay_of_shaped q.1.2) (SeqAt.canLay_of_shaped q.1.1) (PyProof.Rows.room_in_shaped q.1.1 hu) ⟨.bl _, H, I, rfl, fin⟩
theorem opd_in (hu : X.A.units + 65 < cLine) : OpD X (compareOp .In) (oIn false) := .mk' (fun d1 d2 cs Q Q' h q => bindP_mo (fun p q => ⟨q.1, h _ _ q.2⟩) q) fun pins s σ H x y v u Q g cs d1 d2 I rx ry sr r1 r2 q => opd_inB false hu I rx ry sr r1 r2 q
theorem opd_notin (hu : X.A.units + 65 < cLine) : OpD X (compareOp .NotIn) (oIn true) := .mk' (fun d1 d2 cs Q Q' h q => bindP_mo (fun p q => ⟨q.1, h _ _ q.2⟩) q) fun pins s σ H x y v u Q g cs d1 d2 I rx ry sr r1 r2 q => opd_inB true hu I rx ry sr r1 r2 q
theorem any_ints (i : Int) : ∀ ns : List Int, ((ns.map PyData.int).any fun z => PyData.eqv z (.int i)) = decide (i ∈ ns)
  | [] => rfl
  | n :: ns => by
    simp only [List.map_cons, List.any_cons, any_ints i ns]
    rw [Bool.eq_iff_iff]
    simp only [PyData.eqv, Bool.or_eq_true, decide_eq_true_eq, beq_iff_eq, List.mem_cons]
    exact or_congr ⟨Eq.symm, Eq.symm⟩ Iff.rfl
theorem inD_ints {cs : Sto} (neg : Bool) (i : Int) (ns : List Int) : inD cs neg (.int i) (.lst (ns.map .int)) = some (True, .bl (if neg = true then !decide (i ∈ ns) else decide (i ∈ ns))) := by
  simp only [inD, pyOf, toPy, seqOf, lstOf, toPyL_ints, (shaped_ints ns).2, any_ints]
  simp [SeqAt.shaped, PyData.canLay0, PyData.depth]
theorem inD_tints {cs : Sto} (neg : Bool) (i : Int) (ns : List Int) : inD cs neg (.int i) (.tup (ns.map .int)) = some (True, .bl (if neg = true then !decide (i ∈ ns) else decide (i ∈ ns))) := by
  simp only [inD, pyOf, toPy, seqOf, lstOf, toPyL_ints, (shaped_ints ns).2, any_ints]
  simp [SeqAt.shaped, PyData.canLay0, PyData.depth]
/-! ### any, all over ints -/
def anyI (cs : Sto) (d : D) : Option (List Int) := match seqOf cs d with
  | some ds => nums ds
  | none => none
def oAnyI : O1 := fun d cs Q => bindP (anyI cs d) fun ns => Q (.bl (ns.any (· != 0))) cs
theorem nums_some : ∀ {ds : List D} {ns : List Int}, nums ds = some ns → ds = ns.map .int
  | [], ns, h => by cases h; rfl
  | d :: ds, ns, h => by
    cases d with
    | int i =>
      simp only [nums] at h
      cases e : nums ds with
      | none => rw [e] at h; cases h
      | some ms =>
        rw [e] at h
        cases h
        rw [List.map_cons, ← nums_some e]
    | _ => cases h
theorem any_truthy : ∀ ns : List Int, (ns.map PyData.int).any PyData.truthy = ns.any (· != 0)
  | [] => rfl
  | n :: ns => by
    rw [List.map_cons, List.any_cons, List.any_cons, any_truthy ns]
    rfl
theorem plain_ints : ∀ ns : List Int, PyData.plainAll (ns.map .int) = true
  | [] => rfl
  | n :: ns => by
    rw [List.map_cons, PyData.plainAll, plain_ints ns]
    rfl
theorem reads_ints {h : Heap} : ∀ {ns : List Int} {us : List Value}, Vals (ns.map V.int) us → ∃ as, ReadsAll h us (ns.map .int) as
  | [], _, .nil => ⟨_, ReadsAll.nil⟩
  | n :: ns, _, .cons r t => by
    obtain ⟨tk, rfl⟩ := r
    obtain ⟨as, q⟩ := reads_ints (h := h) t
    exact ⟨_, ReadsAll.cons (Reads.int n tk) q⟩
theorem cd_anyI (hc : X.calm = true) : CallD X (.builtin "any") (o1 oAnyI) := cd1 (fun d cs Q Q' h q => bindP_mo (fun ns q => h _ _ q) q) fun pins s σ H x u Q g cs d I ru rv sr r q => by
  unfold oAnyI anyI at q
  cases e : seqOf cs d with
  | none => rw [e] at q; exact q.elim
  | some ds =>
    cases e2 : nums ds with
    | none => simp only [e, e2, bindP_none] at q
    | some ns =>
      simp only [e, e2, bindP_some] at q
      obtain ⟨p, vs, e1, h1, h2⟩ := seq_of sr e r
      subst e1
      have ev : vs = ns.map V.int := RepL.ints (by rw [← nums_some e2]; exact h2)
      subst ev
      rw [Vals.ref1 rv]
      have fin : ∀ h' tk, (∀ b o, s.heap.get? b = some o → h'.get? b = some o) → EP X pins σ Q (.bool ((ns.map PyData.int).any PyData.truthy)) { s with heap := h', toks := tk } := fun h' tk hk => by
        rw [any_truthy]
        exact ⟨.bl _, H, I.kept hk, rfl, q g H _ (Ext.refl g) sr rfl⟩
      rcases h1 with h1 | h1
      · obtain ⟨its, r', pl, hz⟩ := I.list h1
        obtain ⟨as, ra⟩ := reads_ints (h := s.heap) r'
        exact PySem.W.any_list_data (I.ok.hd hc) pl.isList (by simpa using ra) (plain_ints ns) (fun x hx => by obtain ⟨i, _, rfl⟩ := List.mem_map.mp hx; trivial) fin
      · obtain ⟨its, r', pl, hz⟩ := I.tuple h1
        obtain ⟨as, ra⟩ := reads_ints (h := s.heap) r'
        exact PySem.W.any_tuple_data (I.ok.hd hc) pl (by simpa using ra) (plain_ints ns) (fun x hx => by obtain ⟨i, _, rfl⟩ := List.mem_map.mp hx; trivial) fin
end
/-- a module's tuple of ints -/
theorem kon_tup {K : PySem.W.Frag} {h : Heap} {mg : Str → Option Value} (X : K.In h) (G : h.Ns mainGlobals mg) {x : Str} {a : Addr} (q : PySem.W.nsIn K mainGlobals x = some (some (.ref a))) {od : Option Addr} {its : Array Value} {n : Nat} {sl : Array (Option Value)} (l : K.lookup a = some ⟨.type "tuple", od, .seq its n, sl⟩) (ns : List Int) (hv : Vals (ns.map V.int) its.toList) (hz : its.size ≤ sizeLine) : KonD K mg x (.tup (ns.map .int)) :=
  ⟨_, .ref a, PySem.W.mg_of X G q, rfl, fun _ => ⟨a, ns.map V.int, rfl, .inr ⟨_, its, n, l, rfl, rfl, hz, hv⟩, RepL.of_ints ns⟩⟩
section
variable {env : En} {cs : Sto} {Q : PD} {E : DN}
theorem wMt_eq (T : String) (o : OM) (wo : WE) (wa : WA) : wMt T o wo wa env cs Q = wo env cs fun d cs1 => rcvT cs1 d = some T ∧ wa env cs1 fun ds cs2 => o d ds cs2 Q := (rfl)
theorem oApp_eq (d : D) (ds : List D) : oApp d ds cs Q = bindP (appS cs d ds) fun p => p.1 ∧ Q .non p.2 := (rfl)
theorem oPop_eq (d : D) (ds : List D) : oPop d ds cs Q = bindP (popS cs d ds) fun p => Q p.1 p.2 := (rfl)
theorem wBits_eq (w : WE) : wBits w env cs Q = w env cs fun d cs' => bindP (intD d) fun i => Q (.int (Builtin.Int.intBits i : Nat)) cs' := (rfl)
theorem oIn_eq (neg : Bool) (d1 d2 : D) : oIn neg d1 d2 cs Q = bindP (inD cs neg d1 d2) fun p => p.1 ∧ Q p.2 cs := (rfl)
theorem oAnyI_eq (d : D) : oAnyI d cs Q = bindP (anyI cs d) fun ns => Q (.bl (ns.any (· != 0))) cs := (rfl)
theorem appS_cell (n : Nat) (y : D) : appS cs (.cell n) [y] = (lstAt cs n).map fun xs => (xs.length < sizeLine, cs.set n (.lst (xs ++ [y]))) := (rfl)
theorem popS_cell (n : Nat) : popS cs (.cell n) [] = (lstAt cs n).bind fun xs => (xs[xs.length - 1]?).map fun y => (y, cs.set n (.lst xs.dropLast)) := (rfl)
theorem rcvT_cell {n : Nat} {xs : List D} (h : lstAt cs n = some xs) : rcvT cs (.cell n) = some "list" := by simp only [rcvT, lstAt_some h]
theorem rcvT_str (x : Str) : rcvT cs (.str x) = some "str" := (rfl)
theorem rcvT_lst (x : List D) : rcvT cs (.lst x) = some "list" := (rfl)
end
theorem room65 {k : Nat} {A : Around} (r : Room k A) : A.units + 65 < cLine := by
  have := r.un
  omega
theorem rcv_list {cs : Sto} {n : Nat} : (rcvT cs (.cell n) = some "list") = ((lstAt cs n).isSome = true) := by
  unfold rcvT lstAt
  cases e : cs[n]? with
  | none => simp [e]
  | some c => cases c <;> simp [e]
theorem rcv_lst {cs : Sto} {x : List D} : (rcvT cs (.lst x) = some "list") = True := eq_true rfl
theorem szS_lt {n : Nat} (h : n < 4096) : (n < sizeLine) = True := eq_true (Nat.lt_trans h (by rw [sizeLine_eq]; decide))
/-- while, by a measure that falls -/
theorem wloop_inv {t : WT} {wb : WS} {E : DN} (I : Nat → En → Sto → Prop)
    (hs : ∀ k env cs, I k env cs → ∀ E' : DN, (∀ k' env' cs', k' < k → I k' env' cs' → E'.nx env' cs') → (∀ k' env' cs', k' < k → I k' env' cs' → E'.ct env' cs') → (∀ d cs, E.rt d cs → E'.rt d cs) → (∀ env cs, E.nx env cs → E'.bk env cs) → t env cs fun b cs1 => if b = true then wb E' env cs1 else E.nx env cs1) :
    ∀ (n k : Nat) (env : En) (cs : Sto), k < n → I k env cs → wloop t wb E n env cs
  | 0, k, env, cs, h, _ => absurd h (Nat.not_lt_zero k)
  | n + 1, k, env, cs, h, hi => hs k env cs hi { E with nx := wloop t wb E n, ct := wloop t wb E n, bk := E.nx } (fun k' env' cs' hk hi' => wloop_inv I hs n k' env' cs' (by omega) hi') (fun k' env' cs' hk hi' => wloop_inv I hs n k' env' cs' (by omega) hi') (fun _ _ q => q) (fun _ _ q => q)
theorem while_inv {t : WT} {wb : WS} {E : DN} (I : Nat → En → Sto → Prop) {k : Nat} {env : En} {cs : Sto} {z : Lz (t, wb, E, env)} (h : I k env cs)
    (hs : ∀ k env cs, I k env cs → ∀ E' : DN, (∀ k' env' cs', k' < k → I k' env' cs' → E'.nx env' cs') → (∀ k' env' cs', k' < k → I k' env' cs' → E'.ct env' cs') → (∀ d cs, E.rt d cs → E'.rt d cs) → (∀ env cs, E.nx env cs → E'.bk env cs) → t env cs fun b cs1 => cond2 b (wb E' env cs1) (E.nx env cs1)) : whileP t wb E env cs z :=
  ⟨k + 1, wloop_inv I (fun k env cs hi E' h1 h2 h3 h4 => hs k env cs hi E' h1 h2 h3 h4) (k + 1) k env cs (Nat.lt_succ_self k) h⟩
end DL

/-! DComp: comprehensions with two fors, over data. -/
namespace DL
open PySem PySem.Spec L2
open PyProof.Rows (envOfC)

def lc2in (p1 : Pat) (tt1 : WT) (we : WE) (env2 : En) (W1 : Sto → Prop) (k : List D → Sto → Prop) : List D → List D → Sto → Prop
  | [], acc, cs => W1 cs ∧ k acc cs
  | d :: ds, acc, cs => W1 cs ∧ match patSet cs p1 d env2 with
    | some env' => tt1 env' cs fun b cs2 => if b = true then we env' cs2 fun y cs3 => acc.length < sizeLine ∧ lc2in p1 tt1 we env2 W1 k ds (acc ++ [y]) cs3 else lc2in p1 tt1 we env2 W1 k ds acc cs2
    | none => False
theorem lc2in.mo {p1 : Pat} {tt1 : WT} {we : WE} {env2 : En} {W1 : Sto → Prop} {k k' : List D → Sto → Prop} (mt : MonoT tt1) (me : MonoE we) (h : ∀ acc cs, k acc cs → k' acc cs) : ∀ (ds acc : List D) (cs : Sto), lc2in p1 tt1 we env2 W1 k ds acc cs → lc2in p1 tt1 we env2 W1 k' ds acc cs
  | [], acc, cs, q => ⟨q.1, h _ _ q.2⟩
  | d :: ds, acc, cs, q => by
    unfold lc2in at q ⊢
    obtain ⟨q0, q⟩ := q
    refine ⟨q0, ?_⟩
    split at q
    · exact mt _ _ _ _ (fun b cs2 q => ite_mono (fun q => me _ _ _ _ (fun y cs3 q => ⟨q.1, lc2in.mo mt me h ds _ cs3 q.2⟩) q) (fun q => lc2in.mo mt me h ds _ cs2 q) q) q
    · exact q
def lc2out (p : Pat) (tt : WT) (wi1 : WI) (p1 : Pat) (tt1 : WT) (we : WE) (vs1 : List Nat) (env : En) (W : Sto → Prop) (Q : PD) : List D → List D → Sto → Prop
  | [], acc, cs => W cs ∧ Q (.lst acc) cs
  | d :: ds, acc, cs => W cs ∧ match patSet cs p d env with
    | some env' => tt env' cs fun b cs2 => if b = true then wi1 env' cs2 fun ds1 W1 cs3 => lc2in p1 tt1 we (wipeE env' vs1) W1 (fun acc cs => lc2out p tt wi1 p1 tt1 we vs1 env W Q ds acc cs) ds1 acc cs3 else lc2out p tt wi1 p1 tt1 we vs1 env W Q ds acc cs2
    | none => False
theorem lc2out.mo {p : Pat} {tt : WT} {wi1 : WI} {p1 : Pat} {tt1 : WT} {we : WE} {vs1 : List Nat} {env : En} {W : Sto → Prop} {Q Q' : PD} (mt : MonoT tt) (mi1 : MonoI wi1) (mt1 : MonoT tt1) (me : MonoE we) (h : ∀ d cs, Q d cs → Q' d cs) : ∀ (ds acc : List D) (cs : Sto), lc2out p tt wi1 p1 tt1 we vs1 env W Q ds acc cs → lc2out p tt wi1 p1 tt1 we vs1 env W Q' ds acc cs
  | [], acc, cs, q => ⟨q.1, h _ _ q.2⟩
  | d :: ds, acc, cs, q => by
    unfold lc2out at q ⊢
    obtain ⟨q0, q⟩ := q
    refine ⟨q0, ?_⟩
    split at q
    · exact mt _ _ _ _ (fun b cs2 q => ite_mono (fun q => mi1 _ _ _ _ (fun ds1 W1 cs3 q => lc2in.mo mt1 me (fun acc cs q => lc2out.mo mt mi1 mt1 me h ds acc cs q) ds1 acc cs3 q) q) (fun q => lc2out.mo mt mi1 mt1 me h ds _ cs2 q) q) q
    · exact q
def wLc2 (wi : WI) (p : Pat) (tt : WT) (wi1 : WI) (p1 : Pat) (tt1 : WT) (we : WE) (vs vs1 : List Nat) : WE := fun env cs Q => wi env cs fun ds W cs1 => lc2out p tt wi1 p1 tt1 we vs1 (wipeE env vs) W Q ds [] cs1
theorem wLc2.mo {wi : WI} {p : Pat} {tt : WT} {wi1 : WI} {p1 : Pat} {tt1 : WT} {we : WE} {vs vs1 : List Nat} (mi : MonoI wi) (mt : MonoT tt) (mi1 : MonoI wi1) (mt1 : MonoT tt1) (me : MonoE we) : MonoE (wLc2 wi p tt wi1 p1 tt1 we vs vs1) := fun env cs Q Q' h q =>
  mi env cs _ _ (fun ds W cs1 q => lc2out.mo mt mi1 mt1 me h ds [] cs1 q) q
theorem low_lc2 {K : PySem.W.Frag} {wi : WI} {p : Pat} {tt : WT} {wi1 : WI} {p1 : Pat} {tt1 : WT} {we : WE} {vs vs1 : List Nat} (mi : MonoI wi) (mt : MonoT tt) (mi1 : MonoI wi1) (mt1 : MonoT tt1) (me : MonoE we) (hsl : ∀ i ∈ slots p, i ∈ vs) (hsl1 : ∀ i ∈ slots p1, i ∈ vs1) {σ : L2.St} {H : Hp} {Q : VK}
    (h : lowE K (wLc2 wi p tt wi1 p1 tt1 we vs vs1) σ H Q) : tLc2 (lowI K wi) (gOf K p) (lowT K tt) (lowI K wi1) (gOf K p1) (lowT K tt1) (lowE K we) vs vs1 σ H Q := by
  obtain ⟨g, cs, env, s, l, h⟩ := h
  refine lowI.go mi s l h fun ds W cs1 g1 H1 J h1 e1 s1 hJ => ?_
  intro Dd hD
  have sub_trans : ∀ {a b c : G}, Sub a b → Sub b c → Sub a c := fun {a b c} x y => ⟨fun u o h => y.z u o (x.z u o h), by
    obtain ⟨t, q⟩ := x.a
    obtain ⟨t3, q3⟩ := y.a
    exact ⟨t ++ t3, by rw [q3, q]; simp⟩⟩
  refine ⟨fun i m H => m = ds.length - i ∧ i ≤ ds.length ∧ ∃ g2 cs2 acc vacc, Sub g1 g2 ∧ g2.rs = (Dd, .lst vacc) :: g1.rs ∧ Sr K g2 cs2 H ∧ RepL K g2 acc vacc ∧ lc2out p tt wi1 p1 tt1 we vs1 (wipeE env vs) W (upV K g Q) (ds.drop i) acc cs2,
    ⟨ds.length, by simp, Nat.zero_le _, g1.hold Dd (.lst []), cs1, [], [], ⟨fun _ _ h => h, ⟨[], by simp [G.hold]⟩⟩, rfl, s1.hold hD _, rfl, by simpa using h1⟩, ?_⟩
  rintro i m H2 ⟨rfl, hi', g2, cs2, acc, vacc, sb, er, s2, ra, hf⟩
  by_cases hlt : i < ds.length
  · rw [List.drop_eq_getElem_cons hlt] at hf
    unfold lc2out at hf
    obtain ⟨hw, hf⟩ := hf
    obtain ⟨stop, go⟩ := hJ g2 cs2 H2 sb s2 hw
    obtain ⟨hgo, hy⟩ := go i ds[i] (by simp [hlt])
    refine .inr ⟨hgo, fun H' => ∃ g3 cs3 acc3 vacc3, Sub g1 g3 ∧ g3.rs = (Dd, .lst vacc3) :: g1.rs ∧ Sr K g3 cs3 H' ∧ RepL K g3 acc3 vacc3 ∧ lc2out p tt wi1 p1 tt1 we vs1 (wipeE env vs) W (upV K g Q) (ds.drop (i + 1)) acc3 cs3,
      fun H' ⟨g3, cs3, acc3, vacc3, q⟩ => ⟨ds.length - (i + 1), by omega, rfl, hlt, g3, cs3, acc3, vacc3, q⟩, fun x H' y => ?_⟩
    obtain ⟨g3, e3, s3, r3⟩ := hy x H' y
    split at hf
    · rename_i env' hp'
      have lw : Lr K g3 (wipeE env vs) (wipe σ vs) := ⟨((l.mono e1).wiped vs).len, fun i d h => by
        obtain ⟨v, q1, q2⟩ := ((l.mono e1).wiped vs).ok i d h
        exact ⟨v, q1, Rep.sub e3.sub _ _ (Rep.sub sb _ _ q2)⟩⟩
      refine gOf_ok s3 p _ x (wipeE env vs) env' (wipe σ vs) _ r3 lw hp' fun σ' l' hwp => ⟨(hwp vs hsl).trans (wipe_wipe σ (fun i h => h)), ?_⟩
      refine lowT.go mt s3 l' hf fun b cs4 g4 H4 h4 e4 s4 => ?_
      have sb4 : Sub g1 g4 := sub_trans (sub_trans sb e3.sub) e4.sub
      have er4 : g4.rs = (Dd, .lst vacc) :: g1.rs := by rw [e4.r, e3.r, er]
      refine ite_mono (fun h4 => ?_) (fun h4 => ?_) h4
      · refine lowI.go mi1 s4 (l'.mono e4) h4 fun ds1 W1 cs5 g5 H5 J1 h5 e5 s5 hJ1 => ?_
        have sb5 : Sub g1 g5 := sub_trans sb4 e5.sub
        have er5 : g5.rs = (Dd, .lst vacc) :: g1.rs := by rw [e5.r, er4]
        refine ⟨fun j k H => k = ds1.length - j ∧ j ≤ ds1.length ∧ ∃ g6 cs6 acc6 vacc6, Sub g5 g6 ∧ g6.rs = (Dd, .lst vacc6) :: g1.rs ∧ Sr K g6 cs6 H ∧ RepL K g6 acc6 vacc6 ∧ lc2in p1 tt1 we (wipeE env' vs1) W1 (fun acc cs => lc2out p tt wi1 p1 tt1 we vs1 (wipeE env vs) W (upV K g Q) (ds.drop (i + 1)) acc cs) (ds1.drop j) acc6 cs6,
          ⟨ds1.length, by simp, Nat.zero_le _, g5, cs5, acc, vacc, ⟨fun _ _ h => h, ⟨[], by simp⟩⟩, er5, s5, ((ra.mono e3).mono e4).mono e5, by simpa using h5⟩, ?_⟩
        rintro j k H6 ⟨rfl, hj', g6, cs6, acc6, vacc6, sb6, er6, s6, ra6, hf6⟩
        by_cases hlt1 : j < ds1.length
        · rw [List.drop_eq_getElem_cons hlt1] at hf6
          unfold lc2in at hf6
          obtain ⟨hw6, hf6⟩ := hf6
          obtain ⟨stop6, go6⟩ := hJ1 g6 cs6 H6 sb6 s6 hw6
          obtain ⟨hgo6, hy6⟩ := go6 j ds1[j] (by simp [hlt1])
          refine .inr ⟨hgo6, fun H' => ∃ g7 cs7 acc7 vacc7, Sub g5 g7 ∧ g7.rs = (Dd, .lst vacc7) :: g1.rs ∧ Sr K g7 cs7 H' ∧ RepL K g7 acc7 vacc7 ∧ lc2in p1 tt1 we (wipeE env' vs1) W1 (fun acc cs => lc2out p tt wi1 p1 tt1 we vs1 (wipeE env vs) W (upV K g Q) (ds.drop (i + 1)) acc cs) (ds1.drop (j + 1)) acc7 cs7,
            fun H' ⟨g7, cs7, acc7, vacc7, q⟩ => ⟨ds1.length - (j + 1), by omega, rfl, hlt1, g7, cs7, acc7, vacc7, q⟩, fun x1 H7 y1 => ?_⟩
          obtain ⟨g7, e7, s7, r7⟩ := hy6 x1 H7 y1
          split at hf6
          · rename_i env2 hp2
            have lw2 : Lr K g7 (wipeE env' vs1) (wipe σ' vs1) := ⟨((l'.mono (e4.trans e5)).wiped vs1).len, fun i d h => by
              obtain ⟨v, q1, q2⟩ := ((l'.mono (e4.trans e5)).wiped vs1).ok i d h
              exact ⟨v, q1, Rep.sub e7.sub _ _ (Rep.sub sb6 _ _ q2)⟩⟩
            refine gOf_ok s7 p1 _ x1 (wipeE env' vs1) env2 (wipe σ' vs1) _ r7 lw2 hp2 fun σ2 l2 hwp2 => ⟨(hwp2 vs1 hsl1).trans (wipe_wipe σ' (fun i h => h)), ?_⟩
            refine lowT.go mt1 s7 l2 hf6 fun b1 cs8 g8 H8 h8 e8 s8 => ?_
            have sb8 : Sub g5 g8 := sub_trans (sub_trans sb6 e7.sub) e8.sub
            have er8 : g8.rs = (Dd, .lst vacc6) :: g1.rs := by rw [e8.r, e7.r, er6]
            refine ite_mono (fun h8 => ?_) (fun h8 => ?_) h8
            · refine lowE.go me s8 (l2.mono e8) h8 fun y' cs9 g9 H9 v9 ⟨hz9, h9⟩ e9 s9 r9 => ?_
              have er9 : g9.rs = (Dd, .lst vacc6) :: g1.rs := by rw [e9.r, er8]
              obtain ⟨q1, q2, q3⟩ := s9.rs (Dd, .lst vacc6) (by rw [er9]; exact List.mem_cons_self)
              have ra9 : RepL K g9 acc6 vacc6 := ((ra6.mono e7).mono e8).mono e9
              have l9 : vacc6.length = acc6.length := ra6.length.symm
              have sb9 : Sub g9 { g9 with rs := (Dd, .lst (vacc6 ++ [v9])) :: g1.rs } := ⟨fun _ _ h => h, ⟨[], by simp⟩⟩
              exact ⟨vacc6, q1, by omega, { g9 with rs := (Dd, .lst (vacc6 ++ [v9])) :: g1.rs }, cs9, acc6 ++ [y'], vacc6 ++ [v9], sub_trans (sub_trans sb8 e9.sub) sb9, rfl, s9.rehold er9, (ra9.append (.cons r9 .nil)).sub' sb9, h9⟩
            · exact ⟨g8, cs8, acc6, vacc6, sb8, er8, s8, (ra6.mono e7).mono e8, h8⟩
          · exact hf6.elim
        · have e : j = ds1.length := by omega
          subst e
          rw [List.drop_length] at hf6
          obtain ⟨hw6, hf6⟩ := hf6
          obtain ⟨stop6, go6⟩ := hJ1 g6 cs6 H6 sb6 s6 hw6
          exact .inl ⟨stop6 _ (Nat.le_refl _), g6, cs6, acc6, vacc6, sub_trans sb5 sb6, er6, s6, ra6, hf6⟩
      · exact ⟨g4, cs4, acc, vacc, sb4, er4, s4, (ra.mono e3).mono e4, h4⟩
    · exact hf.elim
  · have e : i = ds.length := by omega
    subst e
    rw [List.drop_length] at hf
    obtain ⟨hw, hf⟩ := hf
    obtain ⟨stop, go⟩ := hJ g2 cs2 H2 sb s2 hw
    refine .inl ⟨stop _ (Nat.le_refl _), ?_⟩
    have s3 := s2.unhold er
    have e3 : Ext g1 { g2 with Z := upd g2.Z Dd (.lst vacc), rs := g1.rs } := by
      obtain ⟨q1, q2, q3⟩ := s2.rs (Dd, .lst vacc) (by rw [er]; exact List.mem_cons_self)
      refine ⟨fun a o h => ?_, sb.a, rfl⟩
      show upd g2.Z Dd _ a = some o
      rw [upd_ne (ne_of_none (sb.z a o h) q2)]
      exact sb.z a o h
    have sb3 : Sub g2 { g2 with Z := upd g2.Z Dd (.lst vacc), rs := g1.rs } := by
      obtain ⟨q1, q2, q3⟩ := s2.rs (Dd, .lst vacc) (by rw [er]; exact List.mem_cons_self)
      refine ⟨fun a o h => ?_, ⟨[], by simp⟩⟩
      show upd g2.Z Dd _ a = some o
      rw [upd_ne (ne_of_none h q2)]
      exact h
    exact hf _ H2 _ (e1.trans e3) s3 ⟨Dd, vacc, rfl, upd_same, ra.sub' sb3⟩
section
variable {X : Cx} {pos : Pos}
theorem de_lc2 {elt tg iter tg1 iter1 : Expr} {ifs ifs1 : List Expr} {scope : Scope} {own : List (Str × Nat)} {vs1 : List Nat} {wi wi1 : WI} {p p1 : Pat} {tt tt1 : WT} {we : WE} (hc : X.calm = true) (hN : X.N.Nodup) (hi : DI X tg iter wi) (ok : BlkOk X.N X.env.scope scope own)
    (hg : ∀ (s : Shared) (H : Hp) (C : Addr) (cl : List (Str × Addr)) (fp : List Addr), DG (X.blk s H scope (compEnvC scope cl C X.env) fp) tg p) (ht : ∀ (s : Shared) (H : Hp) (C : Addr) (cl : List (Str × Addr)) (fp : List Addr), DTs (X.blk s H scope (compEnvC scope cl C X.env) fp) ifs tt)
    (hi1 : ∀ (s : Shared) (H : Hp) (C : Addr) (cl : List (Str × Addr)) (fp : List Addr), DI (X.blk s H scope (compEnvC scope cl C X.env) fp) tg1 iter1 wi1)
    (hg1 : ∀ (s : Shared) (H : Hp) (C : Addr) (cl : List (Str × Addr)) (fp : List Addr), DG (X.blk s H scope (compEnvC scope cl C X.env) fp) tg1 p1) (ht1 : ∀ (s : Shared) (H : Hp) (C : Addr) (cl : List (Str × Addr)) (fp : List Addr), DTs (X.blk s H scope (compEnvC scope cl C X.env) fp) ifs1 tt1)
    (he : ∀ (s : Shared) (H : Hp) (C : Addr) (cl : List (Str × Addr)) (fp : List Addr), DE (X.blk s H scope (compEnvC scope cl C X.env) fp) elt we) (hs : ∀ x, foldedSetIterable iter X.env x = pure x := by intro _; rfl) (hs1 : ∀ env x, foldedSetIterable iter1 env x = pure x := by intro _ _; rfl)
    (hv : ∀ i ∈ vs1, i ∈ own.map (·.2) := by decide) (hsl : ∀ i ∈ slots p, i ∈ own.map (·.2) := by decide) (hsl1 : ∀ i ∈ slots p1, i ∈ vs1 := by decide) :
    DE X (.ListComp elt [⟨tg, iter, ifs, 0⟩, ⟨tg1, iter1, ifs1, 0⟩] scope pos) (wLc2 wi p tt wi1 p1 tt1 we (own.map (·.2)) vs1) := by
  have mt : MonoT tt := (ht {} (fun _ => none) 0 [] []).mo
  have mi1 : MonoI wi1 := (hi1 {} (fun _ => none) 0 [] []).mo
  have mt1 : MonoT tt1 := (ht1 {} (fun _ => none) 0 [] []).mo
  have me : MonoE we := (he {} (fun _ => none) 0 [] []).mo
  exact ⟨PE.imp (pe_lc2 (wi := lowI X.K wi) (g := gOf X.K p) (tt := lowT X.K tt) (wi1 := lowI X.K wi1) (g1 := gOf X.K p1) (tt1 := lowT X.K tt1) (te := lowE X.K we) hc hN hi.pe ok hv (fun s H C cl fp => (hg s H C cl fp).pg) (fun s H C cl fp => (ht s H C cl fp).pe) (fun s H C cl fp => (hi1 s H C cl fp).pe) (fun s H C cl fp => (hg1 s H C cl fp).pg) (fun s H C cl fp => (ht1 s H C cl fp).pe) (fun s H C cl fp => (he s H C cl fp).pe) hs hs1) fun σ H Q h => low_lc2 hi.mo mt mi1 mt1 me hsl hsl1 h, wLc2.mo hi.mo mt mi1 mt1 me⟩
theorem ds_setLc2 {i : Nat} {y : Str} {py : Pos} {spos : Pos} {elt tg iter tg1 iter1 : Expr} {ifs ifs1 : List Expr} {scope : Scope} {own : List (Str × Nat)} {vs1 : List Nat} {wi wi1 : WI} {p p1 : Pat} {tt tt1 : WT} {we : WE} (hc : X.calm = true) (hN : X.N.Nodup)
    (hsw : swapsWith (.ListComp elt [⟨tg, iter, ifs, 0⟩, ⟨tg1, iter1, ifs1, 0⟩] scope pos) (some (.Name y py)) spos.line X.env = pure true) (hi : DI X tg iter wi) (ok : BlkOk X.N X.env.scope scope own)
    (hg : ∀ (s : Shared) (H : Hp) (C : Addr) (cl : List (Str × Addr)) (fp : List Addr), DG (X.blk s H scope (compEnvC scope cl C X.env) fp) tg p) (ht : ∀ (s : Shared) (H : Hp) (C : Addr) (cl : List (Str × Addr)) (fp : List Addr), DTs (X.blk s H scope (compEnvC scope cl C X.env) fp) ifs tt)
    (hi1 : ∀ (s : Shared) (H : Hp) (C : Addr) (cl : List (Str × Addr)) (fp : List Addr), DI (X.blk s H scope (compEnvC scope cl C X.env) fp) tg1 iter1 wi1)
    (hg1 : ∀ (s : Shared) (H : Hp) (C : Addr) (cl : List (Str × Addr)) (fp : List Addr), DG (X.blk s H scope (compEnvC scope cl C X.env) fp) tg1 p1) (ht1 : ∀ (s : Shared) (H : Hp) (C : Addr) (cl : List (Str × Addr)) (fp : List Addr), DTs (X.blk s H scope (compEnvC scope cl C X.env) fp) ifs1 tt1)
    (he : ∀ (s : Shared) (H : Hp) (C : Addr) (cl : List (Str × Addr)) (fp : List Addr), DE (X.blk s H scope (compEnvC scope cl C X.env) fp) elt we) (hy : X.N[i]? = some y := by rfl) (hyl : X.env.scope.names.lookup y = some .local := by rfl) (hs : ∀ x, foldedSetIterable iter X.env x = pure x := by intro _; rfl) (hs1 : ∀ env x, foldedSetIterable iter1 env x = pure x := by intro _ _; rfl)
    (hv : ∀ i ∈ vs1, i ∈ own.map (·.2) := by decide) (hsl : ∀ i ∈ slots p, i ∈ own.map (·.2) := by decide) (hsl1 : ∀ i ∈ slots p1, i ∈ vs1 := by decide) :
    DS X (.Assign [.Name y py] (.ListComp elt [⟨tg, iter, ifs, 0⟩, ⟨tg1, iter1, ifs1, 0⟩] scope pos) spos) (wSet i (wLc2 wi p tt wi1 p1 tt1 we (own.map (·.2)) vs1)) := by
  have mt : MonoT tt := (ht {} (fun _ => none) 0 [] []).mo
  have mi1 : MonoI wi1 := (hi1 {} (fun _ => none) 0 [] []).mo
  have mt1 : MonoT tt1 := (ht1 {} (fun _ => none) 0 [] []).mo
  have me : MonoE we := (he {} (fun _ => none) 0 [] []).mo
  refine ⟨PS.imp (ps_setLc2 (wi := lowI X.K wi) (g := gOf X.K p) (tt := lowT X.K tt) (wi1 := lowI X.K wi1) (g1 := gOf X.K p1) (tt1 := lowT X.K tt1) (te := lowE X.K we) hc hN hy hyl hsw hi.pe ok hv (fun s H C cl fp => (hg s H C cl fp).pg) (fun s H C cl fp => (ht s H C cl fp).pe) (fun s H C cl fp => (hi1 s H C cl fp).pe) (fun s H C cl fp => (hg1 s H C cl fp).pg) (fun s H C cl fp => (ht1 s H C cl fp).pe) (fun s H C cl fp => (he s H C cl fp).pe) hs hs1) fun D σ H h => ?_, wSet.mo (wLc2.mo hi.mo mt mi1 mt1 me)⟩
  obtain ⟨g, cs, env, s, l, h⟩ := h
  refine low_lc2 hi.mo mt mi1 mt1 me hsl hsl1 ⟨g, cs, env, s, l, wLc2.mo hi.mo mt mi1 mt1 me _ _ _ _ (fun d cs1 q => ?_) h⟩
  exact fun g1 H1 v e1 s1 r1 => q g1 H1 _ e1 s1 ((l.mono e1).set r1)
end
/-! ### evaluation -/
def lc2P (p : Pat) (tt : WT) (wi1 : WI) (p1 : Pat) (tt1 : WT) (we : WE) (vs1 : List Nat) (env : En) (W : Sto → Prop) (Q : PD) (ds acc : List D) (cs : Sto) (_z : Lz (p, tt, wi1, p1, tt1, we, vs1, env, W, Q) := ⟨⟩) : Prop := lc2out p tt wi1 p1 tt1 we vs1 env W Q ds acc cs
def lc2Q (p1 : Pat) (tt1 : WT) (we : WE) (env2 : En) (W1 : Sto → Prop) (k : List D → Sto → Prop) (ds acc : List D) (cs : Sto) (_z : Lz (p1, tt1, we, env2, W1, k) := ⟨⟩) : Prop := lc2in p1 tt1 we env2 W1 k ds acc cs
theorem lc2P_i {p : Pat} {tt : WT} {wi1 : WI} {p1 : Pat} {tt1 : WT} {we : WE} {vs1 : List Nat} {env : En} {W : Sto → Prop} {Q : PD} {ds acc : List D} {cs : Sto} {z : Lz (p, tt, wi1, p1, tt1, we, vs1, env, W, Q)} (h : lc2out p tt wi1 p1 tt1 we vs1 env W Q ds acc cs) : lc2P p tt wi1 p1 tt1 we vs1 env W Q ds acc cs z := h
theorem lc2Q_i {p1 : Pat} {tt1 : WT} {we : WE} {env2 : En} {W1 : Sto → Prop} {k : List D → Sto → Prop} {ds acc : List D} {cs : Sto} {z : Lz (p1, tt1, we, env2, W1, k)} (h : lc2in p1 tt1 we env2 W1 k ds acc cs) : lc2Q p1 tt1 we env2 W1 k ds acc cs z := h
theorem wLc2_eq (wi : WI) (p : Pat) (tt : WT) (wi1 : WI) (p1 : Pat) (tt1 : WT) (we : WE) (vs vs1 : List Nat) {env : En} {cs : Sto} {Q : PD} : wLc2 wi p tt wi1 p1 tt1 we vs vs1 env cs Q = wi env cs fun ds W cs1 => letE (wipeE env vs) fun env' => lc2P p tt wi1 p1 tt1 we vs1 env' W Q ds [] cs1 := (rfl)
theorem lc2P_nil (p : Pat) (tt : WT) (wi1 : WI) (p1 : Pat) (tt1 : WT) (we : WE) (vs1 : List Nat) (env : En) (W : Sto → Prop) (Q : PD) (acc : List D) (cs : Sto) (z : Lz (p, tt, wi1, p1, tt1, we, vs1, env, W, Q)) : lc2P p tt wi1 p1 tt1 we vs1 env W Q [] acc cs z = (W cs ∧ Q (.lst acc) cs) := (rfl)
theorem lc2P_cons (p : Pat) (tt : WT) (wi1 : WI) (p1 : Pat) (tt1 : WT) (we : WE) (vs1 : List Nat) (env : En) (W : Sto → Prop) (Q : PD) (d : D) (ds acc : List D) (cs : Sto) (z : Lz (p, tt, wi1, p1, tt1, we, vs1, env, W, Q)) : lc2P p tt wi1 p1 tt1 we vs1 env W Q (d :: ds) acc cs z = (W cs ∧ bindP (patSet cs p d env) fun env' => tt env' cs fun b cs2 => cond2 b (wi1 env' cs2 fun ds1 W1 cs3 => letE (wipeE env' vs1) fun env2 => lc2Q p1 tt1 we env2 W1 (fun acc cs => lc2P p tt wi1 p1 tt1 we vs1 env W Q ds acc cs) ds1 acc cs3) (lc2P p tt wi1 p1 tt1 we vs1 env W Q ds acc cs2)) := by
  show lc2out p tt wi1 p1 tt1 we vs1 env W Q (d :: ds) acc cs = _
  unfold lc2out
  cases patSet cs p d env <;> rfl
theorem lc2Q_nil (p1 : Pat) (tt1 : WT) (we : WE) (env2 : En) (W1 : Sto → Prop) (k : List D → Sto → Prop) (acc : List D) (cs : Sto) (z : Lz (p1, tt1, we, env2, W1, k)) : lc2Q p1 tt1 we env2 W1 k [] acc cs z = (W1 cs ∧ k acc cs) := (rfl)
theorem lc2Q_cons (p1 : Pat) (tt1 : WT) (we : WE) (env2 : En) (W1 : Sto → Prop) (k : List D → Sto → Prop) (d : D) (ds acc : List D) (cs : Sto) (z : Lz (p1, tt1, we, env2, W1, k)) : lc2Q p1 tt1 we env2 W1 k (d :: ds) acc cs z = (W1 cs ∧ bindP (patSet cs p1 d env2) fun env' => tt1 env' cs fun b cs2 => cond2 b (we env' cs2 fun y cs3 => acc.length < sizeLine ∧ lc2Q p1 tt1 we env2 W1 k ds (acc ++ [y]) cs3) (lc2Q p1 tt1 we env2 W1 k ds acc cs2)) := by
  show lc2in p1 tt1 we env2 W1 k (d :: ds) acc cs = _
  unfold lc2in
  cases patSet cs p1 d env2 <;> rfl
/-- two walks that change nothing: all pairs -/
theorem lc2_map {p : Pat} {wi1 : WI} {p1 : Pat} {we : WE} {vs1 : List Nat} {env : En} {W : Sto → Prop} {Q : PD} {cs : Sto} (L : D → List D) (f : D → D → D) (W1 : D → Sto → Prop) (hW : W cs) (m : Nat) : ∀ (ds acc : List D)
    (hz : acc.length + (ds.flatMap fun d => (L d).map (f d)).length ≤ sizeLine)
    (hs : ∀ d ∈ ds, ∃ env', patSet cs p d env = some env' ∧ W1 d cs ∧ (∀ R : List D → (Sto → Prop) → Sto → Prop, R (L d) (W1 d) cs → wi1 env' cs R) ∧ ∀ e ∈ L d, ∃ env2, patSet cs p1 e (wipeE env' vs1) = some env2 ∧ ∀ R : PD, R (f d e) cs → we env2 cs R)
    (hd : Q (.lst (acc ++ ds.flatMap fun d => (L d).map (f d))) cs), lc2out p wYes wi1 p1 wYes we vs1 env W Q ds acc cs
  | [], acc, hz, hs, hd => ⟨hW, by simpa using hd⟩
  | d :: ds, acc, hz, hs, hd => by
    obtain ⟨env', e1, hw1, hi, he⟩ := hs d List.mem_cons_self
    refine ⟨hW, ?_⟩
    simp only [e1]
    simp only [wYes, if_true]
    refine hi _ ?_
    have inner : ∀ (es acc' : List D) (k : List D → Sto → Prop), (∀ e ∈ es, ∃ env2, patSet cs p1 e (wipeE env' vs1) = some env2 ∧ ∀ R : PD, R (f d e) cs → we env2 cs R) → acc'.length + es.length ≤ sizeLine → k (acc' ++ es.map (f d)) cs → lc2in p1 wYes we (wipeE env' vs1) (W1 d) k es acc' cs := by
      intro es
      induction es with
      | nil => intro acc' k _ _ hk; exact ⟨hw1, by simpa using hk⟩
      | cons e es ih =>
        intro acc' k hes hz' hk
        obtain ⟨env2, e2, q⟩ := hes e List.mem_cons_self
        refine ⟨hw1, ?_⟩
        simp only [e2]
        simp only [wYes, if_true]
        rw [List.length_cons] at hz'
        exact q _ ⟨by omega, ih _ _ (fun x hx => hes x (List.mem_cons_of_mem _ hx)) (by rw [List.length_append]; simp; omega) (by simpa using hk)⟩
    rw [List.flatMap_cons, List.length_append, List.length_map] at hz
    refine inner _ _ _ he (by omega) ?_
    refine lc2_map L f W1 hW m ds _ ?_ (fun x hx => hs x (List.mem_cons_of_mem _ hx)) ?_
    · rw [List.length_append, List.length_map]
      omega
    · rw [List.flatMap_cons] at hd
      rw [List.append_assoc]
      exact hd
end DL

/-! DEq: == of plain data (no truths among numbers): the data are the same. -/
namespace DL
open PySem PySem.Spec L2

mutual
/-- ints, None, texts, in tuples and lists -/
def PL : Nat → D → Prop
  | _, .int _ => True
  | _, .non => True
  | _, .str x => PySem.PyData.strOk x = true
  | k + 1, .tup ds => PLs k ds
  | k + 1, .lst ds => PLs k ds
  | _, _ => False
def PLs : Nat → List D → Prop
  | _, [] => True
  | k, d :: ds => PL k d ∧ PLs k ds
end
mutual
theorem PL.py : ∀ {k : Nat} {d : D}, PL k d → ∃ p, toPy d = some p ∧ p.canLay0 = true ∧ p.depth ≤ k
  | k, .int i, h => ⟨.int i, by simp only [toPy], by simp [PyData.canLay0], by simp [PyData.depth]⟩
  | k, .non, h => ⟨.none, by simp only [toPy], by simp [PyData.canLay0], by simp [PyData.depth]⟩
  | k, .str x, h => ⟨.str x, by simp only [toPy], by simpa [PyData.canLay0, PL] using h, by simp [PyData.depth]⟩
  | k + 1, .tup ds, h => by
    obtain ⟨ps, e, l, o⟩ := PLs.py (k := k) (ds := ds) (by simpa [PL] using h)
    exact ⟨.tuple ps, by simp only [toPy, e], by simp only [PyData.canLay0]; exact l, by simp only [PyData.depth]; omega⟩
  | k + 1, .lst ds, h => by
    obtain ⟨ps, e, l, o⟩ := PLs.py (k := k) (ds := ds) (by simpa [PL] using h)
    exact ⟨.list ps, by simp only [toPy, e], by simp only [PyData.canLay0]; exact l, by simp only [PyData.depth]; omega⟩
  | 0, .tup ds, h => by simp [PL] at h
  | 0, .lst ds, h => by simp [PL] at h
  | _, .bl _, h => by simp [PL] at h
  | _, .ty _, h => by simp [PL] at h
  | _, .ref _, h => by simp [PL] at h
  | _, .dic _, h => by simp [PL] at h
  | _, .obj _ _, h => by simp [PL] at h
  | _, .cell _, h => by simp [PL] at h
  | _, .scr _, h => by simp [PL] at h
theorem PLs.py : ∀ {k : Nat} {ds : List D}, PLs k ds → ∃ p, toPyL ds = some p ∧ PyData.canLayAll0 p = true ∧ PyData.depthAll p ≤ k
  | k, [], h => ⟨[], by simp only [toPyL], by simp [PyData.canLayAll0], by simp [PyData.depthAll]⟩
  | k, d :: ds, h => by
    have h' : PL k d ∧ PLs k ds := by simpa [PLs] using h
    obtain ⟨p, e1, l1, o1⟩ := PL.py h'.1
    obtain ⟨ps, e2, l2, o2⟩ := PLs.py h'.2
    exact ⟨p :: ps, by simp only [toPyL, e1, e2], by simp only [PyData.canLayAll0, l1, l2, Bool.and_self], by simp only [PyData.depthAll]; omega⟩
end
mutual
theorem PL.eqv : ∀ {k k' : Nat} {d e : D} {p q : PyData}, PL k d → PL k' e → toPy d = some p → toPy e = some q → (PyData.eqv p q = true ↔ d = e) := by
  intro k k' d e p q h1 h2 e1 e2
  cases d with
  | int i =>
    simp only [toPy, Option.some.injEq] at e1
    subst e1
    cases e with
    | int j => simp only [toPy, Option.some.injEq] at e2; subst e2; simp [PyData.eqv]
    | non => simp only [toPy, Option.some.injEq] at e2; subst e2; simp [PyData.eqv]
    | str y => simp only [toPy, Option.some.injEq] at e2; subst e2; simp [PyData.eqv]
    | tup ds => obtain ⟨p, e3, _⟩ := h2.py; rw [e2] at e3; unfold toPy at e2; split at e2 <;> cases e2; simp [PyData.eqv]
    | lst ds => obtain ⟨p, e3, _⟩ := h2.py; rw [e2] at e3; unfold toPy at e2; split at e2 <;> cases e2; simp [PyData.eqv]
    | _ => simp [toPy] at e2 <;> (cases k' <;> simp [PL] at h2)
  | non =>
    simp only [toPy, Option.some.injEq] at e1
    subst e1
    cases e with
    | int j => simp only [toPy, Option.some.injEq] at e2; subst e2; simp [PyData.eqv]
    | non => simp only [toPy, Option.some.injEq] at e2; subst e2; simp [PyData.eqv]
    | str y => simp only [toPy, Option.some.injEq] at e2; subst e2; simp [PyData.eqv]
    | tup ds => unfold toPy at e2; split at e2 <;> cases e2; simp [PyData.eqv]
    | lst ds => unfold toPy at e2; split at e2 <;> cases e2; simp [PyData.eqv]
    | _ => simp [toPy] at e2 <;> (cases k' <;> simp [PL] at h2)
  | str x =>
    simp only [toPy, Option.some.injEq] at e1
    subst e1
    cases e with
    | int j => simp only [toPy, Option.some.injEq] at e2; subst e2; simp [PyData.eqv]
    | non => simp only [toPy, Option.some.injEq] at e2; subst e2; simp [PyData.eqv]
    | str y => simp only [toPy, Option.some.injEq] at e2; subst e2; simp [PyData.eqv]
    | tup ds => unfold toPy at e2; split at e2 <;> cases e2; simp [PyData.eqv]
    | lst ds => unfold toPy at e2; split at e2 <;> cases e2; simp [PyData.eqv]
    | _ => simp [toPy] at e2 <;> (cases k' <;> simp [PL] at h2)
  | tup ds =>
    cases k with
    | zero => simp [PL] at h1
    | succ k =>
      have h1' : PLs k ds := by simpa [PL] using h1
      obtain ⟨ps, e3, _⟩ := h1'.py
      simp only [toPy, e3, Option.some.injEq] at e1
      subst e1
      cases e with
      | int j => simp only [toPy, Option.some.injEq] at e2; subst e2; simp [PyData.eqv]
      | non => simp only [toPy, Option.some.injEq] at e2; subst e2; simp [PyData.eqv]
      | str y => simp only [toPy, Option.some.injEq] at e2; subst e2; simp [PyData.eqv]
      | tup es =>
        cases k' with
        | zero => simp [PL] at h2
        | succ k' =>
          have h2' : PLs k' es := by simpa [PL] using h2
          obtain ⟨qs, e4, _⟩ := h2'.py
          simp only [toPy, e4, Option.some.injEq] at e2
          subst e2
          simp only [PyData.eqv, D.tup.injEq]
          exact PLs.eqv h1' h2' e3 e4
      | lst es => unfold toPy at e2; split at e2 <;> cases e2; simp [PyData.eqv]
      | _ => simp [toPy] at e2 <;> (cases k' <;> simp [PL] at h2)
  | lst ds =>
    cases k with
    | zero => simp [PL] at h1
    | succ k =>
      have h1' : PLs k ds := by simpa [PL] using h1
      obtain ⟨ps, e3, _⟩ := h1'.py
      simp only [toPy, e3, Option.some.injEq] at e1
      subst e1
      cases e with
      | int j => simp only [toPy, Option.some.injEq] at e2; subst e2; simp [PyData.eqv]
      | non => simp only [toPy, Option.some.injEq] at e2; subst e2; simp [PyData.eqv]
      | str y => simp only [toPy, Option.some.injEq] at e2; subst e2; simp [PyData.eqv]
      | tup es => unfold toPy at e2; split at e2 <;> cases e2; simp [PyData.eqv]
      | lst es =>
        cases k' with
        | zero => simp [PL] at h2
        | succ k' =>
          have h2' : PLs k' es := by simpa [PL] using h2
          obtain ⟨qs, e4, _⟩ := h2'.py
          simp only [toPy, e4, Option.some.injEq] at e2
          subst e2
          simp only [PyData.eqv, D.lst.injEq]
          exact PLs.eqv h1' h2' e3 e4
      | _ => simp [toPy] at e2 <;> (cases k' <;> simp [PL] at h2)
  | _ => simp [toPy] at e1 <;> (cases k <;> simp [PL] at h1)
theorem PLs.eqv : ∀ {k k' : Nat} {ds es : List D} {ps qs : List PyData}, PLs k ds → PLs k' es → toPyL ds = some ps → toPyL es = some qs → (PyData.eqvAll ps qs = true ↔ ds = es) := by
  intro k k' ds es ps qs h1 h2 e1 e2
  cases ds with
  | nil =>
    simp only [toPyL, Option.some.injEq] at e1
    subst e1
    cases es with
    | nil => simp only [toPyL, Option.some.injEq] at e2; subst e2; simp [PyData.eqvAll]
    | cons e es =>
      have h2' : PL k' e ∧ PLs k' es := by simpa [PLs] using h2
      obtain ⟨q, e3, _⟩ := h2'.1.py
      obtain ⟨qs', e4, _⟩ := h2'.2.py
      simp only [toPyL, e3, e4, Option.some.injEq] at e2
      subst e2
      simp [PyData.eqvAll]
  | cons d ds =>
    have h1' : PL k d ∧ PLs k ds := by simpa [PLs] using h1
    obtain ⟨p, e5, _⟩ := h1'.1.py
    obtain ⟨ps', e6, _⟩ := h1'.2.py
    simp only [toPyL, e5, e6, Option.some.injEq] at e1
    subst e1
    cases es with
    | nil => simp only [toPyL, Option.some.injEq] at e2; subst e2; simp [PyData.eqvAll]
    | cons e es =>
      have h2' : PL k' e ∧ PLs k' es := by simpa [PLs] using h2
      obtain ⟨q, e3, _⟩ := h2'.1.py
      obtain ⟨qs', e4, _⟩ := h2'.2.py
      simp only [toPyL, e3, e4, Option.some.injEq] at e2
      subst e2
      simp only [PyData.eqvAll, Bool.and_eq_true, List.cons.injEq, PL.eqv h1'.1 h2'.1 e5 e3, PLs.eqv h1'.2 h2'.2 e6 e4]
end
theorem PL.noC {k : Nat} : ∀ {d : D}, PL k d → noC d = true := fun {d} h => by
  cases d <;> first | rfl | (cases k <;> simp [PL] at h)
/-- == of plain data -/
theorem eqD_pl {cs : Sto} {neg : Bool} {k k' : Nat} {d e : D} {p : Prop} [Decidable p] (h1 : PL k d) (h2 : PL k' e) (hp : d = e ↔ p) (hk : k ≤ 60 := by decide) (hk' : k' ≤ 60 := by decide) : eqD cs neg d e = some (True, .bl (if neg = true then !decide p else decide p)) := by
  obtain ⟨a, e1, l1, o1⟩ := h1.py
  obtain ⟨b, e2, l2, o2⟩ := h2.py
  have s1 : SeqAt.shaped a = true := by
    unfold SeqAt.shaped
    rw [l1]
    simp only [Bool.true_and, decide_eq_true_eq]
    omega
  have s2 : SeqAt.shaped b = true := by
    unfold SeqAt.shaped
    rw [l2]
    simp only [Bool.true_and, decide_eq_true_eq]
    omega
  have ev : PyData.eqv a b = decide p := by
    rw [Bool.eq_iff_iff, PL.eqv h1 h2 e1 e2, hp, decide_eq_true_iff]
  unfold eqD
  split
  · rename_i x y
    have : decide (x = y) = decide p := by
      rw [Bool.eq_iff_iff, decide_eq_true_iff, decide_eq_true_iff, ← hp]
      simp
    rw [this]
  · rw [pyOf_noC h1.noC, pyOf_noC h2.noC, e1, e2]
    simp only [s1, s2, and_self, ev]
theorem eqD_rfl {cs : Sto} {neg : Bool} {k : Nat} {d : D} (h : PL k d) (hk : k ≤ 60 := by decide) : eqD cs neg d d = some (True, .bl (!neg)) := by
  rw [eqD_pl (p := True) h h (by simp) hk hk]
  cases neg <;> rfl
theorem reprD_bl (cs : Sto) (b : Bool) : reprD cs (.bl b) = some (True, shD (.bl b)) := reprD_ok (n := 1) (k := 0) (by simp [DB]) (by decide) (by decide) (by simp [dwt])
theorem PLs.ints {k : Nat} : ∀ ns : List Int, PLs k (ns.map .int)
  | [] => by simp [PLs]
  | n :: ns => by simp only [List.map_cons, PLs, PL, true_and]; exact PLs.ints ns
theorem PLs.map {α : Type} {k : Nat} {f : α → D} : ∀ {xs : List α}, (∀ x ∈ xs, PL k (f x)) → PLs k (xs.map f)
  | [], _ => by simp [PLs]
  | x :: xs, h => by simp only [List.map_cons, PLs]; exact ⟨h x List.mem_cons_self, PLs.map fun y hy => h y (List.mem_cons_of_mem _ hy)⟩
theorem PLs.app {k : Nat} : ∀ {ds es : List D}, PLs k ds → PLs k es → PLs k (ds ++ es)
  | [], _, _, h => h
  | d :: ds, es, h, h2 => by
    have h' : PL k d ∧ PLs k ds := by simpa [PLs] using h
    simp only [List.cons_append, PLs]
    exact ⟨h'.1, PLs.app h'.2 h2⟩
/-! ### comprehensions over ranges -/
theorem lc_rng {pt : Pat} {we : WE} {env : En} {W : Sto → Prop} {Q : PD} {cs : Sto} {z : Lz (pt, wYes, we, env, W, Q)} (f : Nat → D) (hW : W cs) (m : Nat)
    (hs : ∀ k < m, ∃ env', patSet cs pt (.int (k : Int)) env = some env' ∧ ∀ R : PD, R (f k) cs → we env' cs R) (hd : Q (.lst ((List.range m).map f)) cs) : lcP pt wYes we env W Q (rngD 0 m) [] cs z := by
  refine lcP_i (lc_inv (fun i acc cs' => (acc = (List.range i).map f) ∧ cs' = cs) _ _ _ ⟨rfl, rfl⟩ (fun _ _ _ e => e.2 ▸ hW) ?_ ?_)
  · rintro i d _ _ he ⟨rfl, rfl⟩
    obtain ⟨hi, rfl⟩ := rngD_get he
    obtain ⟨env', e, q⟩ := hs i hi
    rw [Int.zero_add]
    refine ⟨env', e, fun R1 R2 r1 r2 => ?_⟩
    simp only [wYes, if_true]
    exact q _ (r1 _ _ ⟨by rw [List.range_succ, List.map_append]; rfl, rfl⟩)
  · rintro _ _ ⟨rfl, rfl⟩
    rw [rngD_len]
    exact hd
theorem lc_rngf {pt : Pat} {tt : WT} {we : WE} {env : En} {W : Sto → Prop} {Q : PD} {cs : Sto} {z : Lz (pt, tt, we, env, W, Q)} (t : Nat → Bool) (f : Nat → D) (hW : W cs) (m : Nat)
    (hs : ∀ k < m, ∃ env', patSet cs pt (.int (k : Int)) env = some env' ∧ (∀ R : Bool → Sto → Prop, R (t k) cs → tt env' cs R) ∧ (t k = true → ∀ R : PD, R (f k) cs → we env' cs R)) (hd : Q (.lst (((List.range m).filter t).map f)) cs) : lcP pt tt we env W Q (rngD 0 m) [] cs z := by
  refine lcP_i (lc_inv (fun i acc cs' => (acc = ((List.range i).filter t).map f) ∧ cs' = cs) _ _ _ ⟨rfl, rfl⟩ (fun _ _ _ e => e.2 ▸ hW) ?_ ?_)
  · rintro i d _ _ he ⟨rfl, rfl⟩
    obtain ⟨hi, rfl⟩ := rngD_get he
    obtain ⟨env', e, q1, q2⟩ := hs i hi
    rw [Int.zero_add]
    refine ⟨env', e, fun R1 R2 r1 r2 => q1 _ ?_⟩
    have e2 : ((List.range (i + 1)).filter t).map f = ((List.range i).filter t).map f ++ if t i = true then [f i] else [] := by
      rw [List.range_succ, List.filter_append, List.map_append]
      congr 1
      cases ht : t i <;> simp [ht]
    cases ht : t i with
    | true =>
      rw [if_pos rfl]
      rw [ht, if_pos rfl] at e2
      exact q2 ht _ (r1 _ _ ⟨e2.symm, rfl⟩)
    | false =>
      rw [if_neg (by simp)]
      rw [ht, if_neg (by simp), List.append_nil] at e2
      exact r2 _ ⟨e2.symm, rfl⟩
  · rintro _ _ ⟨rfl, rfl⟩
    rw [rngD_len]
    exact hd
/-- enumerate -/
theorem lc_en {α : Type} {pt : Pat} {we : WE} {env : En} {W : Sto → Prop} {Q : PD} {cs : Sto} {z : Lz (pt, wYes, we, env, W, Q)} (xs : List α) (g : α → D) (f : Nat → α → D) (hW : W cs)
    (hs : ∀ (k : Nat) x, xs[k]? = some x → ∃ env', patSet cs pt (.tup [.int (k : Int), g x]) env = some env' ∧ ∀ R : PD, R (f k x) cs → we env' cs R) (hd : Q (.lst (xs.mapIdx f)) cs) : lcP pt wYes we env W Q (enD 0 (xs.map g)) [] cs z := by
  refine lcP_i (lc_inv (fun i acc cs' => (acc = (xs.take i).mapIdx f) ∧ cs' = cs) _ _ _ ⟨by simp, rfl⟩ (fun _ _ _ e => e.2 ▸ hW) ?_ ?_)
  · rintro i d _ _ he ⟨rfl, rfl⟩
    obtain ⟨y, h1, rfl⟩ := enD_get _ _ _ _ he
    rw [List.getElem?_map] at h1
    obtain ⟨x, hx, rfl⟩ := Option.map_eq_some_iff.mp h1
    have hi : i < xs.length := (List.getElem?_eq_some_iff.mp hx).1
    obtain ⟨env', e, q⟩ := hs i x hx
    rw [Nat.zero_add]
    refine ⟨env', e, fun R1 R2 r1 r2 => ?_⟩
    simp only [wYes, if_true]
    refine q _ (r1 _ _ ⟨?_, rfl⟩)
    rw [List.take_add_one, hx, List.mapIdx_append, List.length_take, Nat.min_eq_left (by omega)]
    simp
  · rintro _ _ ⟨rfl, rfl⟩
    have e : xs.take (enD 0 (xs.map g)).length = xs := by rw [enD_len, List.length_map, List.take_length]
    rw [e]
    exact hd
end DL

/-! DSeq: len(set(x)), list(range(..)), pop(i), extend; changing lists made by list(..). -/
namespace DL
open PySem PySem.Spec L2
open PyProof.Rows (IntsAre)

/-- how many unlike ones -/
def ddup : List Int → List Int
  | [] => []
  | n :: ns => if n ∈ ns then ddup ns else n :: ddup ns
theorem mem_ddup : ∀ {ns : List Int} {k : Int}, k ∈ ddup ns ↔ k ∈ ns
  | [], k => Iff.rfl
  | n :: ns, k => by
    unfold ddup
    split
    · rename_i h
      rw [mem_ddup, List.mem_cons]
      constructor
      · exact .inr
      · rintro (rfl | h2)
        · exact h
        · exact h2
    · rw [List.mem_cons, List.mem_cons, mem_ddup]
theorem nodup_ddup : ∀ ns : List Int, (ddup ns).Nodup
  | [] => List.nodup_nil
  | n :: ns => by
    unfold ddup
    split
    · exact nodup_ddup ns
    · rename_i h
      exact List.nodup_cons.mpr ⟨fun z => h (mem_ddup.mp z), nodup_ddup ns⟩
def dnum (ns : List Int) : Nat := (ddup ns).length
theorem dnum_nodup {ns : List Int} (h : ns.Nodup) : dnum ns = ns.length := by
  induction ns with
  | nil => rfl
  | cons n ns ih =>
    obtain ⟨h1, h2⟩ := List.nodup_cons.mp h
    have := ih h2
    unfold dnum at this ⊢
    unfold ddup
    rw [if_neg h1, List.length_cons, List.length_cons, this]
theorem dnum_le : ∀ ns : List Int, dnum ns ≤ ns.length
  | [] => Nat.le_refl _
  | n :: ns => by
    have := dnum_le ns
    unfold dnum at this ⊢
    unfold ddup
    split
    · rw [List.length_cons]; omega
    · rw [List.length_cons, List.length_cons]; omega
theorem nodup_dnum : ∀ {ns : List Int}, dnum ns = ns.length → ns.Nodup
  | [], _ => List.nodup_nil
  | n :: ns, h => by
    have h0 := dnum_le ns
    unfold dnum at h h0
    unfold ddup at h
    split at h
    · rw [List.length_cons] at h; omega
    · rename_i hn
      rw [List.length_cons, List.length_cons] at h
      exact List.nodup_cons.mpr ⟨hn, nodup_dnum (by unfold dnum; omega)⟩
theorem nodup_len {l l' : List Int} (h : l.Nodup) (h' : l'.Nodup) (e : ∀ k, k ∈ l ↔ k ∈ l') : l.length = l'.length :=
  ((List.perm_ext_iff_of_nodup h h').mpr e).length_eq
theorem dnum_of {l ns : List Int} (h : l.Nodup) (e : ∀ k, k ∈ l ↔ k ∈ ns) : l.length = dnum ns := nodup_len h (nodup_ddup ns) fun k => (e k).trans mem_ddup.symm
theorem fm_nodup (val : Nat → Int) : ∀ i, (PyProof.Rows.firstMet val i).Nodup
  | 0 => List.nodup_nil
  | i + 1 => by
    rw [PyProof.Rows.firstMet_succ]
    unfold PyProof.Rows.step_dedup
    split
    · exact fm_nodup val i
    · rename_i h
      rw [List.nodup_append]
      refine ⟨fm_nodup val i, by simp, ?_⟩
      intro a ha b hb e
      have : b = val i := by simpa using hb
      subst this
      subst e
      exact h (List.any_eq_true.mpr ⟨_, ha, beq_self_eq_true _⟩)
theorem fm_mem (ns : List Int) (k : Int) : k ∈ PyProof.Rows.firstMet (fun i => ns.getD i 0) ns.length ↔ k ∈ ns := by
  have h := PyProof.Rows.firstMet_any (fun i => ns.getD i 0) ns.length k
  have e : (List.range ns.length).map (fun i => ns.getD i 0) = ns := by
    apply List.ext_getElem
    · simp
    · intro i h1 h2
      simp only [List.getElem_map, List.getElem_range, List.getD_eq_getElem?_getD, List.getElem?_eq_getElem h2]
      rfl
  rw [e] at h
  have a : ∀ l : List Int, (l.any (· == k)) = true ↔ k ∈ l := fun l => by
    rw [List.any_eq_true]
    exact ⟨fun ⟨x, hx, q⟩ => by rw [← beq_iff_eq.mp q]; exact hx, fun hk => ⟨k, hk, beq_self_eq_true _⟩⟩
  rw [← a, ← a, h]
section
variable {X : Cx}
def tLenSetA (K : PySem.W.Frag) (ta : TE) : TE := fun σ H Q => ta σ H fun x H1 => ∃ (l : Addr) (ns : List Int), x = V.ref l ∧ (SqL K H1 l (ns.map V.int) ∨ SqT K H1 l (ns.map V.int)) ∧ ns.length < 60 ∧ Q (.int (dnum ns)) H1
theorem pe_lenSetA {a : Expr} {ta : TE} {p p2 q pos : Pos} (hc : X.calm = true) (hg : Gl X "len") (hm : X.mg "len" = none) (hg2 : Gl X "set") (hm2 : X.mg "set" = none) (ha : PE X a ta)
    (na : starEach [a] X.env = (false, eval a X.env) :: starEach [] X.env := by rfl) : PE X (.Call (.Name "len" p) [.Call (.Name "set" p2) [a] [] q] [] pos) (tLenSetA X.K ta) := by
  refine ⟨fun pins s σ H Q I h => ?_⟩
  refine PyProof.Rows.Call_ (ld_blt I hg hm PySem.boot_len ?_)
  refine PyProof.Rows.callWith_builtin1 (PyProof.Rows.args_cons ?_ rfl) rfl rfl
  refine PyProof.Rows.Call_ (ld_blt I hg2 hm2 PyProof.Rows.boot_set ?_)
  refine PyProof.Rows.callWith_type1 (PyProof.Rows.args_cons (thn (ha.run pins s σ H _ I h) fun v s1 ⟨x, H1, I1, r1, q1⟩ => PyProof.Rows.args_nil ?_) na) na rfl
  obtain ⟨l, ns, rfl, hq, h1, q1⟩ := q1
  cases r1
  rcases hq with hq | hq
  · obtain ⟨its, r, pl, hz⟩ := I1.list hq
    have hl : its.toArray.size = ns.length := by rw [List.size_toArray, ← r.length, List.length_map]
    refine call_set_list (I1.ok.hd hc) pl.isList (ns := ns) (by simpa using r.ints) (by unfold scanBound; omega) fun h' tk hS hk => ?_
    rw [hl] at hS
    refine PyProof.Rows.args_nil ?_
    have hd0 := dnum_of (fm_nodup (fun i => ns.getD i 0) ns.length) (fm_mem ns)
    have hle := dnum_le ns
    obtain ⟨o, es, ep, t, ho, hex, hd, _, _, _, hf, hn⟩ := hS
    have I2 : Inv X pins σ H1 { s1 with heap := h', toks := tk } := I1.kept fun b o e => hk b o (Heap.lt_size e) e
    exact call_len_set ho hex hd hf (by rw [hn] <;> omega) ⟨.int (dnum ns), H1, I2.tok _, ⟨_, by rw [hn, hd0]⟩, q1⟩
  · obtain ⟨its, r, pt, hz⟩ := I1.tuple hq
    refine call_set_tupI (items := its.toArray) ns (I1.ok.hd hc) (show s1.heap.IsTuple l its.toArray from pt) (by simpa using r.ints) (by unfold scanBound; omega) fun h' tk c hS _ hk => ?_
    refine PyProof.Rows.args_nil ?_
    have hle := dnum_le ns
    obtain ⟨o, es, ep, t, ho, hex, hd, hge, hnd, hmem, _, hf, hn, _⟩ := hS
    have hc2 : (es.toList.map keyOf).length = dnum ns := dnum_of hnd fun k => by
      rw [← hmem k]
      exact decide_eq_true_iff
    rw [List.length_map, Array.length_toList] at hc2
    have I2 : Inv X pins σ H1 { s1 with heap := h', toks := tk } := I1.kept hk
    exact call_len_set ho hex hd hf (by rw [hc2] <;> omega) ⟨.int (dnum ns), H1, I2.tok _, ⟨_, by rw [hc2]⟩, q1⟩
/-- ints in a list or tuple -/
def wLenSet (w : WE) : WE := fun env cs Q => w env cs fun d cs' => bindP (anyI cs' d) fun ns => ns.length < 60 ∧ Q (.int (dnum ns)) cs'
theorem de_lenSet {a : Expr} {wa : WE} {p p2 q pos : Pos} (hc : X.calm = true) (hm : X.mg "len" = none) (hm2 : X.mg "set" = none) (ha : DE X a wa) (hg : Gl X "len" := by rfl) (hg2 : Gl X "set" := by rfl)
    (na : starEach [a] X.env = (false, eval a X.env) :: starEach [] X.env := by rfl) : DE X (.Call (.Name "len" p) [.Call (.Name "set" p2) [a] [] q] [] pos) (wLenSet wa) :=
  ⟨PE.imp (pe_lenSetA hc hg hm hg2 hm2 ha.pe na) fun σ H Q ⟨g, cs, env, s, l, h⟩ => lowE.go ha.mo s l h fun d cs1 g1 H1 v1 h1 e1 s1 r1 => by
    unfold anyI at h1
    cases e : seqOf cs1 d with
    | none => rw [e] at h1; exact h1.elim
    | some ds =>
      cases e2 : nums ds with
      | none => simp only [e, e2, bindP_none] at h1
      | some ns =>
        simp only [e, e2, bindP_some] at h1
        obtain ⟨p', vs, f1, hq, r2⟩ := seq_of s1 e r1
        have ev : vs = ns.map V.int := nums_rep r2 e2
        subst ev
        exact ⟨p', ns, f1, hq, h1.1, h1.2 g1 H1 _ e1 s1 rfl⟩,
    fun env cs Q Q' h q => ha.mo env cs _ _ (fun d cs1 q => bindP_mo (fun ns q => ⟨q.1, h _ _ q.2⟩) q) q⟩
/-! ### list(range(..)) -/
theorem rg_rep {K : PySem.W.Frag} {g : G} (a b : Int) : RepL K g (rngD a (b - a).toNat) (rgV a b) := by
  unfold rngD rgV
  have : ∀ (l : List Nat), RepL K g (l.map fun i : Nat => D.int (a + (i : Nat))) (l.map fun i : Nat => V.int (a + (i : Nat))) := fun l => by
    induction l with
    | nil => exact rfl
    | cons x l ih => exact ⟨_, _, rfl, rfl, ih⟩
  exact this _
def wLRg1 (wa : WE) : WE := fun env cs Q => wa env cs fun d cs' => bindP (intD d) fun n => RgOk 0 n ∧ Q (.lst (rngD 0 n.toNat)) cs'
def wCRg1 (wa : WE) : WE := fun env cs Q => wa env cs fun d cs' => bindP (intD d) fun n => RgOk 0 n ∧ Q (.cell cs'.length) (cs' ++ [.lst (rngD 0 n.toNat)])
theorem new_cel {K : PySem.W.Frag} {g : G} {cs : Sto} {H : Hp} {Q : VK} {ds : List D} {vs : List V} (s : Sr K g cs H) (r : RepL K g ds vs) (h : upV K g Q (.cell cs.length) (cs ++ [.lst ds])) : ∀ p, H p = none → Q (.ref p) (upd H p (.lst vs)) := fun p hp =>
  h (g.cel p) _ _ (Ext.cel p) (s.cel hp ⟨vs, upd_same, r.mono (Ext.cel p), s.free hp⟩) ⟨p, rfl, by
    rw [← s.len]
    show (g.as ++ [p])[g.as.length]? = some p
    simp⟩
theorem de_lstRg1 {a : Expr} {wa : WE} {p p2 q pos : Pos} (hc : X.calm = true) (hm : X.mg "list" = none) (hm2 : X.mg "range" = none) (ha : DE X a wa) (hg : Gl X "list" := by rfl) (hg2 : Gl X "range" := by rfl)
    (na : starEach [a] X.env = (false, eval a X.env) :: starEach [] X.env := by rfl)
    (na2 : starEach [.Call (.Name "range" p2) [a] [] q] X.env = (false, eval (.Call (.Name "range" p2) [a] [] q) X.env) :: starEach [] X.env := by rfl) : DE X (.Call (.Name "list" p) [.Call (.Name "range" p2) [a] [] q] [] pos) (wLRg1 wa) :=
  ⟨PE.imp (pe_listRg hc hg hm (prg_1 hg2 hm2 ha.pe na) na2) fun σ H Q ⟨g, cs, env, s, l, h⟩ => lowE.go ha.mo s l h fun d cs1 g1 H1 v1 h1 e1 s1 r1 => by
    cases d with
    | int n =>
      cases r1
      have e : (n - 0).toNat = n.toNat := by rw [Int.sub_zero]
      have r := rg_rep (K := X.K) (g := g1) 0 n
      rw [e] at r
      exact ⟨n, rfl, h1.1, new_lst s1 r (upV.mono e1 h1.2)⟩
    | _ => exact h1.elim,
    fun env cs Q Q' h q => ha.mo env cs _ _ (fun d cs1 q => bindP_mo (fun ns q => ⟨q.1, h _ _ q.2⟩) q) q⟩
theorem de_celRg1 {a : Expr} {wa : WE} {p p2 q pos : Pos} (hc : X.calm = true) (hm : X.mg "list" = none) (hm2 : X.mg "range" = none) (ha : DE X a wa) (hg : Gl X "list" := by rfl) (hg2 : Gl X "range" := by rfl)
    (na : starEach [a] X.env = (false, eval a X.env) :: starEach [] X.env := by rfl)
    (na2 : starEach [.Call (.Name "range" p2) [a] [] q] X.env = (false, eval (.Call (.Name "range" p2) [a] [] q) X.env) :: starEach [] X.env := by rfl) : DE X (.Call (.Name "list" p) [.Call (.Name "range" p2) [a] [] q] [] pos) (wCRg1 wa) :=
  ⟨PE.imp (pe_listRg hc hg hm (prg_1 hg2 hm2 ha.pe na) na2) fun σ H Q ⟨g, cs, env, s, l, h⟩ => lowE.go ha.mo s l h fun d cs1 g1 H1 v1 h1 e1 s1 r1 => by
    cases d with
    | int n =>
      cases r1
      have e : (n - 0).toNat = n.toNat := by rw [Int.sub_zero]
      have r := rg_rep (K := X.K) (g := g1) 0 n
      rw [e] at r
      exact ⟨n, rfl, h1.1, new_cel s1 r (upV.mono e1 h1.2)⟩
    | _ => exact h1.elim,
    fun env cs Q Q' h q => ha.mo env cs _ _ (fun d cs1 q => bindP_mo (fun ns q => ⟨q.1, h _ _ q.2⟩) q) q⟩
/-- list(x), which will change -/
def oListC : O1 := fun d cs Q => bindP (seqOf cs d) fun ds => Q (.cell cs.length) (cs ++ [.lst ds])
theorem cd_listC : CallD X (.type "list") (o1 oListC) := cd1 (fun d cs Q Q' h q => bindP_mo (fun ds q => h _ _ q) q) fun pins s σ H x u Q g cs d I ru rv sr r q => by
  unfold oListC at q
  cases e : seqOf cs d with
  | none => rw [e] at q; exact q.elim
  | some ds =>
    rw [e] at q
    simp only [bindP_some] at q
    obtain ⟨a, vs, e1, h1, h2⟩ := seq_of sr e r
    subst e1
    exact call_list_of pins s σ H _ _ Q I rv ⟨a, vs, rfl, h1, new_cel sr h2 q⟩
/-! ### pop(i), extend -/
def popAtS (cs : Sto) (d : D) (ds : List D) : Option (Prop × D × Sto) := match d, ds with
  | .cell n, [.int i] => (lstAt cs n).bind fun xs => (seqIndex? i xs.length).bind fun k => (xs[k]?).map fun y => (-(2 ^ 63) ≤ i ∧ i < 2 ^ 63, y, cs.set n (.lst (xs.eraseIdx k)))
  | _, _ => none
def oPopAt : OM := fun d ds cs Q => bindP (popAtS cs d ds) fun p => p.1 ∧ Q p.2.1 p.2.2
theorem RepL.erase {K : PySem.W.Frag} {g : G} : ∀ {ds : List D} {vs : List V} (k : Nat), RepL K g ds vs → RepL K g (ds.eraseIdx k) (vs.eraseIdx k)
  | [], vs, k, r => by
    have r' : vs = [] := r
    subst r'
    exact rfl
  | d :: ds, vs, 0, r => by
    obtain ⟨v, r', e1, h1, h2⟩ := r
    subst e1
    exact h2
  | d :: ds, vs, k + 1, r => by
    obtain ⟨v, r', e1, h1, h2⟩ := r
    subst e1
    exact ⟨v, _, rfl, h1, RepL.erase k h2⟩
theorem md_popAt : MtD X "list.pop" oPopAt := .mk' (fun d ds cs Q Q' h q => bindP_mo (fun p q => ⟨q.1, h _ _ q.2⟩) q) fun pins s σ H x xs v us Q g cs d ds I rx r sr r1 r2 q => by
  unfold oPopAt at q
  cases ea : popAtS cs d ds with
  | none => rw [ea] at q; exact q.elim
  | some p =>
    rw [ea] at q
    unfold popAtS at ea
    split at ea
    · rename_i n i
      cases el : lstAt cs n with
      | none => rw [el] at ea; cases ea
      | some ys =>
        rw [el] at ea
        simp only [Option.bind_some] at ea
        cases ek : seqIndex? i ys.length with
        | none => rw [ek] at ea; cases ea
        | some k =>
          rw [ek] at ea
          simp only [Option.bind_some] at ea
          obtain ⟨y, hy, ep⟩ := Option.map_eq_some_iff.mp ea
          subst ep
          obtain ⟨a, e1, h1⟩ := r1
          subst e1
          obtain ⟨vs, q1, q2, q3⟩ := sr.ok n a _ h1 (lstAt_some el)
          obtain ⟨v1, r', ev, w1, w2⟩ := r2
          have w2' : r' = [] := w2
          subst w2' ev
          cases w1
          obtain ⟨u, hu, ru⟩ := q2.get hy
          simp only [bindP_some] at q
          exact mt_popAt pins s σ H _ _ v us Q I rx r ⟨a, vs, i, k, u, rfl, rfl, q1, q.1.1, q.1.2, by rw [← q2.length]; exact ek, hu, q.2 g _ _ (Ext.refl g) (sr.put h1 (lstAt_some el) (by simp) ⟨_, upd_same, q2.erase k, q3⟩) ru⟩
    · cases ea
def extS (cs : Sto) (d : D) (ds : List D) : Option (Prop × Sto) := match d, ds with
  | .cell n, [e] => (lstAt cs n).bind fun xs => (lstOf cs e).map fun ys => (xs.length + ys.length ≤ sizeLine, cs.set n (.lst (xs ++ ys)))
  | _, _ => none
def oExt : OM := fun d ds cs Q => bindP (extS cs d ds) fun p => p.1 ∧ Q .non p.2
theorem md_extend : MtD X "list.extend" oExt := .mk' (fun d ds cs Q Q' h q => bindP_mo (fun p q => ⟨q.1, h _ _ q.2⟩) q) fun pins s σ H x xs v us Q g cs d ds I rx r sr r1 r2 q => by
  unfold oExt at q
  cases ea : extS cs d ds with
  | none => rw [ea] at q; exact q.elim
  | some p =>
    rw [ea] at q
    unfold extS at ea
    split at ea
    · rename_i n e
      cases el : lstAt cs n with
      | none => rw [el] at ea; cases ea
      | some ys =>
        rw [el] at ea
        simp only [Option.bind_some] at ea
        obtain ⟨zs, hz, ep⟩ := Option.map_eq_some_iff.mp ea
        subst ep
        obtain ⟨a, e1, h1⟩ := r1
        subst e1
        obtain ⟨vs, q1, q2, q3⟩ := sr.ok n a _ h1 (lstAt_some el)
        obtain ⟨v1, r', ev, w1, w2⟩ := r2
        have w2' : r' = [] := w2
        subst w2' ev
        obtain ⟨b, ws, eb, hb, rb⟩ := rd_of sr hz w1
        subst eb
        simp only [bindP_some] at q
        exact mt_extend pins s σ H _ _ v us Q I rx r ⟨a, b, vs, ws, rfl, rfl, q1, hb, by rw [← q2.length, ← rb.length]; exact q.1, q.2 g _ _ (Ext.refl g) (sr.put h1 (lstAt_some el) (by simp) ⟨_, upd_same, q2.append rb, q3⟩) rfl⟩
    · cases ea
end
/-! ### evaluation -/
section
variable {env : En} {cs : Sto} {Q : PD}
theorem wLenSet_eq (w : WE) : wLenSet w env cs Q = w env cs fun d cs' => bindP (anyI cs' d) fun ns => ns.length < 60 ∧ Q (.int (dnum ns)) cs' := (rfl)
theorem wLRg1_eq (w : WE) : wLRg1 w env cs Q = w env cs fun d cs' => bindP (intD d) fun n => RgOk 0 n ∧ Q (.lst (rngD 0 n.toNat)) cs' := (rfl)
theorem wCRg1_eq (w : WE) : wCRg1 w env cs Q = w env cs fun d cs' => bindP (intD d) fun n => RgOk 0 n ∧ Q (.cell cs'.length) (cs' ++ [.lst (rngD 0 n.toNat)]) := (rfl)
theorem oListC_eq (d : D) : oListC d cs Q = bindP (seqOf cs d) fun ds => Q (.cell cs.length) (cs ++ [.lst ds]) := (rfl)
theorem oPopAt_eq (d : D) (ds : List D) : oPopAt d ds cs Q = bindP (popAtS cs d ds) fun p => p.1 ∧ Q p.2.1 p.2.2 := (rfl)
theorem oExt_eq (d : D) (ds : List D) : oExt d ds cs Q = bindP (extS cs d ds) fun p => p.1 ∧ Q .non p.2 := (rfl)
theorem popAtS_cell (n : Nat) (i : Int) : popAtS cs (.cell n) [.int i] = (lstAt cs n).bind fun xs => (seqIndex? i xs.length).bind fun k => (xs[k]?).map fun y => (-(2 ^ 63) ≤ i ∧ i < 2 ^ 63, y, cs.set n (.lst (xs.eraseIdx k))) := (rfl)
theorem extS_cell (n : Nat) (e : D) : extS cs (.cell n) [e] = (lstAt cs n).bind fun xs => (lstOf cs e).map fun ys => (xs.length + ys.length ≤ sizeLine, cs.set n (.lst (xs ++ ys))) := (rfl)
theorem eqD_cellL {n : Nat} {ds : List D} {d : D} {neg : Bool} (h : lstAt cs n = some ds) : eqD cs neg (.cell n) d = eqD cs neg (.lst ds) d := by
  have e : pyOf cs (.cell n) = pyOf cs (.lst ds) := by
    show (match cs[n]? with | some (.lst ds) => (match toPyL ds with | some ps => some (PyData.list ps) | none => none) | _ => none) = _
    rw [lstAt_some h]
    show _ = toPy (.lst ds)
    simp only [toPy]
    all_goals (cases toPyL ds <;> rfl)
  unfold eqD
  cases d <;> simp only [e]
theorem seqIx {i : Int} {n : Nat} (h0 : 0 ≤ i) (h1 : i < (n : Int)) : seqIndex? i n = some i.toNat := by
  unfold seqIndex?
  have e : (if i < 0 then i + (n : Int) else i) = i := if_neg (by omega)
  simp only [e]
  rw [if_pos (by simp; omega)]
theorem RgOk_nat {n : Nat} (h : n ≤ 4096) : RgOk 0 (n : Int) = True := eq_true (RgOk.of_le (by omega) (by omega) (by omega) (by omega))
end
end DL

/-! DRep: the text of many small numbers. -/
namespace DL
open PySem PySem.Spec L2
mutual
theorem DB.lvS {n m : Nat} (hm : n + 1 ≤ m) (h5 : 8 ≤ m) : ∀ {k : Nat} {d : D} {p : PyData}, DB n k d → toPy d = some p → p.leavesShort m = true
  | k, .int i, p, h, e => by
    simp only [toPy, Option.some.injEq] at e
    subst e
    have hb : Bd n i := by simpa [DB] using h
    have hl : i.natAbs.log2 < max n 1 := by
      by_cases h0 : i.natAbs = 0
      · rw [h0]; exact Nat.lt_of_lt_of_le (by decide : Nat.log2 0 < 1) (Nat.le_max_right _ _)
      · exact Nat.lt_of_lt_of_le ((Nat.log2_lt h0).mpr hb) (Nat.le_max_left _ _)
    have e1 := int_text_length_le (a := i) (k := max n 1) (Nat.le_max_right _ _) hl
    simp only [PyData.leavesShort, decide_eq_true_eq]
    show (Str.ofString (toString i)).length ≤ m
    rw [ofString_length]
    omega
  | k, .bl b, p, h, e => by
    simp only [toPy, Option.some.injEq] at e
    subst e
    have h2 : (PyData.bool b).leavesShort 5 = true := by cases b <;> simp [PyData.leavesShort]
    simp [PyData.leavesShort] at h2 ⊢ <;> omega
  | k, .non, p, h, e => by
    simp only [toPy, Option.some.injEq] at e
    subst e
    simp [PyData.leavesShort] <;> omega
  | k + 1, .tup ds, p, h, e => by
    unfold toPy at e
    split at e
    · rename_i ps hp
      cases e
      simp only [PyData.leavesShort]
      exact DBL.lvS hm h5 (k := k) (by simpa [DB] using h) hp
    · cases e
  | k + 1, .lst ds, p, h, e => by
    unfold toPy at e
    split at e
    · rename_i ps hp
      cases e
      simp only [PyData.leavesShort]
      exact DBL.lvS hm h5 (k := k) (by simpa [DB] using h) hp
    · cases e
  | 0, .tup ds, _, h, _ => by simp [DB] at h
  | 0, .lst ds, _, h, _ => by simp [DB] at h
  | _, .str _, _, h, _ => by simp [DB] at h
  | _, .ty _, _, h, _ => by simp [DB] at h
  | _, .ref _, _, h, _ => by simp [DB] at h
  | _, .dic _, _, h, _ => by simp [DB] at h
  | _, .obj _ _, _, h, _ => by simp [DB] at h
  | _, .cell _, _, h, _ => by simp [DB] at h
  | _, .scr _, _, h, _ => by simp [DB] at h
theorem DBL.lvS {n m : Nat} (hm : n + 1 ≤ m) (h5 : 8 ≤ m) : ∀ {k : Nat} {ds : List D} {ps : List PyData}, DBL n k ds → toPyL ds = some ps → PyData.leavesShortAll m ps = true
  | k, [], ps, h, e => by
    simp only [toPyL, Option.some.injEq] at e
    subst e
    simp [PyData.leavesShortAll]
  | k, d :: ds, ps, h, e => by
    have h' : DB n k d ∧ DBL n k ds := by simpa [DBL] using h
    unfold toPyL at e
    split at e
    · rename_i p hp
      split at e
      · rename_i qs hq
        cases e
        simp only [PyData.leavesShortAll, DB.lvS hm h5 h'.1 hp, DBL.lvS hm h5 h'.2 hq, Bool.and_self]
      · cases e
    · cases e
end
/-- many small numbers -/
theorem reprD_okS {cs : Sto} {n k m : Nat} {d : D} (h : DB n k d) (hm : n + 1 ≤ m) (h5 : 8 ≤ m) (hw : (m + 2) * dwt d + m ≤ 16000000) (l : n ≤ 1920 := by decide) (hk : k ≤ 60 := by decide) : reprD cs d = some (True, shD d) := by
  obtain ⟨p, e, o⟩ := h.py l
  have lv := h.lvS hm h5 e
  have h3 : p.shown.length ≤ sizeLine := by
    have h := PyData.shown_le_bulk m h5 p lv
    have := o.bk
    rw [this] at h
    rw [sizeLine_eq]
    omega
  unfold reprD shD
  rw [pyOf_noC h.noC, e]
  simp only [Option.map_some, Option.some.injEq, Prod.mk.injEq, and_true]
  exact eq_true ⟨o.sh, h3, Nat.le_trans o.dep hk⟩
end DL

/-! DDic: dicts as data: what repr shows of data with dicts in them, dict displays. -/
namespace DL
open PySem PySem.Spec PyProof.Rows L2
/-! ### data with dicts -/
def keyPy : Key → PyData
  | .inl i => .int i
  | .inr x => .str x
mutual
def toPyR : D → Option PyData
  | .non => some .none
  | .bl b => some (.bool b)
  | .int i => some (.int i)
  | .str x => some (.str x)
  | .tup ds => match toPyRL ds with
    | some ps => some (.tuple ps)
    | none => none
  | .lst ds => match toPyRL ds with
    | some ps => some (.list ps)
    | none => none
  | .dic ds => match toPyRK ds with
    | some ps => some (.dict ps)
    | none => none
  | _ => none
def toPyRL : List D → Option (List PyData)
  | [] => some []
  | d :: ds => match toPyR d with
    | some p => match toPyRL ds with
      | some ps => some (p :: ps)
      | none => none
    | none => none
def toPyRK : List (Key × D) → Option (List (PyData × PyData))
  | [] => some []
  | (k, d) :: ds => match toPyR d with
    | some p => match toPyRK ds with
      | some ps => some ((keyPy k, p) :: ps)
      | none => none
    | none => none
end
def pyR (cs : Sto) : D → Option PyData
  | .cell i => match cs[i]? with
    | some (.lst ds) => match toPyRL ds with
      | some ps => some (.list ps)
      | none => none
    | _ => none
  | d => toPyR d

/-! ### what is shown -/
section
variable {prog : Program} {w : World} {h : Heap}
def Shw (prog : Program) (w : World) (h : Heap) (u : Value) (p : PyData) : Prop := ∃ as bs, Reads h u p as ∧ ReadAtMost h p.depth bs ∧ ReprK prog w bs h p.depth u p.shown
def ShwA (prog : Program) (w : World) (h : Heap) (us : List Value) (ps : List PyData) : Prop :=
  ∃ as bs, ReadsAll h us ps as ∧ ReadAtMost h (PyData.depthAll ps) bs ∧ ReprAllK prog w bs h (PyData.depthAll ps) us (PyData.shownAll ps)
theorem ShwA.nil : ShwA prog w h [] [] := ⟨[], [], .nil, (fun _ m => nomatch m), by simp only [PyData.shownAll]; exact .nil⟩
theorem ShwA.cons {u : Value} {us : List Value} {p : PyData} {ps : List PyData} (a : Shw prog w h u p) (b : ShwA prog w h us ps) : ShwA prog w h (u :: us) (p :: ps) := by
  obtain ⟨a1, b1, r1, m1, k1⟩ := a
  obtain ⟨a2, b2, r2, m2, k2⟩ := b
  refine ⟨_, b1 ++ b2, .cons r1 r2, ?_, ?_⟩
  · simp only [PyData.depthAll]
    exact (m1.mono (Nat.le_max_left _ _)).append (m2.mono (Nat.le_max_right _ _))
  · simp only [PyData.depthAll, PyData.shownAll]
    exact .cons ((k1.more fun b hb => List.mem_append_left _ hb).level_le (Nat.le_max_left _ _)) (k2.more_le (fun b hb => List.mem_append_right _ hb) (Nat.le_max_right _ _))
theorem Shw.non : Shw prog w h .none .none := ⟨_, [], .none, (fun _ m => nomatch m), by simp only [PyData.shown]; exact .of_is ReprIs.none _ _ _⟩
theorem Shw.bl (b : Bool) : Shw prog w h (.bool b) (.bool b) := ⟨_, [], .bool b, (fun _ m => nomatch m), by simp only [PyData.shown]; exact .of_is (ReprIs.bool b) _ _ _⟩
theorem Shw.int (i : Int) (t : Tok) (hs : i.natAbs.log2 < 1920) : Shw prog w h (.int i t) (.int i) := ⟨_, [], .int i t, (fun _ m => nomatch m), by simp only [PyData.shown]; exact .of_is (ReprIs.int t hs) _ _ _⟩
theorem Shw.str (x : Str) (t : Tok) (hs : (reprText x).length ≤ sizeLine) : Shw prog w h (.str x t) (.str x) := ⟨_, [], .str x t, (fun _ m => nomatch m), by simp only [PyData.shown]; exact .of_is (ReprIs.str x t hs) _ _ _⟩
theorem Shw.lst {a : Addr} {o : Obj} {vs : Array Value} {n : Nat} {ps : List PyData} (h1 : h.get? a = some o) (h2 : o.cls = .type "list") (h3 : o.data = .seq vs n) (q : ShwA prog w h vs.toList ps) : Shw prog w h (.ref a) (.list ps) := by
  obtain ⟨as, bs, r, m, k⟩ := q
  have rr : Reads h (.ref a) (.list ps) _ := .list h1 h2 h3 r
  have hna : a ∉ bs := not_mem_of_deeper rr (by simp only [PyData.depth]; omega) m
  refine ⟨_, a :: bs, rr, ReadAtMost.cons rr (by simp only [PyData.depth]; omega) m, ?_⟩
  simp only [PyData.depth, PyData.shown]
  obtain ⟨l⟩ := vs
  cases l with
  | nil =>
    have r' : ReadsAll h [] ps _ := r
    cases r'
    simp only [PyData.shownAll, listText_nil]
    exact ReprK.listEmpty h1 h2 h3
  | cons x l => exact ReprK.list h1 h2 h3 hna (by simpa using k.length_eq) (fun i y e => k.item i y (by simpa using e))
theorem Shw.tup {a : Addr} {o : Obj} {vs : Array Value} {n : Nat} {ps : List PyData} (h1 : h.get? a = some o) (h2 : o.cls = .type "tuple") (h3 : o.data = .seq vs n) (q : ShwA prog w h vs.toList ps) : Shw prog w h (.ref a) (.tuple ps) := by
  obtain ⟨as, bs, r, m, k⟩ := q
  have rr : Reads h (.ref a) (.tuple ps) _ := .tuple h1 h2 h3 r
  have hna : a ∉ bs := not_mem_of_deeper rr (by simp only [PyData.depth]; omega) m
  refine ⟨_, a :: bs, rr, ReadAtMost.cons rr (by simp only [PyData.depth]; omega) m, ?_⟩
  simp only [PyData.depth, PyData.shown]
  exact ReprK.tuple h1 h2 h3 hna k
theorem Shw.dic {a : Addr} {o : Obj} {es : Array DictEntry} {n : Nat} {ps : List (PyData × PyData)} (h1 : h.get? a = some o) (h2 : o.cls = .type "dict") (h3 : o.data = .dict es n) (hs : (a == sysModules) = false)
    (q1 : ShwA prog w h (es.toList.map (·.key)) (ps.map (·.1))) (q2 : ShwA prog w h (es.toList.map (·.val)) (ps.map (·.2))) : Shw prog w h (.ref a) (.dict ps) := by
  obtain ⟨a1, b1, r1, m1, k1⟩ := q1
  obtain ⟨a2, b2, r2, m2, k2⟩ := q2
  have rr : Reads h (.ref a) (.dict ps) _ := .dict h1 h2 h3 r1 r2
  have m : ReadAtMost h (PyData.depthKv ps) (b1 ++ b2) := (m1.mono (PyData.depthAll_keys_le ps)).append (m2.mono (PyData.depthAll_vals_le ps))
  have hna : a ∉ b1 ++ b2 := not_mem_of_deeper rr (by simp only [PyData.depth]; omega) m
  refine ⟨_, a :: (b1 ++ b2), rr, ReadAtMost.cons rr (by simp only [PyData.depth]; omega) m, ?_⟩
  simp only [PyData.depth, PyData.shown, PyData.shownKv_eq]
  exact ReprK.dict h1 h2 h3 hs hna (ReprEntriesK.of_two es.toList _ _
    (k1.more_le (fun b hb => List.mem_append_left _ hb) (PyData.depthAll_keys_le ps)) (k2.more_le (fun b hb => List.mem_append_right _ hb) (PyData.depthAll_vals_le ps)))
end
/-! ### data is shown so -/
section
variable {X : Cx} {g : G} {cs : Sto} {pins : List (Addr × Obj)} {σ : L2.St} {H : Hp} {s : Shared}
theorem keys_shw {h : Heap} : ∀ {es : List DictEntry} {kvs : List (Key × V)} {vs : List (Key × Value)} {ds : List (Key × D)} {ps : List (PyData × PyData)}, KV kvs vs → Pairs (mixKind X.prog X.w) es vs → RepK X.K g ds kvs →
    toPyRK ds = some ps → PyData.showableAll (ps.map (·.1)) = true → (∀ t ∈ PyData.shownAll (ps.map (·.1)), t.length ≤ sizeLine) → ShwA X.prog X.w h (es.map (·.key)) (ps.map (·.1))
  | _, _, _, [], ps, kv, pr, rk, e, hs, hz => by
    have e1 : _ = [] := rk
    subst e1
    cases kv
    cases pr
    simp only [toPyRK, Option.some.injEq] at e
    subst e
    exact .nil
  | _, _, _, (k, d) :: ds, ps, kv, pr, rk, e, hs, hz => by
    obtain ⟨v, r, e1, h1, h2⟩ := rk
    subst e1
    cases kv with
    | cons q kv' =>
      cases pr with
      | cons p1 p2 pr' =>
        unfold toPyRK at e
        split at e
        · rename_i p hp
          split at e
          · rename_i qs hq
            cases e
            simp only [List.map_cons, PyData.showableAll, Bool.and_eq_true] at hs
            simp only [List.map_cons, PyData.shownAll] at hz
            simp only [List.map_cons]
            refine .cons ?_ (keys_shw kv' pr' h2 hq hs.2 fun t ht => hz t (List.mem_cons_of_mem _ ht))
            have hz1 := hz _ (List.mem_cons_self ..)
            obtain ⟨q1, q2⟩ := q
            simp only at q1
            rw [← q1] at p1
            rcases keyIs_shape p1 with ⟨i, t, e1, e2⟩ | ⟨x, t, e1, e2⟩
            · subst e1
              rw [e2]
              exact .int i t (by simpa [keyPy, PyData.showable] using hs.1)
            · subst e1
              rw [e2]
              exact .str x t (by simpa [keyPy, PyData.shown] using hz1)
          · cases e
        · cases e
mutual
theorem shw_D (I : Inv X pins σ H s) (sr : Sr X.K g cs H) : ∀ (d : D) (v : V) (u : Value) (p : PyData), toPyR d = some p → Rep X.K g d v → RelV v u → p.showable = true → p.shown.length ≤ sizeLine → Shw X.prog X.w s.heap u p
  | .non, v, u, p, e, r, ru, hs, hz => by
    cases r
    simp only [toPyR, Option.some.injEq] at e
    subst e
    cases (show u = Value.none from ru)
    exact .non
  | .bl b, v, u, p, e, r, ru, hs, hz => by
    cases r
    simp only [toPyR, Option.some.injEq] at e
    subst e
    cases (show u = Value.bool b from ru)
    exact .bl b
  | .int i, v, u, p, e, r, ru, hs, hz => by
    cases r
    simp only [toPyR, Option.some.injEq] at e
    subst e
    obtain ⟨t, e2⟩ := (show ∃ t, u = Value.int i t from ru)
    subst e2
    exact .int i t (by simpa [PyData.showable] using hs)
  | .str x, v, u, p, e, r, ru, hs, hz => by
    cases r
    simp only [toPyR, Option.some.injEq] at e
    subst e
    obtain ⟨t, e2⟩ := (show ∃ t, u = Value.str x t from ru)
    subst e2
    exact .str x t (by simpa only [PyData.shown] using hz)
  | .tup ds, v, u, p, e, r, ru, hs, hz => by
    unfold toPyR at e
    split at e
    · rename_i ps hp
      cases e
      obtain ⟨a, vs, e1, h1, h2⟩ := r
      subst e1
      cases (show u = Value.ref a from ru)
      obtain ⟨its, rv, ⟨o, ho, hc, n, hd⟩, _⟩ := I.tuple (sqT_mono sr.le h1)
      refine .tup ho hc hd (shw_DL I sr ds vs its ps hp h2 rv (by simpa [PyData.showable] using hs) fun t ht => ?_)
      exact Nat.le_trans (tupleText_mem_le ht) (by simpa only [PyData.shown] using hz)
    · cases e
  | .lst ds, v, u, p, e, r, ru, hs, hz => by
    unfold toPyR at e
    split at e
    · rename_i ps hp
      cases e
      obtain ⟨a, vs, e1, h1, h2⟩ := r
      subst e1
      cases (show u = Value.ref a from ru)
      obtain ⟨its, rv, ⟨o, n, ho, hc, _, hd⟩, _⟩ := I.list (.of (sr.le _ _ h1))
      refine .lst ho hc hd (shw_DL I sr ds vs its ps hp h2 rv (by simpa [PyData.showable] using hs) fun t ht => ?_)
      exact Nat.le_trans (listText_mem_le ht) (by simpa only [PyData.shown] using hz)
    · cases e
  | .dic ds, v, u, p, e, r, ru, hs, hz => by
    unfold toPyR at e
    split at e
    · rename_i ps hp
      cases e
      obtain ⟨a, kvs, e1, h1, h2⟩ := r
      subst e1
      cases (show u = Value.ref a from ru)
      obtain ⟨z, hd, vs, rel, o, es, ep, ho, hc, hdat, hk, pr, nd⟩ := dk_of I.hok (sr.le _ _ h1)
      have hz' : (dictText (PyData.shownKv ps)).length ≤ sizeLine := by simpa only [PyData.shown] using hz
      obtain ⟨s1, s2⟩ := PyData.showableKv_split ps (by simpa [PyData.showable] using hs)
      refine .dic ho hc.1 hdat hd (keys_shw rel pr h2 hp s1 fun t ht => ?_) (shw_DK I sr ds kvs vs es.toList ps hp h2 rel pr s2 fun t ht => ?_)
      · obtain ⟨q, hq, hl⟩ := PyData.shownKv_key_le ps t ht
        exact Nat.le_trans hl (Nat.le_trans (dictText_mem_le hq) hz')
      · obtain ⟨q, hq, hl⟩ := PyData.shownKv_val_le ps t ht
        exact Nat.le_trans hl (Nat.le_trans (dictText_mem_le hq) hz')
    · cases e
  | .ty _, _, _, _, e, _, _, _, _ => by simp [toPyR] at e
  | .ref _, _, _, _, e, _, _, _, _ => by simp [toPyR] at e
  | .obj _ _, _, _, _, e, _, _, _, _ => by simp [toPyR] at e
  | .cell _, _, _, _, e, _, _, _, _ => by simp [toPyR] at e
  | .scr _, _, _, _, e, _, _, _, _ => by simp [toPyR] at e
theorem shw_DL (I : Inv X pins σ H s) (sr : Sr X.K g cs H) : ∀ (ds : List D) (vs : List V) (us : List Value) (ps : List PyData), toPyRL ds = some ps → RepL X.K g ds vs → Vals vs us → PyData.showableAll ps = true →
    (∀ t ∈ PyData.shownAll ps, t.length ≤ sizeLine) → ShwA X.prog X.w s.heap us ps
  | [], vs, us, ps, e, r, ru, hs, hz => by
    have r' : vs = [] := r
    subst r'
    cases ru
    simp only [toPyRL, Option.some.injEq] at e
    subst e
    exact .nil
  | d :: ds, vs, us, ps, e, r, ru, hs, hz => by
    obtain ⟨v, vr, e1, h1, h2⟩ := r
    subst e1
    cases ru with
    | cons ru1 ru2 =>
      unfold toPyRL at e
      split at e
      · rename_i p hp
        split at e
        · rename_i qs hq
          cases e
          simp only [PyData.showableAll, Bool.and_eq_true] at hs
          simp only [PyData.shownAll] at hz
          exact .cons (shw_D I sr d v _ p hp h1 ru1 hs.1 (hz _ (List.mem_cons_self ..))) (shw_DL I sr ds vr _ qs hq h2 ru2 hs.2 fun t ht => hz t (List.mem_cons_of_mem _ ht))
        · cases e
      · cases e
theorem shw_DK (I : Inv X pins σ H s) (sr : Sr X.K g cs H) : ∀ (ds : List (Key × D)) (kvs : List (Key × V)) (vs : List (Key × Value)) (es : List DictEntry) (ps : List (PyData × PyData)), toPyRK ds = some ps → RepK X.K g ds kvs → KV kvs vs →
    Pairs (mixKind X.prog X.w) es vs → PyData.showableAll (ps.map (·.2)) = true → (∀ t ∈ PyData.shownAll (ps.map (·.2)), t.length ≤ sizeLine) → ShwA X.prog X.w s.heap (es.map (·.val)) (ps.map (·.2))
  | [], kvs, vs, es, ps, e, rk, kv, pr, hs, hz => by
    have e1 : kvs = [] := rk
    subst e1
    cases kv
    cases pr
    simp only [toPyRK, Option.some.injEq] at e
    subst e
    exact .nil
  | (k, d) :: ds, kvs, vs, es, ps, e, rk, kv, pr, hs, hz => by
    obtain ⟨v, r, e1, h1, h2⟩ := rk
    subst e1
    cases kv with
    | cons q kv' =>
      cases pr with
      | cons p1 p2 pr' =>
        unfold toPyRK at e
        split at e
        · rename_i p hp
          split at e
          · rename_i qs hq
            cases e
            simp only [List.map_cons, PyData.showableAll, Bool.and_eq_true] at hs
            simp only [List.map_cons, PyData.shownAll] at hz
            simp only [List.map_cons, p2]
            exact .cons (shw_D I sr d v _ p hp h1 q.2 hs.1 (hz _ (List.mem_cons_self ..))) (shw_DK I sr ds r _ _ qs hq h2 kv' pr' hs.2 fun t ht => hz t (List.mem_cons_of_mem _ ht))
          · cases e
        · cases e
end
end
/-! ### repr of a thing that has an address -/
section
variable {prog : Program} {w : World} {A : Around} {E : Value → Shared → Prop} {s : Shared} {Q : Value → Shared → Prop}
theorem rp_lst {a : Addr} {o : Obj} {vs : Array Value} {n : Nat} {ps : List PyData} (h1 : s.heap.get? a = some o) (h2 : o.cls = .type "list") (h3 : o.data = .seq vs n) (q : ShwA prog w s.heap vs.toList ps)
    (hg : A.guards = some []) (hu : A.units + (PyData.depth (.list ps) + 1) < cLine) (hz : (PyData.shown (.list ps)).length ≤ sizeLine)
    (hQ : ∀ h' u tk, (∀ b o, s.heap.get? b = some o → h'.get? b = some o) → Q (.str (PyData.shown (.list ps)) u) { s with heap := h', toks := tk }) : wpAny (model prog w) A (call (.builtin "repr") [.ref a]) Q E s := by
  obtain ⟨as, bs, r, m, k⟩ := q
  have rr : Reads s.heap (.ref a) (.list ps) _ := .list h1 h2 h3 r
  have hna : a ∉ bs := not_mem_of_deeper rr (by simp only [PyData.depth]; omega) m
  simp only [PyData.depth] at hu
  simp only [PyData.shown] at hQ hz
  refine call_repr_slot (by omega) (T := "list") (idr := "list.__repr__") ⟨o, h1, h2⟩ F.slot_list_repr.toG ?_
  obtain ⟨l⟩ := vs
  cases l with
  | nil =>
    have r' : ReadsAll s.heap [] ps _ := r
    cases r'
    simp only [PyData.shownAll, listText_nil] at hQ
    exact call_list_repr_empty ⟨o, h1, h2⟩ h1 h3 ⟨_, _, rfl, hQ s.heap _ _ fun _ _ e => e⟩
  | cons x l =>
    exact call_list_reprK h1 h2 h3 hna (by simpa using k.length_eq) (fun i y e => k.item i y (by simpa using e)) hg (fun b _ => Clear.nil b) (by show A.units + 1 + _ < cLine; omega) (fun _ _ e => e) (fun h' u tk hk => ⟨_, _, rfl, hQ h' u tk hk⟩) hz
theorem rp_tup {a : Addr} {o : Obj} {vs : Array Value} {n : Nat} {ps : List PyData} (h1 : s.heap.get? a = some o) (h2 : o.cls = .type "tuple") (h3 : o.data = .seq vs n) (q : ShwA prog w s.heap vs.toList ps)
    (hg : A.guards = some []) (hu : A.units + (PyData.depth (.tuple ps) + 1) < cLine) (hz : (PyData.shown (.tuple ps)).length ≤ sizeLine)
    (hQ : ∀ h' u tk, (∀ b o, s.heap.get? b = some o → h'.get? b = some o) → Q (.str (PyData.shown (.tuple ps)) u) { s with heap := h', toks := tk }) : wpAny (model prog w) A (call (.builtin "repr") [.ref a]) Q E s := by
  obtain ⟨as, bs, r, m, k⟩ := q
  have rr : Reads s.heap (.ref a) (.tuple ps) _ := .tuple h1 h2 h3 r
  have hna : a ∉ bs := not_mem_of_deeper rr (by simp only [PyData.depth]; omega) m
  simp only [PyData.depth] at hu
  simp only [PyData.shown] at hQ hz
  refine call_repr_slot (by omega) (T := "tuple") (idr := "tuple.__repr__") ⟨o, h1, h2⟩ F.slot_tuple_repr ?_
  exact call_tuple_reprK h1 h2 h3 hna k hg (fun b _ => Clear.nil b) (by show A.units + 1 + _ < cLine; omega) (fun _ _ e => e) (fun h' u tk hk => ⟨_, _, rfl, hQ h' u tk hk⟩) hz
theorem rp_dic {a : Addr} {o : Obj} {es : Array DictEntry} {n : Nat} {ps : List (PyData × PyData)} (h1 : s.heap.get? a = some o) (h2 : o.cls = .type "dict") (h3 : o.data = .dict es n) (hs : (a == sysModules) = false)
    (q1 : ShwA prog w s.heap (es.toList.map (·.key)) (ps.map (·.1))) (q2 : ShwA prog w s.heap (es.toList.map (·.val)) (ps.map (·.2)))
    (hg : A.guards = some []) (hu : A.units + (PyData.depth (.dict ps) + 1) < cLine) (hz : (PyData.shown (.dict ps)).length ≤ sizeLine)
    (hQ : ∀ h' u tk, (∀ b o, s.heap.get? b = some o → h'.get? b = some o) → Q (.str (PyData.shown (.dict ps)) u) { s with heap := h', toks := tk }) : wpAny (model prog w) A (call (.builtin "repr") [.ref a]) Q E s := by
  obtain ⟨a1, b1, r1, m1, k1⟩ := q1
  obtain ⟨a2, b2, r2, m2, k2⟩ := q2
  have rr : Reads s.heap (.ref a) (.dict ps) _ := .dict h1 h2 h3 r1 r2
  have m : ReadAtMost s.heap (PyData.depthKv ps) (b1 ++ b2) := (m1.mono (PyData.depthAll_keys_le ps)).append (m2.mono (PyData.depthAll_vals_le ps))
  have hna : a ∉ b1 ++ b2 := not_mem_of_deeper rr (by simp only [PyData.depth]; omega) m
  simp only [PyData.depth] at hu
  simp only [PyData.shown, PyData.shownKv_eq] at hQ hz
  refine call_repr_slot (by omega) (T := "dict") (idr := "dict.__repr__") ⟨o, h1, h2⟩ F.slot_dict_repr ?_
  exact call_dict_reprK h1 h2 h3 hs hna (ReprEntriesK.of_two es.toList _ _
    (k1.more_le (fun b hb => List.mem_append_left _ hb) (PyData.depthAll_keys_le ps)) (k2.more_le (fun b hb => List.mem_append_right _ hb) (PyData.depthAll_vals_le ps))) hg (fun b _ => Clear.nil b)
    (by show A.units + 1 + _ < cLine; omega) (fun _ _ e => e) (fun h' u tk hk => ⟨_, _, rfl, hQ h' u tk hk⟩) hz
end
section
variable {X : Cx}
def oReprX : O1 := fun d cs Q => ∃ p, pyR cs d = some p ∧ p.showable = true ∧ p.shown.length ≤ sizeLine ∧ p.depth ≤ 60 ∧ Q (.str p.shown) cs
theorem cd_reprX (hg : X.A.guards = some []) (hu : X.A.units + 64 < cLine) : CallD X (.builtin "repr") (o1 oReprX) := cd1 (fun d cs Q Q' h ⟨p, e1, e2, e3, e4, q⟩ => ⟨p, e1, e2, e3, e4, h _ _ q⟩) fun pins s σ H x u Q g cs d I ru rv sr r ⟨p, e1, e2, e3, e4, q⟩ => by
  have fin : ∀ h' t tk, (∀ b o, s.heap.get? b = some o → h'.get? b = some o) → EP X pins σ Q (.str p.shown t) { s with heap := h', toks := tk } := fun h' t tk hk => ⟨.str p.shown, H, I.kept hk, ⟨t, rfl⟩, q g H _ (Ext.refl g) sr rfl⟩
  have lst : ∀ (a : Addr) (ds : List D) (vs : List V) (ps : List PyData), u = .ref a → H a = some (.lst vs) → RepL X.K g ds vs → toPyRL ds = some ps → p = .list ps → wpAny (model X.prog X.w) X.A (call (.builtin "repr") [u]) (EP X pins σ Q) X.xe s := by
    intro a ds vs ps eu h1 h2 h3 ep
    subst ep eu
    obtain ⟨its, rv', ⟨o, n, ho, hc, _, hd⟩, _⟩ := I.list (.of h1)
    have hz : ∀ t ∈ PyData.shownAll ps, t.length ≤ sizeLine := fun t ht => Nat.le_trans (listText_mem_le ht) (by simpa only [PyData.shown] using e3)
    exact rp_lst ho hc hd (shw_DL I sr ds vs its ps h3 h2 rv' (by simpa [PyData.showable] using e2) hz) hg (by omega) e3 fin
  cases d with
  | non =>
    cases r
    cases (show u = Value.none from ru)
    simp only [pyR, toPyR, Option.some.injEq] at e1
    subst e1
    exact PySem.P.repr_of_none (by simpa only [PyData.shown] using fin s.heap s.toks (s.toks + 1) fun _ _ e => e)
  | bl b =>
    cases r
    cases (show u = Value.bool b from ru)
    simp only [pyR, toPyR, Option.some.injEq] at e1
    subst e1
    exact PySem.P.repr_of_bool (by simpa only [PyData.shown] using fin s.heap s.toks (s.toks + 1) fun _ _ e => e)
  | int i =>
    cases r
    obtain ⟨t, rfl⟩ := (show ∃ t, u = Value.int i t from ru)
    simp only [pyR, toPyR, Option.some.injEq] at e1
    subst e1
    exact PySem.P.repr_of_int (by simpa [PyData.showable] using e2) (by simpa only [PyData.shown] using fin s.heap s.toks (s.toks + 1) fun _ _ e => e)
  | str y =>
    cases r
    obtain ⟨t, rfl⟩ := (show ∃ t, u = Value.str y t from ru)
    simp only [pyR, toPyR, Option.some.injEq] at e1
    subst e1
    exact PySem.P.repr_of_str (by simpa only [PyData.shown] using fin s.heap s.toks (s.toks + 1) fun _ _ e => e) (by simpa only [PyData.shown] using e3)
  | tup ds =>
    replace e1 : toPyR (.tup ds) = some p := e1
    unfold toPyR at e1
    split at e1
    · rename_i ps hp
      cases e1
      obtain ⟨a, vs, e5, h1, h2⟩ := r
      subst e5
      cases (show u = Value.ref a from ru)
      obtain ⟨its, rv', ⟨o, ho, hc, n, hd⟩, _⟩ := I.tuple (sqT_mono sr.le h1)
      have hz : ∀ t ∈ PyData.shownAll ps, t.length ≤ sizeLine := fun t ht => Nat.le_trans (tupleText_mem_le ht) (by simpa only [PyData.shown] using e3)
      exact rp_tup ho hc hd (shw_DL I sr ds vs its ps hp h2 rv' (by simpa [PyData.showable] using e2) hz) hg (by omega) e3 fin
    · cases e1
  | lst ds =>
    replace e1 : toPyR (.lst ds) = some p := e1
    unfold toPyR at e1
    split at e1
    · rename_i ps hp
      obtain ⟨a, vs, e5, h1, h2⟩ := r
      subst e5
      exact lst a ds vs ps ru (sr.le _ _ h1) h2 hp (Option.some.inj e1).symm
    · cases e1
  | dic ds =>
    replace e1 : toPyR (.dic ds) = some p := e1
    unfold toPyR at e1
    split at e1
    · rename_i ps hp
      cases e1
      obtain ⟨a, kvs, e5, h1, h2⟩ := r
      subst e5
      cases (show u = Value.ref a from ru)
      obtain ⟨z, hd, vs, rel, o, es, ep, ho, hc, hdat, hk, pr, nd⟩ := dk_of I.hok (sr.le _ _ h1)
      have hz' : (dictText (PyData.shownKv ps)).length ≤ sizeLine := by simpa only [PyData.shown] using e3
      obtain ⟨s1, s2⟩ := PyData.showableKv_split ps (by simpa [PyData.showable] using e2)
      refine rp_dic ho hc.1 hdat hd (keys_shw rel pr h2 hp s1 fun t ht => ?_) (shw_DK I sr ds kvs vs es.toList ps hp h2 rel pr s2 fun t ht => ?_) hg (by omega) e3 fin
      · obtain ⟨q, hq, hl⟩ := PyData.shownKv_key_le ps t ht
        exact Nat.le_trans hl (Nat.le_trans (dictText_mem_le hq) hz')
      · obtain ⟨q, hq, hl⟩ := PyData.shownKv_val_le ps t ht
        exact Nat.le_trans hl (Nat.le_trans (dictText_mem_le hq) hz')
    · cases e1
  | cell i =>
    unfold pyR at e1
    simp only at e1
    split at e1
    · rename_i ds hc
      split at e1
      · rename_i ps hp
        obtain ⟨a, vs, e5, h1, h2⟩ := lst_of sr (d := .cell i) (ds := ds) (by simp [lstOf, hc]) r
        subst e5
        obtain ⟨its, rv', ⟨o, n, ho, hc, _, hd⟩, _⟩ := I.list h1
        cases (show u = Value.ref a from ru)
        cases e1
        have hz : ∀ t ∈ PyData.shownAll ps, t.length ≤ sizeLine := fun t ht => Nat.le_trans (listText_mem_le ht) (by simpa only [PyData.shown] using e3)
        exact rp_lst ho hc hd (shw_DL I sr ds vs its ps hp h2 rv' (by simpa [PyData.showable] using e2) hz) hg (by omega) e3 fin
      · cases e1
    · cases e1
  | ty _ => simp [pyR, toPyR] at e1
  | ref _ => simp [pyR, toPyR] at e1
  | obj _ _ => simp [pyR, toPyR] at e1
  | scr _ => simp [pyR, toPyR] at e1
end
end DL

/-! DDisp: dict displays. -/
namespace DL
open PySem PySem.Spec PyProof.Rows L2
def keyD : D → Option Key
  | .int i => some (.inl i)
  | .str x => some (.inr x)
  | _ => none
def keysD : List (D × D) → Option (List (Key × D))
  | [] => some []
  | (k, d) :: r => match keyD k with
    | some k => match keysD r with
      | some ks => some ((k, d) :: ks)
      | none => none
    | none => none
section
variable (K : PySem.W.Frag) (g : G)
def RPs : List (D × D) → List (V × V) → Prop
  | [], vs => vs = []
  | (k, d) :: r, vs => ∃ x y t, vs = (x, y) :: t ∧ Rep K g k x ∧ Rep K g d y ∧ RPs r t
end
theorem mergeK_nodup : ∀ (ks pre : List (Key × V)), ((pre ++ ks).map (·.1)).Nodup → mergeK pre ks = pre ++ ks
  | [], pre, _ => by simp [mergeK]
  | (k, v) :: r, pre, h => by
    have hk : (pre.any fun kv => decide (kv.1 = k)) = false := by
      rw [List.any_eq_false]
      intro x hx e
      have e' : x.1 = k := by simpa using e
      rw [List.map_append, List.nodup_append] at h
      exact h.2.2 x.1 (List.mem_map.mpr ⟨x, hx, rfl⟩) k (List.mem_map.mpr ⟨(k, v), List.mem_cons_self, rfl⟩) e'
    have e : putK pre k v = pre ++ [(k, v)] := by
      unfold putK
      rw [hk]
      rfl
    have q := mergeK_nodup r (pre ++ [(k, v)]) (by simpa [List.append_assoc] using h)
    show mergeK (putK pre k v) r = _
    rw [e, q, List.append_assoc]
    rfl
section
variable {K : PySem.W.Frag} {g g' : G}
theorem RPs.mono (e : Ext g g') : ∀ {ps : List (D × D)} {vs : List (V × V)}, RPs K g ps vs → RPs K g' ps vs
  | [], _, h => h
  | (k, d) :: r, _, ⟨x, y, t, e1, h1, h2, h3⟩ => ⟨x, y, t, e1, h1.mono e, h2.mono e, RPs.mono e h3⟩
theorem rps_keys : ∀ {ps : List (D × D)} {vs : List (V × V)} {ks : List (Key × D)}, RPs K g ps vs → keysD ps = some ks → ∃ kvs : List (Key × V), vs = kvs.map (fun kv => (kV kv.1, kv.2)) ∧ RepK K g ks kvs ∧ kvs.map (·.1) = ks.map (·.1)
  | [], _, ks, h, e => by
    have h' : _ = [] := h
    subst h'
    simp only [keysD, Option.some.injEq] at e
    subst e
    exact ⟨[], rfl, rfl, rfl⟩
  | (k, d) :: r, _, ks, ⟨x, y, t, e1, h1, h2, h3⟩, e => by
    subst e1
    unfold keysD at e
    split at e
    · rename_i k' hk
      split at e
      · rename_i ks' hks
        cases e
        obtain ⟨kvs, q1, q2, q3⟩ := rps_keys h3 hks
        refine ⟨(k', y) :: kvs, ?_, ⟨y, kvs, rfl, h2, q2⟩, by simp [q3]⟩
        have ek : x = kV k' := by
          cases k with
          | int i => cases h1; cases hk; rfl
          | str s => cases h1; cases hk; rfl
          | _ => simp [keyD] at hk
        rw [ek, q1]
        rfl
      · cases e
    · cases e
end
abbrev WPr := En → Sto → (List (D × D) → Sto → Prop) → Prop
def wPr0 : WPr := fun _ cs Q => Q [] cs
def wPr1 (wk wv : WE) (wr : WPr) : WPr := fun env cs Q => wk env cs fun k cs1 => wv env cs1 fun v cs2 => wr env cs2 fun ps cs3 => Q ((k, v) :: ps) cs3
structure DPr (X : Cx) (pos : Pos) (keys : List (Option Expr)) (values : List Expr) (w : WPr) : Prop where
  ex : ∃ trs, PPs X pos keys values trs ∧ ∀ (g : G) (cs : Sto) (env : En) (σ : L2.St) (H : Hp) (P : List (D × D) → Sto → Prop) (R : List (V × V) → Hp → Prop), Sr X.K g cs H → Lr X.K g env σ → w env cs P →
    (∀ ps cs' g' H' vs, P ps cs' → Ext g g' → Sr X.K g' cs' H' → RPs X.K g' ps vs → R vs H') → tPairs trs σ H R
  mo : ∀ env cs Q Q', (∀ ds cs, Q ds cs → Q' ds cs) → w env cs Q → w env cs Q'
theorem dpr_nil {X : Cx} {pos : Pos} : DPr X pos [] [] wPr0 := ⟨⟨[], pps_nil, fun g cs env σ H P R s l h k => k _ _ g H [] h (Ext.refl g) s rfl⟩, fun _ cs _ _ h q => h _ _ q⟩
theorem dpr_cons {X : Cx} {pos : Pos} {k v : Expr} {ks : List (Option Expr)} {vs : List Expr} {wk wv : WE} {wr : WPr} (hk : DE X k wk) (hv : DE X v wv) (hr : DPr X pos ks vs wr) : DPr X pos (some k :: ks) (v :: vs) (wPr1 wk wv wr) := by
  obtain ⟨⟨trs, pr, go⟩, mr⟩ := hr
  refine ⟨⟨(lowE X.K wk, lowE X.K wv) :: trs, pps_cons hk.pe hv.pe pr, fun g cs env σ H P R s l h c => ?_⟩, fun env cs Q Q' hq q => hk.mo _ _ _ _ (fun _ _ q => hv.mo _ _ _ _ (fun _ _ q => mr _ _ _ _ (fun _ _ q => hq _ _ q) q) q) q⟩
  refine lowE.go hk.mo s l h fun d1 cs1 g1 H1 v1 h1 e1 s1 r1 => ?_
  refine lowE.go hv.mo s1 (l.mono e1) h1 fun d2 cs2 g2 H2 v2 h2 e2 s2 r2 => ?_
  refine go g2 cs2 env σ H2 _ _ s2 ((l.mono e1).mono e2) h2 fun ps cs3 g3 H3 vs h3 e3 s3 r3 => ?_
  exact c _ _ g3 H3 _ h3 ((e1.trans e2).trans e3) s3 ⟨v1, v2, vs, rfl, (r1.mono e2).mono e3, r2.mono e3, r3⟩
def wDic (w : WPr) : WE := fun env cs Q => w env cs fun ps cs' => bindP (keysD ps) fun ks => ((ks.map (·.1)).Nodup ∧ ks.length ≤ 15) ∧ Q (.dic ks) cs'
def wDic0 : WE := fun _ cs Q => Q (.dic []) cs
theorem de_dic0 {X : Cx} {pos : Pos} : DE X (.Dict [] [] pos) wDic0 := by
  refine ⟨PE.imp pe_dnewK fun σ H Q ⟨g, cs, env, s, l, h⟩ p hp => ?_, fun _ cs _ _ h q => h _ _ q⟩
  exact h (g.add p (.dK [])) _ _ (Ext.add s hp _) (s.add hp _) ⟨p, [], rfl, add_at, rfl⟩
theorem de_dic {X : Cx} {pos : Pos} {keys : List (Option Expr)} {values : List Expr} {w : WPr} (h : DPr X pos keys values w) (hall : keys.all (·.isSome) = true := by rfl) (hl : keys.length = values.length := by rfl) (h0 : keys ≠ [] := by simp)
    (h15 : keys.length ≤ 15 := by decide) : DE X (.Dict keys values pos) (wDic w) := by
  obtain ⟨⟨trs, pr, go⟩, mo⟩ := h
  refine ⟨PE.imp (pe_disp pr hall hl h0 h15) fun σ H Q ⟨g, cs, env, s, l, h⟩ p hp => ?_, fun env cs Q Q' hq q => mo _ _ _ _ (fun _ _ q => bindP_mo (fun ks q => ⟨q.1, hq _ _ q.2⟩) q) q⟩
  have s1 := s.hold hp (.dK [])
  have sb : Sub g (g.hold p (.dK [])) := ⟨fun _ _ h => h, ⟨[], by simp [G.hold]⟩⟩
  have l1 : Lr X.K (g.hold p (.dK [])) env σ := ⟨l.len, fun i d h => by
    obtain ⟨v, q1, q2⟩ := l.ok i d h
    exact ⟨v, q1, Rep.sub sb _ _ q2⟩⟩
  refine go _ cs env σ _ _ _ s1 l1 h fun ps cs2 g2 H2 vs h2 e2 s2 r2 => ?_
  have er : g2.rs = (p, .dK []) :: g.rs := by rw [e2.r]; rfl
  obtain ⟨q1, q2, q3⟩ := s2.rs (p, .dK []) (by rw [er]; exact List.mem_cons_self)
  unfold bindP at h2
  split at h2
  · rename_i ks hks
    obtain ⟨⟨nd, z⟩, h3⟩ := h2
    obtain ⟨kvs, f1, f2, f3⟩ := rps_keys r2 hks
    have hlen : kvs.length = ks.length := by rw [← List.length_map (f := (·.1)) (as := kvs), f3, List.length_map]
    have em : mergeK [] kvs = kvs := mergeK_nodup kvs [] (by rw [List.nil_append, f3]; exact nd)
    refine ⟨q1, kvs, f1, by omega, ?_⟩
    rw [em]
    have s3 := (s2.rehold (o' := .dK kvs) er).unhold rfl
    have sz : ∀ a o, g2.Z a = some o → upd g2.Z p (.dK kvs) a = some o := fun a o ha => by
      rw [upd_ne (ne_of_none ha q2)]
      exact ha
    refine h3 { g2 with Z := upd g2.Z p (.dK kvs), rs := g.rs } _ _ ⟨fun a o ha => sz _ _ (e2.z a o ha), e2.a, rfl⟩ s3 ⟨p, kvs, rfl, upd_same, ?_⟩
    exact f2.sub' ⟨sz, ⟨[], by simp⟩⟩
  · exact h2.elim
/-! ### a < b < c, str(i) -/
theorem lowO.go {K : PySem.W.Frag} {g : G} {cs : Sto} {H : Hp} {o : O2} {d1 d2 : D} {x y : V} {P : PD} {R : VK} (mo : ∀ d1 d2 cs Q Q', (∀ d cs, Q d cs → Q' d cs) → o d1 d2 cs Q → o d1 d2 cs Q') (s : Sr K g cs H) (r1 : Rep K g d1 x) (r2 : Rep K g d2 y) (h : o d1 d2 cs P)
    (k : ∀ d cs' g' H' v, P d cs' → Ext g g' → Sr K g' cs' H' → Rep K g' d v → R v H') : lowO K o x y H R :=
  ⟨g, cs, d1, d2, s, r1, r2, mo _ _ _ _ _ (fun d cs' q g' H' v e s' r => k d cs' g' H' v q e s' r) h⟩
def boolP (d : D) (k : Bool → Prop) : Prop := match d with
  | .bl b => k b
  | _ => False
theorem boolP_mo {d : D} {k k' : Bool → Prop} (h : ∀ b, k b → k' b) (q : boolP d k) : boolP d k' := by
  cases d with
  | bl b => exact h b q
  | _ => exact q.elim
def wChain (o o' : O2) (wa wb wc : WE) : WE := fun env cs Q => wa env cs fun x cs1 => wb env cs1 fun y cs2 => o x y cs2 fun z cs3 => boolP z fun k => if k = true then wc env cs3 fun w cs4 => o' y w cs4 Q else Q (.bl false) cs3
theorem de_chain {X : Cx} {op op' : CmpOp} {o o' : O2} {a b c : Expr} {wa wb wc : WE} {pos : Pos} (ho : OpD X (compareOp op) o) (ho' : OpD X (compareOp op') o') (ha : DE X a wa) (hb : DE X b wb) (hc : DE X c wc)
    (hm : lastMarks [op, op'] [b, c] = false := by with_unfolding_all rfl) : DE X (.Compare a [op, op'] [b, c] pos) (wChain o o' wa wb wc) := by
  refine ⟨PE.imp (pe_chain ho.op ho'.op ha.pe hb.pe hc.pe hm) fun σ H Q ⟨g, cs, env, s, l, h⟩ => ?_, fun env cs Q Q' hq q => ?_⟩
  · refine lowE.go ha.mo s l h fun d1 cs1 g1 H1 v1 h1 e1 s1 r1 => ?_
    refine lowE.go hb.mo s1 (l.mono e1) h1 fun d2 cs2 g2 H2 v2 h2 e2 s2 r2 => ?_
    refine lowO.go ho.mo s2 (r1.mono e2) r2 h2 fun z cs3 g3 H3 v3 h3 e3 s3 r3 => ?_
    cases z with
    | bl k =>
      cases r3
      refine ⟨k, rfl, ?_⟩
      have h3' : if k = true then wc env cs3 fun w cs4 => o' d2 w cs4 (upV X.K g Q) else upV X.K g Q (.bl false) cs3 := h3
      cases k with
      | true =>
        rw [if_pos rfl] at h3' ⊢
        refine lowE.go hc.mo s3 (((l.mono e1).mono e2).mono e3) h3' fun d4 cs4 g4 H4 v4 h4 e4 s4 r4 => ?_
        refine lowO.go ho'.mo s4 ((r2.mono e3).mono e4) r4 h4 fun d5 cs5 g5 H5 v5 h5 e5 s5 r5 => ?_
        exact h5 g5 H5 v5 ((((e1.trans e2).trans e3).trans e4).trans e5) s5 r5
      | false =>
        rw [if_neg (by decide)] at h3' ⊢
        exact h3' g3 H3 _ ((e1.trans e2).trans e3) s3 rfl
    | _ => exact (show False from h3).elim
  · refine ha.mo _ _ _ _ (fun _ _ q => hb.mo _ _ _ _ (fun _ _ q => ho.mo _ _ _ _ _ (fun _ _ q => boolP_mo (fun k q => ?_) q) q) q) q
    cases k with
    | true =>
      rw [if_pos rfl] at q ⊢
      exact hc.mo _ _ _ _ (fun _ _ q => ho'.mo _ _ _ _ _ hq q) q
    | false =>
      rw [if_neg (by decide)] at q ⊢
      exact hq _ _ q
def oStr : O1 := fun d cs Q => match d with
  | .int i => i.natAbs.log2 < 1920 ∧ Q (.str (toString i)) cs
  | _ => False
theorem cd_str {X : Cx} : CallD X (.type "str") (o1 oStr) := cd1 (fun d cs Q Q' h q => by
    unfold oStr at q ⊢
    split at q
    · exact ⟨q.1, h _ _ q.2⟩
    · exact q) fun pins s σ H x u Q g cs d I ru rv sr r q => by
  unfold oStr at q
  split at q
  · cases r
    exact call_str_int pins s σ H _ _ Q I rv ⟨_, rfl, q.1, q.2 g H _ (Ext.refl g) sr rfl⟩
  · exact q.elim
/-! ### how they are evaluated -/
section
variable {env : En} {cs : Sto} {Q : PD}
def strD : D → Option (Prop × D)
  | .int i => some (i.natAbs.log2 < 1920, .str (toString i))
  | _ => none
theorem oStr_eq (d : D) : oStr d cs Q = bindP (strD d) fun p => p.1 ∧ Q p.2 cs := by
  cases d <;> rfl
def reprX (cs : Sto) (d : D) : Option (Prop × Str) := (pyR cs d).map fun p => (p.showable = true ∧ p.shown.length ≤ sizeLine ∧ p.depth ≤ 60, p.shown)
theorem oReprX_eq (d : D) : oReprX d cs Q = bindP (reprX cs d) fun p => p.1 ∧ Q (.str p.2) cs := by
  unfold oReprX reprX
  cases e : pyR cs d with
  | none =>
    simp only [Option.map_none, bindP_none, eq_iff_iff, iff_false]
    rintro ⟨p, e1, _⟩
    cases e1
  | some p =>
    simp only [Option.map_some, bindP_some, eq_iff_iff]
    constructor
    · rintro ⟨q, e1, e2, e3, e4, e5⟩
      cases e1
      exact ⟨⟨e2, e3, e4⟩, e5⟩
    · rintro ⟨⟨e2, e3, e4⟩, e5⟩
      exact ⟨p, rfl, e2, e3, e4, e5⟩
theorem wPr0_eq (Q : List (D × D) → Sto → Prop) : wPr0 env cs Q = Q [] cs := (rfl)
theorem wPr1_eq (wk wv : WE) (wr : WPr) (Q : List (D × D) → Sto → Prop) : wPr1 wk wv wr env cs Q = wk env cs fun k cs1 => wv env cs1 fun v cs2 => wr env cs2 fun ps cs3 => Q ((k, v) :: ps) cs3 := (rfl)
theorem wDic_eq (w : WPr) : wDic w env cs Q = w env cs fun ps cs' => bindP (keysD ps) fun ks => ((ks.map (·.1)).Nodup ∧ ks.length ≤ 15) ∧ Q (.dic ks) cs' := (rfl)
theorem wDic0_eq : wDic0 env cs Q = Q (.dic []) cs := (rfl)
theorem wChain_eq (o o' : O2) (wa wb wc : WE) : wChain o o' wa wb wc env cs Q = wa env cs fun x cs1 => wb env cs1 fun y cs2 => o x y cs2 fun z cs3 => bindP (blD z) fun k => cond2 k (wc env cs3 fun w cs4 => o' y w cs4 Q) (Q (.bl false) cs3) := by
  unfold wChain
  congr
  funext x cs1
  congr
  funext y cs2
  congr
  funext z cs3
  cases z <;> rfl
end
mutual
theorem toPyR_of : ∀ (d : D) (p : PyData), toPy d = some p → toPyR d = some p
  | .non, p, e => e
  | .bl b, p, e => e
  | .int i, p, e => e
  | .str x, p, e => e
  | .tup ds, p, e => by
    unfold toPy at e
    split at e
    · rename_i ps hp
      unfold toPyR
      rw [toPyRL_of ds ps hp]
      exact e
    · cases e
  | .lst ds, p, e => by
    unfold toPy at e
    split at e
    · rename_i ps hp
      unfold toPyR
      rw [toPyRL_of ds ps hp]
      exact e
    · cases e
  | .ty _, _, e => by simp [toPy] at e
  | .ref _, _, e => by simp [toPy] at e
  | .dic _, _, e => by simp [toPy] at e
  | .obj _ _, _, e => by simp [toPy] at e
  | .cell _, _, e => by simp [toPy] at e
  | .scr _, _, e => by simp [toPy] at e
theorem toPyRL_of : ∀ (ds : List D) (ps : List PyData), toPyL ds = some ps → toPyRL ds = some ps
  | [], ps, e => e
  | d :: ds, ps, e => by
    unfold toPyL at e
    split at e
    · rename_i p hp
      split at e
      · rename_i qs hq
        unfold toPyRL
        rw [toPyR_of d p hp, toPyRL_of ds qs hq]
        exact e
      · cases e
    · cases e
end
theorem reprX_of {cs : Sto} {d : D} {r : Prop × Str} (h : reprD cs d = some r) : reprX cs d = some r := by
  unfold reprD at h
  cases e : pyOf cs d with
  | none =>
    rw [e] at h
    cases h
  | some p =>
    have e2 : pyR cs d = some p := by
      cases d with
      | cell i =>
        unfold pyOf at e
        unfold pyR
        simp only at e ⊢
        split at e
        · rename_i ds hc
          split at e
          · rename_i ps hp
            simp only [hc, toPyRL_of ds ps hp]
            exact e
          · cases e
        · cases e
      | _ => exact toPyR_of _ p e
    rw [e] at h
    unfold reprX
    rw [e2]
    exact h
/-! ### what is no number, no list, no tuple -/
theorem kB_non_int : kitB "NoneType" "int" = some false := by decide +kernel
theorem kB_str_int : kitB "str" "int" = some false := by decide +kernel
theorem kB_tup_int : kitB "tuple" "int" = some false := by decide +kernel
theorem kB_lst_int : kitB "list" "int" = some false := by decide +kernel
theorem kB_dic_int : kitB "dict" "int" = some false := by decide +kernel
theorem kB_non_lt : kitAnyB "NoneType" [.ty "list", .ty "tuple"] = some false := by decide +kernel
theorem kB_str_lt : kitAnyB "str" [.ty "list", .ty "tuple"] = some false := by decide +kernel
theorem kB_int_lt : kitAnyB "int" [.ty "list", .ty "tuple"] = some false := by decide +kernel
theorem kB_bool_lt : kitAnyB "bool" [.ty "list", .ty "tuple"] = some false := by decide +kernel
theorem kB_dic_lt : kitAnyB "dict" [.ty "list", .ty "tuple"] = some false := by decide +kernel
/-! ### a list, whatever is in it, asked whether it is [] -/
def oEqE (neg : Bool) : O2 := fun d1 d2 cs Q => match d2 with
  | .lst [] => ∃ ds, lstOf cs d1 = some ds ∧ Q (.bl (if neg = true then !ds.isEmpty else ds.isEmpty)) cs
  | _ => False
theorem oEqE.mo {neg : Bool} : ∀ d1 d2 cs Q Q', (∀ d cs, Q d cs → Q' d cs) → oEqE neg d1 d2 cs Q → oEqE neg d1 d2 cs Q' := fun d1 d2 cs Q Q' h q => by
  unfold oEqE at q ⊢
  split at q
  · exact bex (fun ds q => ⟨q.1, h _ _ q.2⟩) q
  · exact q.elim
where bex {α : Type} {p q : α → Prop} (h : ∀ a, p a → q a) : (∃ a, p a) → ∃ a, q a := fun ⟨a, x⟩ => ⟨a, h a x⟩
def emD (cs : Sto) (neg : Bool) (d1 d2 : D) : Option D := match d2 with
  | .lst [] => (lstOf cs d1).map fun ds => .bl (if neg = true then !ds.isEmpty else ds.isEmpty)
  | _ => none
theorem oEqE_eq {cs : Sto} {Q : PD} (neg : Bool) (d1 d2 : D) : oEqE neg d1 d2 cs Q = bindP (emD cs neg d1 d2) fun d => Q d cs := by
  unfold oEqE emD
  cases d2 with
  | lst ds =>
    cases ds with
    | nil =>
      simp only
      cases e : lstOf cs d1 with
      | none =>
        simp only [Option.map_none, bindP_none, eq_iff_iff, iff_false]
        rintro ⟨ds, e1, _⟩
        cases e1
      | some ds =>
        simp only [Option.map_some, bindP_some, eq_iff_iff]
        exact ⟨fun ⟨es, e1, q⟩ => by cases e1; exact q, fun q => ⟨ds, rfl, q⟩⟩
    | cons d ds => rfl
  | _ => rfl
section
variable {X : Cx}
theorem em_ne {its : List Value} {ds : List D} (h : ds.length = its.length) : ((#[] : Array Value).size != its.toArray.size) = !ds.isEmpty := by
  cases its with
  | nil =>
    cases ds with
    | nil => rfl
    | cons d ds => cases h
  | cons v vs =>
    cases ds with
    | nil => cases h
    | cons d ds => simp
theorem opd_eqE (hu : X.A.units + 64 < cLine) : OpD X (compareOp .Eq) (oEqE false) := .mk' oEqE.mo fun pins s σ H x y v u Q g cs d1 d2 I rx ry sr r1 r2 z => by
  unfold oEqE at z
  split at z
  · obtain ⟨ds, e, q⟩ := z
    obtain ⟨p, vs, e1, h1, h2⟩ := lst_of sr e r1
    obtain ⟨b, us, e2, h3, h4⟩ := r2
    have h5 : us = [] := h4
    subst e1 e2 h5
    cases (show v = Value.ref p from rx)
    cases (show u = Value.ref b from ry)
    obtain ⟨its, rv, hl, _⟩ := I.list h1
    obtain ⟨its2, rv2, hl2, _⟩ := I.list (.of (sr.le _ _ h3))
    cases rv2
    have hn : ds.length = its.length := h2.length.trans rv.length
    cases ds with
    | nil =>
      have hi : its = [] := List.length_eq_zero_iff.mp hn.symm
      subst hi
      exact SeqAt.eq_listAt (e := fun _ => true) hl.isList hl2.isList rfl (by omega) (fun j h _ => absurd h (Nat.not_lt_zero j)) ⟨.bl true, H, I, rfl, q g H _ (Ext.refl g) sr rfl⟩
    | cons d ds =>
      cases its with
      | nil => cases hn
      | cons w ws => exact SeqAt.eq_list_lengthsAt hl.isList hl2.isList (by simp) (by omega) ⟨.bl false, H, I, rfl, q g H _ (Ext.refl g) sr rfl⟩
  · exact z.elim
theorem opd_neE (hu : X.A.units + 64 < cLine) : OpD X (compareOp .NotEq) (oEqE true) := .mk' oEqE.mo fun pins s σ H x y v u Q g cs d1 d2 I rx ry sr r1 r2 z => by
  unfold oEqE at z
  split at z
  · obtain ⟨ds, e, q⟩ := z
    obtain ⟨p, vs, e1, h1, h2⟩ := lst_of sr e r1
    obtain ⟨b, us, e2, h3, h4⟩ := r2
    have h5 : us = [] := h4
    subst e1 e2 h5
    cases (show v = Value.ref p from rx)
    cases (show u = Value.ref b from ry)
    obtain ⟨its, rv, hl, _⟩ := I.list h1
    obtain ⟨its2, rv2, hl2, _⟩ := I.list (.of (sr.le _ _ h3))
    cases rv2
    have hn : ds.length = its.length := h2.length.trans rv.length
    cases ds with
    | nil =>
      have hi : its = [] := List.length_eq_zero_iff.mp hn.symm
      subst hi
      exact SeqAt.RcNeAt.lists (e := fun _ => true) hl.isList hl2.isList rfl (by omega) (fun j h _ => absurd h (Nat.not_lt_zero j)) _ _ _ _ ⟨.bl false, H, I, rfl, q g H _ (Ext.refl g) sr rfl⟩
    | cons d ds =>
      cases its with
      | nil => cases hn
      | cons w ws => exact SeqAt.RcNeAt.lists_lengths hl.isList hl2.isList (by simp) (by omega) _ _ _ _ ⟨.bl true, H, I, rfl, q g H _ (Ext.refl g) sr rfl⟩
  · exact z.elim
end
end DL

/-! DShow: what repr shows of any data, bounded by parts. -/
namespace DL
open PySem PySem.Spec PyProof.Rows L2
/-- m: how long an int's text is at most; w: the weight; k: the depth -/
structure RX (m w k : Nat) (d : D) : Prop where
  h : ∃ p, toPyR d = some p ∧ p.showable = true ∧ p.leavesShort m = true ∧ p.weight ≤ w ∧ p.depth ≤ k
structure RXL (m w k : Nat) (ds : List D) : Prop where
  h : ∃ ps, toPyRL ds = some ps ∧ PyData.showableAll ps = true ∧ PyData.leavesShortAll m ps = true ∧ PyData.weightAll ps ≤ w ∧ PyData.depthAll ps ≤ k
section
variable {m w k : Nat}
theorem RX.mono {w' k' : Nat} {d : D} (h : RX m w k d) (hw : w ≤ w') (hk : k ≤ k') : RX m w' k' d := by
  obtain ⟨p, e, a, b, c, f⟩ := h.h
  exact ⟨p, e, a, b, Nat.le_trans c hw, Nat.le_trans f hk⟩
theorem RXL.mono {w' k' : Nat} {d : List D} (h : RXL m w k d) (hw : w ≤ w') (hk : k ≤ k') : RXL m w' k' d := by
  obtain ⟨p, e, a, b, c, f⟩ := h.h
  exact ⟨p, e, a, b, Nat.le_trans c hw, Nat.le_trans f hk⟩
theorem RX.non : RX m w k .non := ⟨_, rfl, rfl, rfl, by simp [PyData.weight], by simp [PyData.depth]⟩
theorem RX.bl (b : Bool) : RX m w k (.bl b) := ⟨_, rfl, by simp [PyData.showable], by simp [PyData.leavesShort], by simp [PyData.weight], by simp [PyData.depth]⟩
theorem RX.int {n : Nat} {i : Int} (h : Bd n i) (hm : n + 1 ≤ m) (hw : n ≤ w) (hn : n ≤ 1920) (h0 : 1 ≤ n) : RX m w k (.int i) := by
  have hl : i.natAbs.log2 < n := by
    by_cases h0 : i.natAbs = 0
    · rw [h0]; exact Nat.lt_of_lt_of_le (by decide : Nat.log2 0 < 1) (by omega)
    · exact (Nat.log2_lt h0).mpr h
  refine ⟨.int i, rfl, ?_, ?_, ?_, by simp [PyData.depth]⟩
  · simp only [PyData.showable, decide_eq_true_eq]
    omega
  · have e1 := int_text_length_le (a := i) (k := n) h0 hl
    simp only [PyData.leavesShort, decide_eq_true_eq]
    show (Str.ofString (toString i)).length ≤ m
    rw [PySem.ofString_length]
    omega
  · simp only [PyData.weight]
    split <;> omega
theorem RX.str {x : Str} (h : ∀ c ∈ x.cps.toList, c < 16 ^ 8) (hw : x.cps.size ≤ w) : RX m w k (.str x) :=
  ⟨.str x, rfl, by simp [PyData.showable], by simp only [PyData.leavesShort, List.all_eq_true, decide_eq_true_eq]; exact h, by simpa [PyData.weight] using hw, by simp [PyData.depth]⟩
theorem RX.lst {ds : List D} (h : RXL m w k ds) : RX m w (k + 1) (.lst ds) := by
  obtain ⟨ps, e, a, b, c, f⟩ := h.h
  refine ⟨.list ps, by simp only [toPyR, e], by simpa [PyData.showable] using a, by simpa [PyData.leavesShort] using b, by simpa [PyData.weight] using c, ?_⟩
  simp only [PyData.depth]
  omega
theorem RX.tup {ds : List D} (h : RXL m w k ds) : RX m w (k + 1) (.tup ds) := by
  obtain ⟨ps, e, a, b, c, f⟩ := h.h
  refine ⟨.tuple ps, by simp only [toPyR, e], by simpa [PyData.showable] using a, by simpa [PyData.leavesShort] using b, by simpa [PyData.weight] using c, ?_⟩
  simp only [PyData.depth]
  omega
theorem RXL.nil : RXL m w k [] := ⟨[], rfl, rfl, rfl, by simp [PyData.weightAll], by simp [PyData.depthAll]⟩
theorem RXL.cons {w1 w2 : Nat} {d : D} {ds : List D} (h : RX m w1 k d) (t : RXL m w2 k ds) : RXL m (w1 + 1 + w2) k (d :: ds) := by
  obtain ⟨p, e, a, b, c, f⟩ := h.h
  obtain ⟨ps, e', a', b', c', f'⟩ := t.h
  refine ⟨p :: ps, by simp only [toPyRL, e, e'], by simp only [PyData.showableAll, a, a', Bool.and_self], by simp only [PyData.leavesShortAll, b, b', Bool.and_self], ?_, ?_⟩
  · simp only [PyData.weightAll]
    omega
  · simp only [PyData.depthAll]
    omega
theorem RXL.all : ∀ {ds : List D}, (∀ d ∈ ds, RX m w k d) → RXL m ((w + 1) * ds.length) k ds
  | [], _ => RXL.nil
  | d :: ds, h => by
    have q := RXL.cons (h d List.mem_cons_self) (RXL.all fun e he => h e (List.mem_cons_of_mem _ he))
    refine q.mono ?_ (Nat.le_refl _)
    rw [List.length_cons, Nat.mul_succ]
    omega
theorem RX.dic0 : RX m w (k + 1) (.dic []) := by
  refine ⟨.dict [], rfl, by simp [PyData.showable, PyData.showableKv], by simp [PyData.leavesShort, PyData.leavesShortKv], by simp [PyData.weight, PyData.weightKv], ?_⟩
  simp [PyData.depth, PyData.depthKv]
theorem RX.dic1 {w1 w2 : Nat} {i : Int} {d : D} (h1 : RX m w1 k (.int i)) (h : RX m w2 k d) : RX m (w1 + w2 + 2) (k + 1) (.dic [(.inl i, d)]) := by
  obtain ⟨p, e, a, b, c, f⟩ := h.h
  obtain ⟨p1, e1, a1, b1, c1, f1⟩ := h1.h
  cases e1
  refine ⟨.dict [(.int i, p)], by simp only [toPyR, toPyRK, e, keyPy], ?_, ?_, ?_, ?_⟩
  · simp only [PyData.showable, PyData.showableKv] at a1 ⊢
    simp only [a1, a, Bool.and_self]
  · simp only [PyData.leavesShort, PyData.leavesShortKv] at b1 ⊢
    simp only [b1, b, Bool.and_self]
  · simp only [PyData.weight, PyData.weightKv] at c1 ⊢
    omega
  · simp only [PyData.depth, PyData.depthKv] at f1 ⊢
    omega
def shX (d : D) : Str := match toPyR d with
  | some p => p.shown
  | none => Str.empty
theorem reprX_ok {cs : Sto} {d : D} (h : RX m w k d) (h8 : 8 ≤ m) (hw : (m + 2) * w + m ≤ 16000000) (hk : k ≤ 60) : reprX cs d = some (True, shX d) := by
  obtain ⟨p, e, a, b, c, f⟩ := h.h
  have e1 : pyR cs d = some p := by
    cases d with
    | cell i => simp [toPyR] at e
    | _ => exact e
  have hl := PyData.shown_le m h8 p b
  have hm := Nat.mul_le_mul_left (m + 2) c
  have hz : p.shown.length ≤ sizeLine := by
    rw [sizeLine_eq]
    omega
  unfold reprX shX
  rw [e1, e]
  simp only [Option.map_some, Option.some.injEq, Prod.mk.injEq, and_true]
  exact eq_true ⟨a, hz, Nat.le_trans f hk⟩
theorem chars_small (s : String) : ∀ c ∈ (Str.ofString s).cps.toList, c < 16 ^ 8 := by
  intro c hc
  rw [Str.ofString_eq_toList] at hc
  simp at hc
  obtain ⟨x, _, rfl⟩ := hc
  have := x.valid
  have h2 : x.toNat < 0x110000 := by
    rcases this with h | h
    · show x.val.toNat < _
      omega
    · show x.val.toNat < _
      omega
  omega
end
/-! ### comprehensions over enumerate, with a test -/
def enf {α : Type} (t : Nat → α → Bool) (f : Nat → α → D) : Nat → List α → List D
  | _, [] => []
  | k, x :: xs => (if t k x = true then [f k x] else []) ++ enf t f (k + 1) xs
theorem enf_snoc {α : Type} (t : Nat → α → Bool) (f : Nat → α → D) (y : α) : ∀ (xs : List α) (k : Nat), enf t f k (xs ++ [y]) = enf t f k xs ++ if t (k + xs.length) y = true then [f (k + xs.length) y] else []
  | [], k => by simp [enf]
  | x :: xs, k => by
    simp only [List.cons_append, enf, enf_snoc t f y xs (k + 1), List.length_cons, List.append_assoc]
    rw [show k + 1 + xs.length = k + (xs.length + 1) by omega]
theorem lc_enf {α : Type} {pt : Pat} {tt : WT} {we : WE} {env : En} {W : Sto → Prop} {Q : PD} {cs : Sto} {z : Lz (pt, tt, we, env, W, Q)} (xs : List α) (g : α → D) (t : Nat → α → Bool) (f : Nat → α → D) (hW : W cs)
    (hs : ∀ (k : Nat) x, xs[k]? = some x → ∃ env', patSet cs pt (.tup [.int (k : Int), g x]) env = some env' ∧ (∀ R : Bool → Sto → Prop, R (t k x) cs → tt env' cs R) ∧ (t k x = true → ∀ R : PD, R (f k x) cs → we env' cs R)) (hd : Q (.lst (enf t f 0 xs)) cs) : lcP pt tt we env W Q (enD 0 (xs.map g)) [] cs z := by
  refine lcP_i (lc_inv (fun i acc cs' => (acc = enf t f 0 (xs.take i)) ∧ cs' = cs) _ _ _ ⟨by simp [enf], rfl⟩ (fun _ _ _ e => e.2 ▸ hW) ?_ ?_)
  · rintro i d _ _ he ⟨rfl, rfl⟩
    obtain ⟨y, h1, rfl⟩ := enD_get _ _ _ _ he
    rw [List.getElem?_map] at h1
    obtain ⟨x, hx, rfl⟩ := Option.map_eq_some_iff.mp h1
    have hi : i < xs.length := (List.getElem?_eq_some_iff.mp hx).1
    obtain ⟨env', e, q1, q2⟩ := hs i x hx
    rw [Nat.zero_add]
    have e2 : enf t f 0 (xs.take (i + 1)) = enf t f 0 (xs.take i) ++ if t i x = true then [f i x] else [] := by
      rw [List.take_add_one, hx]
      have := enf_snoc t f x (xs.take i) 0
      rw [List.length_take, Nat.min_eq_left (by omega), Nat.zero_add] at this
      exact this
    refine ⟨env', e, fun R1 R2 r1 r2 => q1 _ ?_⟩
    cases ht : t i x with
    | true =>
      rw [if_pos rfl]
      rw [ht, if_pos rfl] at e2
      exact q2 ht _ (r1 _ _ ⟨e2.symm, rfl⟩)
    | false =>
      rw [if_neg (by simp)]
      rw [ht, if_neg (by simp), List.append_nil] at e2
      exact r2 _ ⟨e2.symm, rfl⟩
  · rintro _ _ ⟨rfl, rfl⟩
    have e : xs.take (enD 0 (xs.map g)).length = xs := by rw [enD_len, List.length_map, List.take_length]
    rw [e]
    exact hd
/-! ### comprehensions over known lists; comprehensions that draw -/
theorem lc_mp {α : Type} {pt : Pat} {we : WE} {env : En} {W : Sto → Prop} {Q : PD} {cs : Sto} {z : Lz (pt, wYes, we, env, W, Q)} (xs : List α) (g f : α → D) (hW : W cs)
    (hs : ∀ x ∈ xs, ∃ env', patSet cs pt (g x) env = some env' ∧ ∀ R : PD, R (f x) cs → we env' cs R) (hd : Q (.lst (xs.map f)) cs) : lcP pt wYes we env W Q (xs.map g) [] cs z := by
  have key : ∀ (xs : List α) (acc : List D), (∀ x ∈ xs, ∃ env', patSet cs pt (g x) env = some env' ∧ ∀ R : PD, R (f x) cs → we env' cs R) → Q (.lst (acc ++ xs.map f)) cs → lcloop pt wYes we env W Q (xs.map g) acc cs := by
    intro xs
    induction xs with
    | nil => intro acc _ hd; exact ⟨hW, by simpa using hd⟩
    | cons x xs ih =>
      intro acc hs hd
      refine ⟨hW, ?_⟩
      obtain ⟨env', e, h⟩ := hs x List.mem_cons_self
      rw [e]
      show wYes env' cs _
      simp only [wYes, if_true]
      exact h _ (ih _ (fun y hy => hs y (List.mem_cons_of_mem _ hy)) (by simpa using hd))
  exact lcP_i (key xs [] hs (by simpa using hd))
theorem lc_fl {α : Type} {pt : Pat} {tt : WT} {we : WE} {env : En} {W : Sto → Prop} {Q : PD} {cs : Sto} {z : Lz (pt, tt, we, env, W, Q)} (xs : List α) (g : α → D) (t : α → Bool) (f : α → D) (hW : W cs)
    (hs : ∀ x ∈ xs, ∃ env', patSet cs pt (g x) env = some env' ∧ (∀ R : Bool → Sto → Prop, R (t x) cs → tt env' cs R) ∧ (t x = true → ∀ R : PD, R (f x) cs → we env' cs R)) (hd : Q (.lst ((xs.filter t).map f)) cs) : lcP pt tt we env W Q (xs.map g) [] cs z := by
  have key : ∀ (xs : List α) (acc : List D), (∀ x ∈ xs, ∃ env', patSet cs pt (g x) env = some env' ∧ (∀ R : Bool → Sto → Prop, R (t x) cs → tt env' cs R) ∧ (t x = true → ∀ R : PD, R (f x) cs → we env' cs R)) → Q (.lst (acc ++ (xs.filter t).map f)) cs → lcloop pt tt we env W Q (xs.map g) acc cs := by
    intro xs
    induction xs with
    | nil => intro acc _ hd; exact ⟨hW, by simpa using hd⟩
    | cons x xs ih =>
      intro acc hs hd
      refine ⟨hW, ?_⟩
      obtain ⟨env', e, h1, h2⟩ := hs x List.mem_cons_self
      rw [e]
      refine h1 _ ?_
      cases ht : t x with
      | true =>
        rw [if_pos rfl]
        exact h2 ht _ (ih _ (fun y hy => hs y (List.mem_cons_of_mem _ hy)) (by simpa [List.filter_cons, ht] using hd))
      | false =>
        rw [if_neg (by simp)]
        exact ih _ (fun y hy => hs y (List.mem_cons_of_mem _ hy)) (by simpa [List.filter_cons, ht] using hd)
  exact lcP_i (key xs [] hs (by simpa using hd))
/-- each element draws c times at most -/
theorem lc_drw {α : Type} {pt : Pat} {we : WE} {env : En} {Q : PD} {cs : Sto} {z : Lz (pt, wYes, we, env, wAll, Q)} (g : α → D) (P : α → Prop) (c j n m : Nat) (h0 : SvN j n cs)
    (hs : ∀ k < m, ∀ S, Mv j (n + c * k) cs S → ∃ env', patSet S pt (.int (k : Int)) env = some env' ∧ ∀ R : PD, (∀ x S', P x → Mv j (n + c * k + c) cs S' → R (g x) S') → we env' S R)
    (hd : ∀ (xs : List α) S, xs.length = m → (∀ x ∈ xs, P x) → Mv j (n + c * m) cs S → Q (.lst (xs.map g)) S) : lcP pt wYes we env wAll Q (rngD 0 m) [] cs z := by
  refine lcP_i (lc_inv (fun i acc S => ∃ xs : List α, acc = xs.map g ∧ xs.length = i ∧ (∀ x ∈ xs, P x) ∧ Mv j (n + c * i) cs S) _ _ _ ⟨[], rfl, rfl, (fun x hx => by cases hx), Mv.refl h0⟩ (fun _ _ _ _ => trivial) ?_ ?_)
  · rintro i d _ S he ⟨xs, rfl, hl, hp, mv⟩
    obtain ⟨hi, rfl⟩ := rngD_get he
    obtain ⟨env', e, q⟩ := hs i hi S mv
    rw [Int.zero_add]
    refine ⟨env', e, fun R1 R2 r1 r2 => ?_⟩
    simp only [wYes, if_true]
    refine q _ fun x S' px mv' => r1 _ _ ⟨xs ++ [x], by rw [List.map_append]; rfl, by rw [List.length_append, hl]; rfl, fun y hy => ?_, mv'.mono (by rw [Nat.mul_succ]; omega)⟩
    rcases List.mem_append.mp hy with hy | hy
    · exact hp y hy
    · rw [List.mem_singleton.mp hy]; exact px
  · rintro _ S ⟨xs, rfl, hl, hp, mv⟩
    rw [rngD_len] at hl mv
    exact hd xs S hl hp mv
end DL

/-! DCls: own classes: instances made, their fields read and stored, their methods called, isinstance. -/
namespace DL
open PySem PySem.Spec L2
open PyProof.Rows (envOfC)
/-! ### what stands of an instance -/
def insAt (cs : Sto) (C : Addr) : D → Option (List (Str × D))
  | .obj C' fs => if C' = C then some fs else none
  | .cell i => match cs[i]? with
    | some (.ins C' fs) => if C' = C then some fs else none
    | _ => none
  | _ => none
section
variable {K : PySem.W.Frag} {g : G} {cs : Sto} {H : Hp}
theorem ins_of (s : Sr K g cs H) {C : Addr} {d : D} {v : V} {fs : List (Str × D)} (e : insAt cs C d = some fs) (r : Rep K g d v) : ∃ a dx vs, v = .ref a ∧ H a = some (.ins C dx vs) ∧ RepF K g fs vs := by
  unfold insAt at e
  split at e
  · split at e
    · rename_i h
      cases e
      subst h
      obtain ⟨a, dx, vs, e1, h1, h2⟩ := r
      exact ⟨a, dx, vs, e1, s.le _ _ h1, h2⟩
    · cases e
  · rename_i i
    split at e
    · rename_i C' fs' hc
      split at e
      · rename_i h
        cases e
        subst h
        obtain ⟨a, e1, h1⟩ := r
        obtain ⟨dx, vs, q1, q2, q3⟩ := s.ok i a _ h1 hc
        exact ⟨a, dx, vs, e1, q1, q2⟩
      · cases e
    · cases e
  · cases e
theorem RepF.look : ∀ {fs : List (Str × D)} {vs : List (Str × V)} {f : Str}, RepF K g fs vs → (∀ d, fs.lookup f = some d → ∃ v, vs.lookup f = some v ∧ Rep K g d v) ∧ (fs.lookup f = none → vs.lookup f = none)
  | [], vs, f, h => by
    have h' : vs = [] := h
    subst h'
    exact ⟨fun d e => (by cases e), fun _ => rfl⟩
  | (k, x) :: fs, vs, f, h => by
    obtain ⟨v, r, e1, h1, h2⟩ := h
    subst e1
    simp only [List.lookup]
    split
    · exact ⟨fun d e => by cases e; exact ⟨v, rfl, h1⟩, fun e => by cases e⟩
    · exact RepF.look h2
def putD (f : Str) (d : D) : List (Str × D) → List (Str × D)
  | [] => [(f, d)]
  | (g, x) :: r => if g = f then (g, d) :: r else (g, x) :: putD f d r
theorem RepF.put {f : Str} {d : D} {v : V} (hd : Rep K g d v) : ∀ {fs : List (Str × D)} {vs : List (Str × V)}, RepF K g fs vs → RepF K g (putD f d fs) (putF f v vs)
  | [], vs, h => by
    have h' : vs = [] := h
    subst h'
    exact ⟨v, [], rfl, hd, rfl⟩
  | (k, x) :: fs, vs, h => by
    obtain ⟨u, r, e1, h1, h2⟩ := h
    subst e1
    unfold putD putF
    split
    · exact ⟨v, r, rfl, hd, h2⟩
    · exact ⟨u, _, rfl, h1, RepF.put hd h2⟩
theorem RepF.length : ∀ {fs : List (Str × D)} {vs : List (Str × V)}, RepF K g fs vs → fs.length = vs.length
  | [], vs, h => by
    have h' : vs = [] := h
    subst h'
    rfl
  | (k, x) :: fs, vs, h => by
    obtain ⟨u, r, e1, h1, h2⟩ := h
    subst e1
    simp [RepF.length h2]
/-- an object that nothing is said of -/
theorem Sr.other (s : Sr K g cs H) {p : Addr} (h : H p = none) (o : HO) : Sr K g cs (upd H p o) := by
  have np : p ∉ g.as := fun q => s.th p q h
  refine ⟨fun a u q => ?_, s.len, s.nd, fun a ha => ?_, fun i a c h1 h2 => ?_, fun q hq => ?_, s.rn⟩
  · rw [upd_ne (ne_of_none q (s.free h))]
    exact s.le a u q
  · rw [upd_ne (fun z => np (by rw [← z]; exact ha))]
    exact s.th a ha
  · have ne : a ≠ p := fun z => np (by rw [← z]; exact List.mem_of_getElem? h1)
    have q := s.ok i a c h1 h2
    refine q.mono (Ext.refl g).sub (fun hd => q.free hd) (fun _ u hu => ?_)
    rw [upd_ne ne]
    exact hu
  · obtain ⟨q1, q2, q3⟩ := s.rs q hq
    exact ⟨by rw [upd_ne (ne_of_none q1 h)]; exact q1, q2, q3⟩
/-- a changing object stays from here on -/
theorem Sr.freezeO (s : Sr K g cs H) {i : Nat} {a : Addr} {c : CO} {o : HO} (ha : g.as[i]? = some a) (h0 : cs[i]? = some c) (hv : H a = some o) (hz : g.Z a = none) :
    Sr K (g.add a o) (cs.set i .dead) H ∧ Ext g (g.add a o) := by
  have mem : a ∈ g.as := List.mem_of_getElem? ha
  have e : Ext g (g.add a o) := ⟨fun b u q => by
    show upd g.Z a _ b = some u
    rw [upd_ne (ne_of_none q hz)]
    exact q, ⟨[], by simp [G.add]⟩, rfl⟩
  refine ⟨⟨fun b u q => ?_, by simp [G.add, s.len], s.nd, s.th, fun j b d h1 h2 => ?_, fun q hq => ?_, s.rn⟩, e⟩
  · have q' : upd g.Z a o b = some u := q
    by_cases hb : b = a
    · subst hb
      rw [upd_same] at q'
      rw [hv]
      exact q'
    · rw [upd_ne hb] at q'
      exact s.le b u q'
  · by_cases hj : i = j
    · subst hj
      have hi : i < cs.length := (List.getElem?_eq_some_iff.mp h0).1
      rw [List.getElem?_set_self hi] at h2
      cases h2
      trivial
    · rw [List.getElem?_set_ne hj] at h2
      have ne : b ≠ a := fun z => by
        subst z
        exact hj (nodup_ixA s.nd ha h1)
      have q := s.ok j b d h1 h2
      refine q.mono e.sub (fun hd => ?_) (fun _ u hu => hu)
      show upd g.Z a _ b = none
      rw [upd_ne ne]
      exact q.free hd
  · obtain ⟨q1, q2, q3⟩ := s.rs q hq
    refine ⟨q1, ?_, q3⟩
    show upd g.Z a _ q.1 = none
    rw [upd_ne (fun z => q3 (by rw [z]; exact mem))]
    exact q2
end
section
variable {X : Cx} {a b o : Expr} {wa wb wo : WE} {pos p' : Pos}
/-! ### fields -/
def wFld (C : Addr) (f : Str) (wo : WE) : WE := fun env cs Q => wo env cs fun d cs1 => bindP (insAt cs1 C d) fun fs => bindP (fs.lookup f) fun v => Q v cs1
theorem de_fld {C : Addr} {f : Str} (T : Cls X.K C) (na : NoAttr X.K C f) (ho : DE X o wo) (hb : attributeBase o f X.env (eval o X.env) = eval o X.env := by rfl) : DE X (.Attribute o f pos) (wFld C f wo) :=
  ⟨PE.imp (pe_fld ho.pe hb) fun σ H Q ⟨g, cs, env, s, l, h⟩ => lowE.go ho.mo s l h fun d1 cs1 g1 H1 v1 h1 e1 s1 r1 => by
    cases ei : insAt cs1 C d1 with
    | none => rw [ei] at h1; exact h1.elim
    | some fs =>
      cases el : fs.lookup f with
      | none => simp only [ei, el, bindP_some, bindP_none] at h1
      | some d =>
        simp only [ei, el, bindP_some] at h1
        obtain ⟨a, dx, vs, q1, q2, q3⟩ := ins_of s1 ei r1
        obtain ⟨v, q4, q5⟩ := (RepF.look q3).1 d el
        exact ⟨a, C, dx, vs, v, q1, q2, T, na, q4, h1 g1 H1 v e1 s1 q5⟩,
    fun env cs Q Q' h q => ho.mo env cs _ _ (fun d cs1 q => bindP_mo (fun fs q => bindP_mo (fun v q => h _ _ q) q) q) q⟩
def stF (cs : Sto) (C : Addr) (f : Str) (d y : D) : Option (Prop × Sto) := match d with
  | .cell i => match cs[i]? with
    | some (.ins C' fs) => if C' = C then some (fs.length < 1000, cs.set i (.ins C (putD f y fs))) else none
    | _ => none
  | _ => none
def wStF (C : Addr) (f : Str) (wo wv : WE) : WS := fun E env cs => wv env cs fun y cs1 => wo env cs1 fun d cs2 => bindP (stF cs2 C f d y) fun p => p.1 ∧ E.nx env p.2
theorem ds_fld {C : Addr} {f : Str} {wv : WE} {value : Expr} (T : Cls X.K C) (na : NoAttr X.K C f) (hv : DE X value wv) (ho : DE X o wo) (hs : swapsWith value (some (.Attribute o f p')) pos.line X.env = pure false := by rfl) :
    DS X (.Assign [.Attribute o f p'] value pos) (wStF C f wo wv) := by
  refine ⟨PS.imp (ps_fld ho.pe hv.pe hs) fun Dn σ H ⟨g, cs, env, s, l, h⟩ => ?_, fun E E' env cs hE q => hv.mo env cs _ _ (fun y cs1 q => ho.mo env cs1 _ _ (fun d cs2 q => bindP_mo (fun p q => ⟨q.1, hE.nx _ _ q.2⟩) q) q) q⟩
  refine lowE.go hv.mo s l h fun y cs1 g1 H1 v1 h1 e1 s1 r1 => lowE.go ho.mo s1 (l.mono e1) h1 fun d cs2 g2 H2 v2 h2 e2 s2 r2 => ?_
  cases d with
  | cell i =>
    unfold stF at h2
    simp only at h2
    split at h2
    · rename_i C' fs hc
      split at h2
      · rename_i hC
        subst hC
        obtain ⟨a, q0, q1⟩ := r2
        obtain ⟨dx, vs, q2, q3, q4⟩ := s2.ok i a _ q1 hc
        have hl : vs.length < 1000 := by
          rw [← q3.length]
          exact h2.1
        exact ⟨a, C', dx, vs, q0, q2, T, na, hl, h2.2 g2 _ σ (e1.trans e2) (s2.put q1 hc (by simp) ⟨dx, _, upd_same, q3.put (r1.mono e2), q4⟩) ((l.mono e1).mono e2)⟩
      · exact h2.elim
    · exact h2.elim
  | _ => exact h2.elim
/-! ### instances made -/
theorem RoomG.make {k : Nat} {A : Around} (r : RoomG (k + 1) A) (C : Addr) (us : List Value) (kw : List (Str × Value)) : RoomG k (A.under (.builtin "type.__call__" ⟨.ref C :: us, kw⟩)) :=
  ⟨r.r.make C us kw, by first | exact r.gd | (simpa [Around.under] using r.gd)⟩
variable {CX : CXT} {k : Nat} {C f : Addr} {fd : FuncData} {ps : List Str} {sp : Sp} {E : XK} {x m : Str} {p apos : Pos} {e : Expr} {es : List Expr} {ta : TE} {t : TA}
theorem run_makeG {pins : List (Addr × Obj)} {σ : L2.St} {H : Hp} {s : Shared} {Q : VK} {us ws : List Value} {kw : List (Str × Value)} {vs : List V} (M : Mk X.K C f) (F : FnG X.prog X.w X.K X.mg X.base CX k f fd ps sp) (hr : RoomG (k + 1) X.A)
    (hb : ∀ (s : Shared) (x : Addr), X.K.In s.heap → BindsTo s fd ⟨.ref x :: us, kw⟩ (ps.zip (.ref x :: ws))) (hkw : kw = [])
    (hx : Passes CX X E) (I : Inv X pins σ H s) (r : Vals vs ws)
    (h : ∀ x dx, H x = none → H dx = none → dx ≠ x → sp (.ref x :: vs) (upd (upd H dx (.own x)) x (.ins C dx [])) (fun v H2 => v = .non ∧ Q (.ref x) H2) E) :
    wpAny (model X.prog X.w) X.A (call (.ref C) us) (EP X pins σ Q) X.xe s := by
  subst hkw
  have hq := h (s.heap.objs.size + 1) s.heap.objs.size (I.hok.fresh (Nat.le_succ _)) (I.hok.fresh (Nat.le_refl _)) (Nat.ne_of_lt (Nat.lt_succ_self _))
  have I2 := Inv.made (C := C) I
  have r2 : Vals (V.ref (s.heap.objs.size + 1) :: vs) (Value.ref (s.heap.objs.size + 1) :: ws) := .cons rfl r
  refine wpAny_call (make_map (f := f) I.kIn M.makes M.init (beq_iff_eq.mp M.fn) (codeAny_mono (F.run _ X.stack _ _ ⟨Value.ref (s.heap.objs.size + 1) :: us, []⟩ (Value.ref (s.heap.objs.size + 1) :: ws) _ _ E (hr.make C us [])
    (I2.env0.make C us []) (hb _ _ I2.kIn) r2 hq) fun r s' hq' => ?_))
  cases r with
  | error e => exact hx pins σ _ _ e s' I2 hq'
  | ok fl =>
    cases fl with
    | ret u =>
      obtain ⟨v, H', I3, rv, ev, q3⟩ := I2.after hq'
      subst ev
      exact ⟨rv, ⟨V.ref (s.heap.objs.size + 1), H', I3, rfl, q3⟩⟩
    | next => exact False.elim hq'
    | brk => exact False.elim hq'
    | cont => exact False.elim hq'
theorem peG_make (M : Mk X.K C f) (F : FnG X.prog X.w X.K X.mg X.base CX k f fd ps sp) (hr : RoomG (k + 1) X.A) (hg : Gl X x) (hm : X.mg x = some (.ref C)) (hb : Binds X.K fd ps []) (hx : Passes CX X E)
    (ha : PA X (e :: es) t) (hdb : (x == ("__debug__" : Str)) = false := by decide) (he : starEach (e :: es) X.env = (false, eval e X.env) :: starEach es X.env := by rfl) (hpl : (backTo pos (starEach es X.env)).any (·.1) = false := by rfl) :
    PE X (.Call (.Name x p) (e :: es) [] pos) (tMake C sp [] E t) := by
  refine ⟨fun pins s σ H Q I h => ?_⟩
  refine wpAny_Call_Name_kw (ld_glob I hg hm ?_ hdb)
  refine PySem.W.callWith_K (h₀ := X.base) I.ok.mod.kin M.kp (thn (ha.run pos pins s σ H _ I h) fun us s1 ⟨vs, H1, I1, r, q⟩ => ⟨I1.kIn, ?_⟩) he hpl
  have hl : ∀ x : Addr, (Value.ref x :: us ++ []).length = ps.length := fun x => by
    have hn : ∀ (y dy : Addr), H1 y = none → H1 dy = none → dy ≠ y → (V.ref y :: (vs ++ [])).length = ps.length := fun y dy a b c => F.len _ _ _ _ (q y dy a b c)
    have := hn (s1.heap.objs.size + 1) s1.heap.objs.size (I1.hok.fresh (Nat.le_succ _)) (I1.hok.fresh (Nat.le_refl _)) (Nat.ne_of_lt (Nat.lt_succ_self _))
    rw [List.append_nil] at this ⊢
    rw [← this]
    simp [r.length]
  refine run_makeG (ws := us) (vs := vs) M F hr (fun s x hk => ?_) rfl hx I1 r (fun x dx a b c => ?_)
  · have := hb s (.ref x :: us) hk (hl x)
    rw [List.append_nil] at this
    exact this
  · have := q x dx a b c
    rw [List.append_nil] at this
    exact this
/-- the fields of the instance that was made -/
def madeF (n : Nat) (C : Addr) (cs' : Sto) : Option (List (Str × D)) := match cs'[n]? with
  | some (.ins C' fs) => if C' = C then some fs else none
  | _ => none
/-- a new instance that never changes behind its making -/
def wMkF (C : Addr) (s : FSpec) (wa : WA) : WE := fun env cs Q => wa env cs fun ds cs1 => ∃ i, .cell cs1.length :: ds = s.args i ∧ s.pre i (cs1 ++ [.ins C []]) ∧
  ∀ d cs', s.res i (cs1 ++ [.ins C []]) d cs' → d = .non ∧ ∃ cs2 fs, cs' = cs2 ++ [.ins C fs] ∧ cs2.length = cs1.length ∧ okFs cs1.length fs ∧ (okS cs1.length cs1 → okS cs1.length cs2) ∧ Q (.obj C fs) cs2
/-- a new instance that may change -/
def wMk (C : Addr) (s : FSpec) (wa : WA) : WE := fun env cs Q => wa env cs fun ds cs1 => ∃ i, .cell cs1.length :: ds = s.args i ∧ s.pre i (cs1 ++ [.ins C []]) ∧
  ∀ d cs', s.res i (cs1 ++ [.ins C []]) d cs' → d = .non ∧ Q (.cell cs1.length) cs'
theorem made_at {K : PySem.W.Frag} {g1 g2 : G} {cs1 cs' : Sto} {H1 H2 : Hp} {y : Addr} (s1 : Sr K g1 cs1 H1) (e2 : Ext (g1.cel y) g2) (s2 : Sr K g2 cs' H2) : g2.as[cs1.length]? = some y := by
  obtain ⟨t, et⟩ := e2.a
  have : g2.as = (g1.as ++ [y]) ++ t := et
  rw [this, List.append_assoc, List.getElem?_append_right (by rw [s1.len]; exact Nat.le_refl _), s1.len, Nat.sub_self]
  rfl
theorem low_mkF {K : PySem.W.Frag} {s : FSpec} (c : Calm s) {g g1 : G} {cs1 : Sto} {H1 : Hp} {ds : List D} {vs : List V} {Q : VK} {i : s.ι} (e1 : Ext g g1) (s1 : Sr K g1 cs1 H1) (r1 : RepL K g1 ds vs) (ea : .cell cs1.length :: ds = s.args i) (hp : s.pre i (cs1 ++ [.ins C []]))
    (q : ∀ d cs', s.res i (cs1 ++ [.ins C []]) d cs' → d = .non ∧ ∃ cs2 fs, cs' = cs2 ++ [.ins C fs] ∧ cs2.length = cs1.length ∧ okFs cs1.length fs ∧ (okS cs1.length cs1 → okS cs1.length cs2) ∧ upV K g Q (.obj C fs) cs2)
    (y dy : Addr) (hy : H1 y = none) (hd : H1 dy = none) (ne : dy ≠ y) : dSp K s (.ref y :: vs) (upd (upd H1 dy (.own y)) y (.ins C dy [])) (fun v H2 => v = .non ∧ Q (.ref y) H2) E0 := by
  have s0 := s1.other hd (.own y)
  have hy2 : upd H1 dy (.own y) y = none := by rw [upd_ne (Ne.symm ne)]; exact hy
  have ec := Ext.cel (g := g1) y
  have s2 : Sr K (g1.cel y) (cs1 ++ [.ins C []]) (upd (upd H1 dy (.own y)) y (.ins C dy [])) := s0.cel hy2 ⟨dy, [], upd_same, rfl, s1.free hy⟩
  refine ⟨g1.cel y, cs1 ++ [.ins C []], i, s2, ?_, hp, fun d cs' z => ?_, fun x cs' z => (c.no _ _ _ _ z).elim⟩
  · rw [← ea]
    exact .cons ⟨y, rfl, by show (g1.as ++ [y])[cs1.length]? = some y; rw [← s1.len]; simp⟩ (r1.mono ec)
  · obtain ⟨e3, cs2, fs, e4, hl, ok1, ok2, q2⟩ := q d cs' z
    subst e3 e4
    intro g2 H2 v e2 s3 rv
    refine ⟨rv, ?_⟩
    have ha := made_at s1 e2 s3
    have hc : (cs2 ++ [CO.ins C fs])[cs1.length]? = some (.ins C fs) := by rw [← hl]; simp
    obtain ⟨dx, us, q5, q6, q7⟩ := s3.ok _ y _ ha hc
    obtain ⟨s4, e5⟩ := s3.freezeO ha hc q5 q7
    have et : (g2.add y (.ins C dx us)).as.take cs1.length = g1.as := by
      obtain ⟨t, et⟩ := e2.a
      have : g2.as = (g1.as ++ [y]) ++ t := et
      show g2.as.take cs1.length = g1.as
      rw [this, List.append_assoc, ← s1.len, List.take_left' rfl]
    have ct : ((cs2 ++ [CO.ins C fs]).set cs1.length .dead).take cs1.length = cs2 := by
      rw [List.take_set_of_le (Nat.le_refl _), ← hl, List.take_left' rfl]
    have s5 := s4.cut (n := cs1.length) (by rw [ct]; exact ok2 s1.okS)
    rw [ct] at s5
    refine q2 ((g2.add y (.ins C dx us)).cut cs1.length) H2 (.ref y) ⟨fun b u z => e5.z _ _ (e2.z _ _ (e1.z _ _ z)), ?_, ?_⟩ s5 (Rep.cut _ _ _ ok1 ⟨y, dx, us, rfl, add_at, q6.mono e5⟩)
    · obtain ⟨t, q8⟩ := e1.a
      exact ⟨t, by show (g2.add y _).as.take _ = _; rw [et, q8]⟩
    · show g2.rs = g.rs
      rw [e2.r]
      exact e1.r
theorem de_mkF {s : FSpec} {wa : WA} (c : Calm s) (M : Mk X.K C f) (F : FnG X.prog X.w X.K X.mg X.base CX0 k f fd ps (dSp X.K s)) (hr : RoomG (k + 1) X.A) (hm : X.mg x = some (.ref C)) (hb : Binds X.K fd ps []) (ha : DA X (e :: es) wa)
    (hg : Gl X x := by rfl) (hdb : (x == ("__debug__" : Str)) = false := by decide) (he : starEach (e :: es) X.env = (false, eval e X.env) :: starEach es X.env := by rfl) (hpl : (backTo pos (starEach es X.env)).any (·.1) = false := by rfl) :
    DE X (.Call (.Name x p) (e :: es) [] pos) (wMkF C s wa) :=
  ⟨PE.imp (peG_make M F hr hg hm hb pass0 ha.pe hdb he hpl) fun σ H Q ⟨g, cs, env, sr, l, h⟩ => lowA.go ha.mo sr l h fun ds cs1 g1 H1 vs ⟨i, ea, hp, q⟩ e1 s1 r1 => fun y dy hy hd ne => by
      rw [List.append_nil]
      exact low_mkF c e1 s1 r1 ea hp q y dy hy hd ne,
    fun env cs Q Q' hq q => ha.mo env cs _ _ (fun ds cs1 ⟨i, ea, hp, q⟩ => ⟨i, ea, hp, fun d cs' z => by
      obtain ⟨e3, cs2, fs, e4, hl, ok1, ok2, q2⟩ := q d cs' z
      exact ⟨e3, cs2, fs, e4, hl, ok1, ok2, hq _ _ q2⟩⟩) q⟩
theorem de_mk {s : FSpec} {wa : WA} (c : Calm s) (M : Mk X.K C f) (F : FnG X.prog X.w X.K X.mg X.base CX0 k f fd ps (dSp X.K s)) (hr : RoomG (k + 1) X.A) (hm : X.mg x = some (.ref C)) (hb : Binds X.K fd ps []) (ha : DA X (e :: es) wa)
    (hg : Gl X x := by rfl) (hdb : (x == ("__debug__" : Str)) = false := by decide) (he : starEach (e :: es) X.env = (false, eval e X.env) :: starEach es X.env := by rfl) (hpl : (backTo pos (starEach es X.env)).any (·.1) = false := by rfl) :
    DE X (.Call (.Name x p) (e :: es) [] pos) (wMk C s wa) :=
  ⟨PE.imp (peG_make M F hr hg hm hb pass0 ha.pe hdb he hpl) fun σ H Q ⟨g, cs, env, sr, l, h⟩ => lowA.go ha.mo sr l h fun ds cs1 g1 H1 vs ⟨i, ea, hp, q⟩ e1 s1 r1 => fun y dy hy hd ne => by
      rw [List.append_nil]
      have s0 := s1.other hd (.own y)
      have hy2 : upd H1 dy (.own y) y = none := by rw [upd_ne (Ne.symm ne)]; exact hy
      have ec := Ext.cel (g := g1) y
      have s2 : Sr X.K (g1.cel y) (cs1 ++ [.ins C []]) (upd (upd H1 dy (.own y)) y (.ins C dy [])) := s0.cel hy2 ⟨dy, [], upd_same, rfl, s1.free hy⟩
      refine ⟨g1.cel y, cs1 ++ [.ins C []], i, s2, ?_, hp, fun d cs' z => ?_, fun x cs' z => (c.no _ _ _ _ z).elim⟩
      · rw [← ea]
        exact .cons ⟨y, rfl, by show (g1.as ++ [y])[cs1.length]? = some y; rw [← s1.len]; simp⟩ (r1.mono ec)
      · obtain ⟨e3, q2⟩ := q d cs' z
        subst e3
        intro g2 H2 v e2 s3 rv
        exact ⟨rv, q2 g2 H2 (.ref y) (e1.trans (ec.trans e2)) s3 ⟨y, rfl, made_at s1 e2 s3⟩⟩,
    fun env cs Q Q' hq q => ha.mo env cs _ _ (fun ds cs1 ⟨i, ea, hp, q⟩ => ⟨i, ea, hp, fun d cs' z => ⟨(q d cs' z).1, hq _ _ (q d cs' z).2⟩⟩) q⟩
/-! ### methods -/
theorem peG_meth {pl : Sem Bool} (he : PE X o ta) (c : Cls X.K C) (hm : Meth X.K C m f) (F : FnG X.prog X.w X.K X.mg X.base CX k f fd ps sp) (hr : RoomG k X.A) (hb : Binds X.K fd ps []) (hx : Passes CX X E) (ha : PA X (e :: es) t)
    (hst : starEach (e :: es) X.env = (false, eval e X.env) :: starEach es X.env := by rfl) (hpl : (backTo pos (starEach es X.env)).any (·.1) = false := by rfl)
    (ht : eval (.Call (.Attribute o m apos) (e :: es) [] pos) X.env = (do
      let ov ← eval o X.env
      standAt apos.atName
      let (f, first) ← holding [ov] (getMethod ov m pl)
      callWith pos f first (backTo pos (starEach (e :: es) X.env)) (backToKw pos (keywordEach [] X.env))) := by rfl) :
    PE X (.Call (.Attribute o m apos) (e :: es) [] pos) (tMeth C m sp [] E ta t) := by
  refine ⟨fun pins s σ H Q I h => ?_⟩
  refine PySem.W.methodCall_KW (pl := pl) (thn (he.run pins s σ H _ I h) fun u s1 ⟨x, H1, I1, rx, a, dx, fs, ex, ea, l, q⟩ => ?_) ht
  subst ex
  obtain rfl : u = Value.ref a := rx
  refine getmeth_ok I1 ea c hm l ?_
  refine PySem.W.callWith_K (first := [.ref a]) (h₀ := X.base) I.ok.mod.kin hm.kp (thn (ha.run pos pins s1 σ H1 _ I1 q) fun us s2 ⟨vs, H2, I2, r, q2⟩ => ⟨I2.kIn, ?_⟩) hst hpl
  have q3 : sp (.ref a :: (vs ++ [])) H2 Q E := q2
  rw [List.append_nil] at q3
  have hl : (Value.ref a :: us ++ []).length = ps.length := by
    have := F.len _ _ _ _ q3
    rw [List.append_nil, ← this]
    simp [r.length]
  have hb' := hb s2 (.ref a :: us) I2.kIn hl
  rw [List.append_nil] at hb'
  exact run_G (vs := .ref a :: vs) F hr hb' hx I2 (.cons rfl r) q3
theorem peG_meth0 {pl : Sem Bool} (he : PE X o ta) (c : Cls X.K C) (hm : Meth X.K C m f) (F : FnG X.prog X.w X.K X.mg X.base CX k f fd ps sp) (hr : RoomG k X.A) (hb : Binds X.K fd ps []) (hx : Passes CX X E)
    (ht : eval (.Call (.Attribute o m apos) [] [] pos) X.env = (do
      let ov ← eval o X.env
      standAt apos.atName
      let (f, first) ← holding [ov] (getMethod ov m pl)
      callWith pos f first (backTo pos (starEach [] X.env)) (backToKw pos (keywordEach [] X.env))) := by rfl) :
    PE X (.Call (.Attribute o m apos) [] [] pos) (tMeth C m sp [] E ta tNil) := by
  refine ⟨fun pins s σ H Q I h => ?_⟩
  refine PySem.W.methodCall_KW (pl := pl) (thn (he.run pins s σ H _ I h) fun u s1 ⟨x, H1, I1, rx, a, dx, fs, ex, ea, l, q⟩ => ?_) ht
  subst ex
  obtain rfl : u = Value.ref a := rx
  refine getmeth_ok I1 ea c hm l ?_
  have q2 : sp [.ref a] H1 Q E := q
  have hl : ([Value.ref a] ++ []).length = ps.length := by
    have := F.len _ _ _ _ q2
    rw [← this]
    rfl
  have hb' := hb s1 [.ref a] I1.kIn hl
  rw [List.append_nil] at hb'
  exact PySem.W.callWith_K0 (first := [.ref a]) I1.kIn hm.kp (run_G (vs := [.ref a]) F hr hb' hx I1 (.cons rfl .nil) q2)
def wMeth (C : Addr) (m : Str) (s : FSpec) (wo : WE) (wa : WA) : WE := fun env cs Q => wo env cs fun d cs1 => bindP (insAt cs1 C d) fun fs => fs.lookup m = none ∧ wa env cs1 fun ds cs2 => ∃ i, d :: ds = s.args i ∧ s.pre i cs2 ∧ ∀ d cs', s.res i cs2 d cs' → Q d cs'
theorem wMeth.mo {s : FSpec} {wo : WE} {wa : WA} (h1 : MonoE wo) (h2 : MonoA wa) : MonoE (wMeth C m s wo wa) := fun env cs Q Q' hq q =>
  h1 env cs _ _ (fun d cs1 q => bindP_mo (fun fs ⟨l, q⟩ => ⟨l, h2 env cs1 _ _ (fun ds cs2 ⟨i, e, p, q⟩ => ⟨i, e, p, fun d cs' z => hq _ _ (q d cs' z)⟩) q⟩) q) q
theorem low_meth {s : FSpec} {wo : WE} {wa : WA} {K : PySem.W.Frag} (c : Calm s) (h1 : MonoE wo) (h2 : MonoA wa) {σ : L2.St} {H : Hp} {Q : VK} (h : lowE K (wMeth C m s wo wa) σ H Q) : tMeth C m (dSp K s) [] E0 (lowE K wo) (lowA K wa) σ H Q := by
  obtain ⟨g, cs, env, sr, l, h⟩ := h
  refine lowE.go h1 sr l h fun d cs1 g1 H1 v1 q1 e1 s1 r1 => ?_
  cases ei : insAt cs1 C d with
  | none => rw [ei] at q1; exact q1.elim
  | some fs =>
    simp only [ei, bindP_some] at q1
    obtain ⟨a, dx, vs, q2, q3, q4⟩ := ins_of s1 ei r1
    refine ⟨a, dx, vs, q2, q3, (RepF.look q4).2 q1.1, lowA.go h2 s1 (l.mono e1) q1.2 fun ds cs2 g2 H2 us ⟨i, ea, hp, q⟩ e2 s2 r2 => ?_⟩
    rw [List.append_nil]
    exact low_spec c (e1.trans e2) s2 (by rw [← ea]; exact .cons (r1.mono e2) r2) hp q
theorem de_meth {s : FSpec} {wa : WA} {pl : Sem Bool} (c : Calm s) (ho : DE X o wo) (T : Cls X.K C) (hm : Meth X.K C m f) (F : FnG X.prog X.w X.K X.mg X.base CX0 k f fd ps (dSp X.K s)) (hr : RoomG k X.A) (hb : Binds X.K fd ps []) (ha : DA X (e :: es) wa)
    (hst : starEach (e :: es) X.env = (false, eval e X.env) :: starEach es X.env := by rfl) (hpl : (backTo pos (starEach es X.env)).any (·.1) = false := by rfl)
    (ht : eval (.Call (.Attribute o m apos) (e :: es) [] pos) X.env = (do
      let ov ← eval o X.env
      standAt apos.atName
      let (f, first) ← holding [ov] (getMethod ov m pl)
      callWith pos f first (backTo pos (starEach (e :: es) X.env)) (backToKw pos (keywordEach [] X.env))) := by rfl) :
    DE X (.Call (.Attribute o m apos) (e :: es) [] pos) (wMeth C m s wo wa) :=
  ⟨PE.imp (peG_meth ho.pe T hm F hr hb pass0 ha.pe hst hpl ht) fun σ H Q h => low_meth c ho.mo ha.mo h, wMeth.mo ho.mo ha.mo⟩
theorem de_meth0 {s : FSpec} {pl : Sem Bool} (c : Calm s) (ho : DE X o wo) (T : Cls X.K C) (hm : Meth X.K C m f) (F : FnG X.prog X.w X.K X.mg X.base CX0 k f fd ps (dSp X.K s)) (hr : RoomG k X.A) (hb : Binds X.K fd ps [])
    (ht : eval (.Call (.Attribute o m apos) [] [] pos) X.env = (do
      let ov ← eval o X.env
      standAt apos.atName
      let (f, first) ← holding [ov] (getMethod ov m pl)
      callWith pos f first (backTo pos (starEach [] X.env)) (backToKw pos (keywordEach [] X.env))) := by rfl) :
    DE X (.Call (.Attribute o m apos) [] [] pos) (wMeth C m s wo wNil) :=
  ⟨PE.imp (peG_meth0 ho.pe T hm F hr hb pass0 ht) fun σ H Q h => by
    obtain ⟨g, cs, env, sr, l, h⟩ := h
    refine lowE.go ho.mo sr l h fun d cs1 g1 H1 v1 q1 e1 s1 r1 => ?_
    cases ei : insAt cs1 C d with
    | none => rw [ei] at q1; exact q1.elim
    | some fs =>
      simp only [ei, bindP_some] at q1
      obtain ⟨a, dx, vs, q2, q3, q4⟩ := ins_of s1 ei r1
      obtain ⟨ql, i, ea, hp, q⟩ := q1
      exact ⟨a, dx, vs, q2, q3, (RepF.look q4).2 ql, low_spec c e1 s1 (by rw [← ea]; exact .cons r1 .nil) hp q⟩, wMeth.mo ho.mo da_nil_mo⟩
where da_nil_mo : MonoA wNil := fun _ _ _ _ h q => h _ _ q
/-! ### isinstance(x, C) -/
/-- which kinds of values are of the class -/
theorem kitOne_self (K : PySem.W.Frag) (C : Addr) : PySem.W.kitOne K (.ref C) (.ref C) = some true := by
  unfold PySem.W.kitOne
  rw [if_pos (by simp)]
theorem kitOne_no {K : PySem.W.Frag} {C : Addr} {T : String} (h1 : PySem.W.isClsIn K C = true) (h2 : PySem.W.typeIn K (.ref C) = some (.type "type")) (h3 : PySem.W.subIn K (.type T) (.ref C) = some false) : PySem.W.kitOne K (.type T) (.ref C) = some false := by
  unfold PySem.W.kitOne PySem.W.kitCls
  rw [if_neg (fun h => by have := beq_iff_eq.mp h; cases this)]
  unfold PySem.W.isClsIn at h1
  simp only [h1, h2, h3, beq_self_eq_true, Bool.and_self, if_true]
structure IsC (K : PySem.W.Frag) (C : Addr) : Prop where
  cl : Cls K C
  ha : PySem.W.findIn K (.ref C) "__class__" = some (some (.builtin "object.__class__"))
  hn : PySem.W.specialIn K (.builtin "object.__class__") "__get__" = some (some (.builtin "getset_descriptor.__get__"))
  hk : PySem.W.takesIn K (.builtin "object.__class__") = some true
  hm : PySem.W.mroIn K C (.type "object") = some true
  own : PySem.W.kitOne K (.ref C) (.ref C) = some true
  n : PySem.W.kitOne K (.type "NoneType") (.ref C) = some false
  b : PySem.W.kitOne K (.type "bool") (.ref C) = some false
  i : PySem.W.kitOne K (.type "int") (.ref C) = some false
  s : PySem.W.kitOne K (.type "str") (.ref C) = some false
  t : PySem.W.kitOne K (.type "tuple") (.ref C) = some false
  l : PySem.W.kitOne K (.type "list") (.ref C) = some false
  d : PySem.W.kitOne K (.type "dict") (.ref C) = some false
def isiC (C : Addr) (cs : Sto) (d : D) : Option Bool := match tyD cs d with
  | some _ => some false
  | none => match insAt cs C d with
    | some _ => some true
    | none => none
theorem IsC.no {K : PySem.W.Frag} (h : IsC K C) {cs : Sto} {d : D} {T : String} (e : tyD cs d = some T) : PySem.W.kitOne K (.type T) (.ref C) = some false := by
  cases d with
  | non => cases e; exact h.n
  | bl _ => cases e; exact h.b
  | int _ => cases e; exact h.i
  | str _ => cases e; exact h.s
  | tup _ => cases e; exact h.t
  | lst _ => cases e; exact h.l
  | dic _ => cases e; exact h.d
  | cell i =>
    simp only [tyD] at e
    split at e
    · cases e; exact h.l
    · cases e; exact h.d
    · cases e
  | _ => cases e
def oIsC (C : Addr) : OC := fun ds cs Q => match ds with
  | [d, .ref C'] => C' = C ∧ bindP (isiC C cs d) fun b => Q (.bl b) cs
  | _ => False
theorem cd_isC (h : IsC X.K C) : CallD X (.builtin "isinstance") (oIsC C) := .mk' (fun ds cs Q Q' hq q => by
    unfold oIsC at q ⊢
    split at q
    · exact ⟨q.1, bindP_mo (fun b q => hq _ _ q) q.2⟩
    · exact q) fun pins s σ H xs us Q g cs ds I r sr r1 q => by
  unfold oIsC at q
  split at q
  · rename_i d C'
    obtain ⟨q1, q2⟩ := q
    subst q1
    obtain ⟨v, vr, e1, h1, h2⟩ := r1
    obtain ⟨v2, vr2, e2, h3, h4⟩ := h2
    have h4' : vr2 = [] := h4
    have h3' : v2 = .ref C' := h3
    subst e1 e2 h4' h3'
    unfold isiC at q2
    cases et : tyD cs d with
    | some T =>
      simp only [et, bindP_some] at q2
      exact call_isi pins s σ H _ us Q I r ⟨v, _, .type T, .ref C', false, rfl, .own C', ty_rep sr et h1, h.no et, q2 g H _ (Ext.refl g) sr rfl⟩
    | none =>
      cases ei : insAt cs C' d with
      | none => simp only [et, ei, bindP_none] at q2
      | some fs =>
        simp only [et, ei, bindP_some] at q2
        obtain ⟨a, dx, vs, q3, q4, q5⟩ := ins_of sr ei h1
        subst q3
        exact call_isi pins s σ H _ us Q I r ⟨.ref a, _, .ref C', .ref C', true, rfl, .own C', .base (.ins q4 h.cl h.ha h.hn h.hk h.hm), h.own, q2 g H _ (Ext.refl g) sr rfl⟩
  · exact q.elim
end
/-! ### evaluated -/
section
variable {env : En} {cs : Sto} {Q : PD} {E : DN}
theorem wFld_eq (C : Addr) (f : Str) (wo : WE) : wFld C f wo env cs Q = wo env cs fun d cs1 => bindP (insAt cs1 C d) fun fs => bindP (fs.lookup f) fun v => Q v cs1 := (rfl)
theorem wStF_eq (C : Addr) (f : Str) (wo wv : WE) : wStF C f wo wv E env cs = wv env cs fun y cs1 => wo env cs1 fun d cs2 => bindP (stF cs2 C f d y) fun p => p.1 ∧ E.nx env p.2 := (rfl)
theorem insAt_obj (C : Addr) (fs : List (Str × D)) : insAt cs C (.obj C fs) = some fs := if_pos rfl
def insA (cs : Sto) (n : Nat) : Option (Addr × List (Str × D)) := match cs[n]? with
  | some (.ins C fs) => some (C, fs)
  | _ => none
theorem insAt_cell (C : Addr) (n : Nat) : insAt cs C (.cell n) = (insA cs n).bind fun p => if p.1 = C then some p.2 else none := by
  simp only [insAt, insA]
  cases e : cs[n]? with
  | none => rfl
  | some c => cases c <;> rfl
theorem stF_cell (C : Addr) (f : Str) (n : Nat) (y : D) : stF cs C f (.cell n) y = (insA cs n).bind fun p => if p.1 = C then some (p.2.length < 1000, cs.set n (.ins C (putD f y p.2))) else none := by
  simp only [stF, insA]
  cases e : cs[n]? with
  | none => rfl
  | some c => cases c <;> rfl
theorem insA_get {n : Nat} {C : Addr} {fs : List (Str × D)} (h : cs[n]? = some (.ins C fs)) : insA cs n = some (C, fs) := by
  unfold insA
  rw [h]
/-- a making: nothing is looked at but the arguments -/
def mkFP (C : Addr) (s : FSpec) (ds : List D) (cs : Sto) (Q : PD) (_z : Lz (s, Q) := ⟨⟩) : Prop := ∃ i, .cell cs.length :: ds = s.args i ∧ s.pre i (cs ++ [.ins C []]) ∧
  ∀ d cs', s.res i (cs ++ [.ins C []]) d cs' → d = .non ∧ ∃ cs2 fs, cs' = cs2 ++ [.ins C fs] ∧ cs2.length = cs.length ∧ okFs cs.length fs ∧ (okS cs.length cs → okS cs.length cs2) ∧ Q (.obj C fs) cs2
def mkP (C : Addr) (s : FSpec) (ds : List D) (cs : Sto) (Q : PD) (_z : Lz (s, Q) := ⟨⟩) : Prop := ∃ i, .cell cs.length :: ds = s.args i ∧ s.pre i (cs ++ [.ins C []]) ∧
  ∀ d cs', s.res i (cs ++ [.ins C []]) d cs' → d = .non ∧ Q (.cell cs.length) cs'
theorem wMkF_eq (C : Addr) (s : FSpec) (wa : WA) : wMkF C s wa env cs Q = wa env cs fun ds cs1 => mkFP C s ds cs1 Q := (rfl)
theorem wMk_eq (C : Addr) (s : FSpec) (wa : WA) : wMk C s wa env cs Q = wa env cs fun ds cs1 => mkP C s ds cs1 Q := (rfl)
theorem mkFP_i {C : Addr} {s : FSpec} {ds : List D} {z : Lz (s, Q)} (i : s.ι) (h : .cell cs.length :: ds = s.args i) (hp : s.pre i (cs ++ [.ins C []]))
    (q : ∀ d cs', s.res i (cs ++ [.ins C []]) d cs' → d = .non ∧ ∃ cs2 fs, cs' = cs2 ++ [.ins C fs] ∧ cs2.length = cs.length ∧ okFs cs.length fs ∧ (okS cs.length cs → okS cs.length cs2) ∧ Q (.obj C fs) cs2) : mkFP C s ds cs Q z := ⟨i, h, hp, q⟩
theorem wMeth_eq (C : Addr) (m : Str) (s : FSpec) (wo : WE) (wa : WA) : wMeth C m s wo wa env cs Q = wo env cs fun d cs1 => bindP (insAt cs1 C d) fun fs => fs.lookup m = none ∧ wa env cs1 fun ds cs2 => callP s (d :: ds) cs2 Q := (rfl)
theorem oIsC_eq (C : Addr) (d : D) : oIsC C [d, .ref C] cs Q = bindP (isiC C cs d) fun b => Q (.bl b) cs := propext ⟨fun h => h.2, fun h => ⟨rfl, h⟩⟩
theorem isiC_obj (C : Addr) (fs : List (Str × D)) : isiC C cs (.obj C fs) = some true := by
  simp [isiC, tyD, insAt]
theorem look_hit (f : Str) (d : D) (fs : List (Str × D)) : ((f, d) :: fs).lookup f = some d := by simp [List.lookup]
end
end DL

/-! DKd: dicts asked: those of the call, and those of the module whose keys are texts and whose values are ints. -/
namespace DL
open PySem PySem.Spec L2
def getD (kvs : List (Key × D)) (k : Key) : Option D := (kvs.find? fun kv => decide (kv.1 = k)).map (·.2)
def dicAt (cs : Sto) : D → Option (List (Key × D))
  | .dic kvs => some kvs
  | .cell i => match cs[i]? with
    | some (.dic kvs) => some kvs
    | _ => none
  | _ => none
section
variable {K : PySem.W.Frag} {g : G} {cs : Sto} {H : Hp}
theorem dic_of (s : Sr K g cs H) {d : D} {v : V} {kvs : List (Key × D)} (e : dicAt cs d = some kvs) (r : Rep K g d v) : ∃ a vs, v = .ref a ∧ H a = some (.dK vs) ∧ RepK K g kvs vs := by
  unfold dicAt at e
  split at e
  · cases e
    obtain ⟨a, vs, e1, h1, h2⟩ := r
    exact ⟨a, vs, e1, s.le _ _ h1, h2⟩
  · rename_i i
    split at e
    · rename_i kvs' hc
      cases e
      obtain ⟨a, e1, h1⟩ := r
      obtain ⟨vs, q1, q2, q3⟩ := s.ok i a _ h1 hc
      exact ⟨a, vs, e1, q1, q2⟩
    · cases e
  · cases e
theorem RepK.get : ∀ {kvs : List (Key × D)} {vs : List (Key × V)} (k : Key), RepK K g kvs vs → (∀ d, getD kvs k = some d → ∃ v, valV vs k = some v ∧ Rep K g d v) ∧ (getD kvs k = none → valV vs k = none)
  | [], vs, k, h => by
    have h' : vs = [] := h
    subst h'
    exact ⟨fun d e => (by cases e), fun _ => rfl⟩
  | (k', d) :: kvs, vs, k, h => by
    obtain ⟨v, r, e1, h1, h2⟩ := h
    subst e1
    by_cases e : k' = k
    · have g1 : getD ((k', d) :: kvs) k = some d := by simp [getD, List.find?_cons, e]
      rw [g1]
      exact ⟨fun d' e' => (by cases e'; exact ⟨v, valV_pos e, h1⟩), fun e' => (by cases e')⟩
    · have g1 : getD ((k', d) :: kvs) k = getD kvs k := by simp [getD, List.find?_cons, e]
      rw [g1]
      have g2 : valV ((k', v) :: r) k = valV r k := valV_neg e
      rw [g2]
      exact RepK.get k h2
theorem key_rep {d : D} {v : V} {k : Key} (e : keyD d = some k) (r : Rep K g d v) : v = kV k := by
  unfold keyD at e
  split at e
  · cases e; exact r
  · cases e; exact r
  · cases e
theorem RepK.getD_rep {kvs : List (Key × D)} {vs : List (Key × V)} {x : D} {u : V} (k : Key) (h : RepK K g kvs vs) (hx : Rep K g x u) : Rep K g ((DL.getD kvs k).getD x) ((valV vs k).getD u) := by
  cases e : DL.getD kvs k with
  | none =>
    rw [(RepK.get k h).2 e]
    exact hx
  | some d =>
    obtain ⟨v, q1, q2⟩ := (RepK.get k h).1 d e
    rw [q1]
    exact q2
end
section
variable {X : Cx}
def oDGet : OM := fun d ds cs Q => match ds with
  | [k] => bindP (dicAt cs d) fun kvs => bindP (keyD k) fun k => Q ((getD kvs k).getD .non) cs
  | [k, x] => bindP (dicAt cs d) fun kvs => bindP (keyD k) fun k => Q ((getD kvs k).getD x) cs
  | _ => False
theorem md_dget (hu : X.A.units + 1 < cLine) : MtD X "dict.get" oDGet := .mk' (fun d ds cs Q Q' h q => by
    unfold oDGet at q ⊢
    split at q
    · exact bindP_mo (fun kvs q => bindP_mo (fun k q => h _ _ q) q) q
    · exact bindP_mo (fun kvs q => bindP_mo (fun k q => h _ _ q) q) q
    · exact q) fun pins s σ H x xs v us Q g cs d ds I rx r sr r1 r2 q => by
  unfold oDGet at q
  split at q
  · rename_i k
    obtain ⟨y, yr, e1, h1, h2⟩ := r2
    have h2' : yr = [] := h2
    subst e1 h2'
    obtain ⟨u, rfl, ru⟩ := vals1 r
    cases e2 : dicAt cs d with
    | none => rw [e2] at q; exact q.elim
    | some kvs =>
      cases e3 : keyD k with
      | none => simp only [e2, e3, bindP_some, bindP_none] at q
      | some key =>
        simp only [e2, e3, bindP_some] at q
        obtain ⟨a, vs, ea, h3, h4⟩ := dic_of sr e2 r1
        subst ea
        cases (show v = Value.ref a from rx)
        have ey := key_rep e3 h1
        subst ey
        exact d_get1 hu I (DGet.k h3) ru fun w' s' I' rw' => ⟨_, H, I', rw', q g H _ (Ext.refl g) sr (RepK.getD_rep key h4 rfl)⟩
  · rename_i k x'
    obtain ⟨y, yr, e1, h1, z, zr, e4, h5, h6⟩ := r2
    have h6' : zr = [] := h6
    subst e1 e4 h6'
    obtain ⟨u1, u2, rfl, ru, ru2⟩ := vals2 r
    cases e2 : dicAt cs d with
    | none => rw [e2] at q; exact q.elim
    | some kvs =>
      cases e3 : keyD k with
      | none => simp only [e2, e3, bindP_some, bindP_none] at q
      | some key =>
        simp only [e2, e3, bindP_some] at q
        obtain ⟨a, vs, ea, h3, h4⟩ := dic_of sr e2 r1
        subst ea
        cases (show v = Value.ref a from rx)
        have ey := key_rep e3 h1
        subst ey
        exact d_get2 hu I (DGet.k h3) ru ru2 fun w' s' I' rw' => ⟨_, H, I', rw', q g H _ (Ext.refl g) sr (RepK.getD_rep key h4 h5)⟩
  · exact q.elim
/-! ### a module's dict, texts to ints -/
def DLit : List DictEntry → List (Str × Int) → Prop
  | [], kvs => kvs = []
  | e :: es, kvs => ∃ (k : Str) (i : Int) (r : List (Str × Int)) (t u : Tok), kvs = (k, i) :: r ∧ e.key = .str k t ∧ e.val = .int i u ∧ DLit es r
theorem dlit_find : ∀ {es : List DictEntry} {kvs : List (Str × Int)} (y : Str), DLit es kvs → (match kvs.lookup y with
    | some i => ∃ e u, es.find? (·.key.isStr y) = some e ∧ e.val = .int i u
    | none => es.find? (·.key.isStr y) = none) ∧ es.any (·.refKey) = false
  | [], kvs, y, h => by
    have h' : kvs = [] := h
    subst h'
    exact ⟨rfl, rfl⟩
  | e :: es, kvs, y, h => by
    obtain ⟨k, i, r, t, u, e1, e2, e3, h4⟩ := h
    subst e1
    obtain ⟨q1, q2⟩ := dlit_find y h4
    have ek : e.key.isStr y = (k == y) := by rw [e2]; rfl
    refine ⟨?_, by rw [List.any_cons, q2, Bool.or_false]; unfold DictEntry.refKey; rw [e2]⟩
    rw [List.find?_cons, ek]
    by_cases hy : y = k
    · subst hy
      have b1 : (y == y) = true := by simp
      simp only [List.lookup, b1]
      exact ⟨e, u, rfl, e3⟩
    · have b1 : (k == y) = false := by simpa using fun z => hy z.symm
      have b2 : (y == k) = false := by simpa using hy
      simp only [List.lookup, b1, b2]
      exact q1
structure KDic (K : PySem.W.Frag) (w : World) (mg : Str → Option Value) (x : Str) (kvs : List (Str × Int)) : Prop where
  it : ∃ (a : Addr) (es : Array DictEntry) (n : Nat), mg x = some (.ref a) ∧ K.lookup a = some ⟨.type "dict", none, .dict es n, #[]⟩ ∧ PySem.W.KeysLit w.params es.toList ∧ (a == sysModules) = false ∧ DLit es.toList kvs
theorem kdic_in {K : PySem.W.Frag} {a : Addr} {es : Array DictEntry} {n : Nat} {kvs : List (Str × Int)} (hl : K.lookup a = some ⟨.type "dict", none, .dict es n, #[]⟩) (h : DLit es.toList kvs) (y : Str) :
    match kvs.lookup y with
    | some i => ∃ u, PySem.W.nsIn K a y = some (some (.int i u))
    | none => PySem.W.nsIn K a y = some none := by
  obtain ⟨q1, q2⟩ := dlit_find y h
  cases e : kvs.lookup y with
  | some i =>
    rw [e] at q1
    obtain ⟨en, u, f1, f2⟩ := q1
    refine ⟨u, ?_⟩
    unfold PySem.W.nsIn
    rw [hl]
    simp only [f1, f2]
  | none =>
    rw [e] at q1
    unfold PySem.W.nsIn
    rw [hl]
    simp only [q1, q2, Bool.false_eq_true, if_false]
def strK : D → Option Str
  | .str x => some x
  | _ => none
variable {e f : Expr} {wk wd : WE} {apos cpos p : Pos} {x : Str} {kvs : List (Str × Int)}
/-- NAME.get(k, d) -/
def wKGet (kvs : List (Str × Int)) (wk wd : WE) : WE := fun env cs Q => wk env cs fun k cs1 => wd env cs1 fun d cs2 => bindP (strK k) fun y => Q (((kvs.lookup y).map D.int).getD d) cs2
theorem de_kget (hK : KDic X.K X.w X.mg x kvs) (he : DE X e wk) (hf : DE X f wd) (hg : Gl X x := by rfl) (hd : (x == ("__debug__" : Str)) = false := by decide)
    (base : attributeBase (.Name x p) "get" X.env (eval (.Name x p) X.env) = eval (.Name x p) X.env := by rfl)
    (few : ((backTo cpos (starEach [e, f] X.env)).all (fun x => !x.1) && (backToKw cpos (keywordEach [] X.env)).all (fun x => x.1.isSome)
      && decide (([e, f] : List Expr).length + ([] : List Keyword).length + (if ([] : List Keyword).isEmpty then 0 else 1) < 30)) = true := by rfl)
    (line : (apos.endLine == cpos.line) = true := by rfl) (trees : backTo cpos (starEach [e, f] X.env) = [(false, eval e X.env), (false, eval f X.env)] := by rfl) :
    DE X (.Call (.Attribute (.Name x p) "get" apos) [e, f] [] cpos) (wKGet kvs wk wd) := by
  obtain ⟨a, es, n, hm, hl, hk, hs, hL⟩ := hK.it
  refine ⟨⟨fun pins s σ H Q I h => ?_⟩, fun env cs Q Q' h q => he.mo env cs _ _ (fun k cs1 q => hf.mo env cs1 _ _ (fun d cs2 q => bindP_mo (fun y q => h _ _ q) q) q) q⟩
  obtain ⟨g, cs, env, sr, l, h⟩ := h
  have h0 : tC (V.ref a) σ H fun x H1 => x = .ref a ∧ H1 = H := ⟨rfl, rfl⟩
  refine wpAny_Call_method base few line PySem.F.plainAttrs_dict PySem.F.slot_dict_get PySem.F.type_dict_get (thn ((pe_glob (v := .ref a) hg hm rfl hd).run pins s σ H _ I h0) fun u s1 ⟨x0, H1, I1, rx, ex, eH⟩ => ?_)
  subst ex eH
  obtain rfl : u = Value.ref a := rx
  have hM := fun (s2 : Shared) (k : PySem.W.Frag.In X.K s2.heap) => PySem.W.mapOf_K (prog := X.prog) (w := X.w) k hl hk
  refine ⟨(hM s1 I1.kIn).typeIs, fun b q => ?_, ?_⟩
  · cases q
    exact ⟨_, I1.kIn _ _ hl, rfl⟩
  rw [trees]
  have he' := lowE.go he.mo sr l h fun k cs1 g1 H1 v1 h1 e1 s1' r1 => (⟨g1, cs1, k, s1', e1, r1, h1⟩ : ∃ g1 cs1 k, Sr X.K g1 cs1 H1 ∧ Ext g g1 ∧ Rep X.K g1 k v1 ∧ wd env cs1 fun d cs2 => bindP (strK k) fun y => upV X.K g Q (((kvs.lookup y).map D.int).getD d) cs2)
  refine Calls.callWith_builtin rfl (Calls.evalArgs_plain (Calls.spliced_cons (thn (he.pe.run pins s1 σ H1 _ I1 he') fun iv s2 ⟨y, H2, I2, ry, g1, cs1, k, s1', e1, r1, h1⟩ => Calls.spliced_cons (thn (hf.pe.run pins s2 σ H2 _ I2
    (lowE.go hf.mo s1' (l.mono e1) h1 fun d cs2 g2 H2 v2 h2 e2 s2' r2 => (⟨g2, cs2, d, s2', e2, r2, h2⟩ : ∃ g2 cs2 d, Sr X.K g2 cs2 H2 ∧ Ext g1 g2 ∧ Rep X.K g2 d v2 ∧ bindP (strK k) fun y => upV X.K g Q (((kvs.lookup y).map D.int).getD d) cs2)))
    fun fv s3 ⟨z, H3, I3, rz, g2, cs2, d, s2', e2, r2, h2⟩ => Calls.spliced_nil ?_))))
  cases k with
  | str y' =>
    have h2' : upV X.K g Q (((kvs.lookup y').map D.int).getD d) cs2 := h2
    cases (show y = V.str y' from r1)
    obtain ⟨t, rfl⟩ := ry
    refine call_meetsIn PySem.F.slot_dict_get (hM s3 I3.kIn).typeIs PySem.F.entry_dict_get (PySem.F.args_dict_get_3 _ _ _) (meets_dict_get_default (strKind X.prog X.w) a (strKind_is X.prog X.w y' t) hs fv) ⟨_, hM s3 I3.kIn, ?_⟩
    have q := kdic_in hl hL y'
    cases ek : kvs.lookup y' with
    | none =>
      rw [ek] at q h2'
      have q' := PySem.W.find_K hl q
      rw [q']
      exact ⟨z, H3, I3.tok _, rz, h2' g2 H3 z (e1.trans e2) s2' r2⟩
    | some i =>
      rw [ek] at q h2'
      obtain ⟨u, q⟩ := q
      have q' := PySem.W.find_K hl q
      rw [q']
      exact ⟨.int i, H3, I3.tok _, ⟨u, rfl⟩, h2' g2 H3 _ (e1.trans e2) s2' rfl⟩
  | _ => exact h2.elim
/-- NAME[k], there -/
def wKIx (kvs : List (Str × Int)) (wk : WE) : WE := fun env cs Q => wk env cs fun k cs1 => bindP (strK k) fun y => bindP (kvs.lookup y) fun i => Q (.int i) cs1
theorem de_kix (hK : KDic X.K X.w X.mg x kvs) (he : DE X e wk) (hg : Gl X x := by rfl) (hd : (x == ("__debug__" : Str)) = false := by decide) (hs : PlainIx e := by exact fun _ _ => rfl) :
    DE X (.Subscript (.Name x p) e cpos) (wKIx kvs wk) := by
  obtain ⟨a, es, n, hm, hl, hk, hsm, hL⟩ := hK.it
  refine ⟨PE.imp (pe_ix ix_kdict (pe_glob (v := .ref a) hg hm rfl hd) he.pe hs) fun σ H Q ⟨g, cs, env, sr, l, h⟩ => ?_, fun env cs Q Q' h q => he.mo env cs _ _ (fun k cs1 q => bindP_mo (fun y q => bindP_mo (fun i q => h _ _ q) q) q) q⟩
  refine lowE.go he.mo sr l h fun k cs1 g1 H1 v1 h1 e1 s1 r1 => ?_
  cases k with
  | str y' =>
    cases (show v1 = V.str y' from r1)
    have h1' : bindP (kvs.lookup y') fun i => upV X.K g Q (.int i) cs1 := h1
    have q := kdic_in hl hL y'
    cases ek : kvs.lookup y' with
    | none => rw [ek] at h1'; exact h1'.elim
    | some i =>
      rw [ek] at q h1'
      obtain ⟨u, q⟩ := q
      exact ⟨a, y', .int i, rfl, rfl, ⟨es, n, .int i u, hl, hk, q, ⟨u, rfl⟩⟩, h1' g1 H1 _ e1 s1 rfl⟩
  | _ => exact h1.elim
end
section
variable {env : En} {cs : Sto} {Q : PD} {E : DN}
theorem oDGet1_eq (d k : D) : oDGet d [k] cs Q = bindP (dicAt cs d) fun kvs => bindP (keyD k) fun k => Q ((getD kvs k).getD .non) cs := (rfl)
theorem oDGet2_eq (d k x : D) : oDGet d [k, x] cs Q = bindP (dicAt cs d) fun kvs => bindP (keyD k) fun k => Q ((getD kvs k).getD x) cs := (rfl)
theorem dicAt_dic (kvs : List (Key × D)) : dicAt cs (.dic kvs) = some kvs := (rfl)
theorem wKGet_eq (kvs : List (Str × Int)) (wk wd : WE) : wKGet kvs wk wd env cs Q = wk env cs fun k cs1 => wd env cs1 fun d cs2 => bindP (strK k) fun y => Q (((kvs.lookup y).map D.int).getD d) cs2 := (rfl)
theorem wKIx_eq (kvs : List (Str × Int)) (wk : WE) : wKIx kvs wk env cs Q = wk env cs fun k cs1 => bindP (strK k) fun y => bindP (kvs.lookup y) fun i => Q (.int i) cs1 := (rfl)
theorem strK_str (x : Str) : strK (.str x) = some x := (rfl)
theorem rcv_dic {kvs : List (Key × D)} : (rcvT cs (.dic kvs) = some "dict") = True := eq_true rfl
end
/-! ### a[i], b[j] = x, y -/
def pairD : D → Option (D × D)
  | .tup [x, y] => some (x, y)
  | _ => none
def wSw2 (wt wo1 wi1 wo2 wi2 : WE) : WS := fun E env cs => wt env cs fun d cs1 => bindP (pairD d) fun p => wo1 env cs1 fun o1 c2 => wi1 env c2 fun k1 c3 => bindP (stoD c3 o1 k1 p.1) fun c4 =>
  wo2 env c4 fun o2 c5 => wi2 env c5 fun k2 c6 => bindP (stoD c6 o2 k2 p.2) fun c7 => E.nx env c7
theorem sto_ok {K : PySem.W.Frag} {g : G} {cs cs' : Sto} {H : Hp} {o k d : D} {vo vk v : V} {R : Hp → Prop} (s : Sr K g cs H) (ro : Rep K g o vo) (rk : Rep K g k vk) (r : Rep K g d v) (e : stoD cs o k d = some cs') (h : ∀ H', Sr K g cs' H' → R H') :
    ∃ (p : Addr) (vs : List V) (i : Int) (j : Nat), vo = .ref p ∧ vk = .int i ∧ H p = some (.lst vs) ∧ ixN vs.length i = some j ∧ R (upd H p (.lst (vs.set j v))) := by
  unfold stoD at e
  split at e
  · rename_i n i
    split at e
    · rename_i ds hc
      split at e
      · rename_i j hj
        cases e
        cases rk
        obtain ⟨p, e4, h4⟩ := ro
        subst e4
        obtain ⟨vs, q1, q2, q3⟩ := s.ok n p _ h4 hc
        exact ⟨p, vs, i, j, rfl, rfl, q1, by rw [← q2.length]; exact hj, h _ (s.put h4 hc (by simp) ⟨_, upd_same, q2.set r j, q3⟩)⟩
      · cases e
    · cases e
  · cases e
theorem ds_sw2 {X : Cx} {o1 i1 o2 i2 a b : Expr} {wA : WA} {wo1 wi1 wo2 wi2 : WE} {p1 p2 pt pv pos : Pos} {kt kv} (hc : X.calm = true) (ha : DA X [a, b] wA) (h1 : DE X o1 wo1) (k1 : DE X i1 wi1) (h2 : DE X o2 wo2) (k2 : DE X i2 wi2)
    (a1 : ∀ v, assign (.Subscript o1 i1 p1) X.env v = (do
      let ov ← holding [v] (eval o1 X.env)
      let iv ← holding [v, ov] (eval i1 X.env)
      standAt p1
      holding [v, ov, iv] (setItem ov iv v)
      release [v, ov, iv] []) := by intro _; rfl)
    (a2 : ∀ v, assign (.Subscript o2 i2 p2) X.env v = (do
      let ov ← holding [v] (eval o2 X.env)
      let iv ← holding [v, ov] (eval i2 X.env)
      standAt p2
      holding [v, ov, iv] (setItem ov iv v)
      release [v, ov, iv] []) := by intro _; rfl)
    (hn : (assignEach [.Subscript o1 i1 p1, .Subscript o2 i2 p2] X.env).length = 2 := by rfl) (hst : (assignEach [.Subscript o1 i1 p1, .Subscript o2 i2 p2] X.env).findIdx? (·.1) = none := by rfl)
    (e1 : (assignEach [.Subscript o1 i1 p1, .Subscript o2 i2 p2] X.env).map (·.2) = assign (.Subscript o1 i1 p1) X.env :: (assignEach [.Subscript o2 i2 p2] X.env).map (·.2) := by rfl)
    (e2 : (assignEach [.Subscript o2 i2 p2] X.env).map (·.2) = assign (.Subscript o2 i2 p2) X.env :: (assignEach [] X.env).map (·.2) := by rfl)
    (hs : swapsWithSole [.Tuple [.Subscript o1 i1 p1, .Subscript o2 i2 p2] kt pt] (.Tuple [a, b] kv pv) pos.line X.env = pure false := by rfl) (hw : swappedStores [.Tuple [.Subscript o1 i1 p1, .Subscript o2 i2 p2] kt pt] (.Tuple [a, b] kv pv) X.env = pure none := by rfl)
    (e3 : (assignEach [.Tuple [.Subscript o1 i1 p1, .Subscript o2 i2 p2] kt pt] X.env).map (·.2) = [assign (.Tuple [.Subscript o1 i1 p1, .Subscript o2 i2 p2] kt pt) X.env] := by rfl) :
    DS X (.Assign [.Tuple [.Subscript o1 i1 p1, .Subscript o2 i2 p2] kt pt] (.Tuple [a, b] kv pv) pos) (wSw2 (wTup wA) wo1 wi1 wo2 wi2) := by
  have he : DE X (.Tuple [a, b] kv pv) (wTup wA) := de_tup ha
  refine ⟨PS.imp (ps_asg he.pe (pg_tup hc (pgs_cons (pg_sub h1.pe k1.pe set_list a1) (pgs_cons (pg_sub h2.pe k2.pe set_list a2) pgs_nil e2) e1) hn hst) hs hw e3) fun Dn σ H ⟨g, cs, env, sr, l, h⟩ => ?_,
    fun E E' env cs h q => he.mo _ _ _ _ (fun d cs1 q => bindP_mo (fun p q => h1.mo _ _ _ _ (fun o c2 q => k1.mo _ _ _ _ (fun k c3 q => bindP_mo (fun c4 q => h2.mo _ _ _ _ (fun o c5 q => k2.mo _ _ _ _ (fun k c6 q => bindP_mo (fun c7 q => h.nx _ _ q) q) q) q) q) q) q) q) q⟩
  refine lowE.go he.mo sr l h fun d cs1 g1 H1 v1 q1 x1 s1 r1 => ?_
  cases d with
  | tup ds =>
    match ds, q1, r1 with
    | [x, y], q1, r1 =>
      obtain ⟨p, vs, ev, hv, rl⟩ := r1
      obtain ⟨u, ur, eu, ru, w, wr, ew, rw', en⟩ := rl
      have en' : wr = [] := en
      subst eu ew en' ev
      refine ⟨p, _, rfl, sqT_mono s1.le hv, rfl, u, _, rfl, ?_⟩
      refine lowE.go h1.mo s1 (l.mono x1) q1 fun od c2 g2 H2 v2 q2 x2 s2 r2 => lowE.go k1.mo s2 ((l.mono x1).mono x2) q2 fun kd c3 g3 H3 v3 q3 x3 s3 r3 => ?_
      cases es : stoD c3 od kd x with
      | none => rw [es] at q3; exact q3.elim
      | some c4 =>
        rw [es] at q3
        have q3' : wo2 env c4 fun o2 c5 => wi2 env c5 fun k2 c6 => bindP (stoD c6 o2 k2 y) fun c7 => (upN X.K g Dn).nx env c7 := q3
        refine sto_ok s3 (r2.mono x3) r3 ((ru.mono x2).mono x3) es fun H4 s4 => ⟨w, [], rfl, ?_⟩
        have l3 := ((l.mono x1).mono x2).mono x3
        refine lowE.go h2.mo s4 l3 q3' fun od c5 g5 H5 v5 q5 x5 s5 r5 => lowE.go k2.mo s5 (l3.mono x5) q5 fun kd c6 g6 H6 v6 q6 x6 s6 r6 => ?_
        cases es2 : stoD c6 od kd y with
        | none => rw [es2] at q6; exact q6.elim
        | some c7 =>
          rw [es2] at q6
          refine sto_ok s6 (r5.mono x6) r6 ((((rw'.mono x2).mono x3).mono x5).mono x6) es2 fun H7 s7 => ⟨rfl, ?_⟩
          exact q6 g6 H7 σ ((((x1.trans x2).trans x3).trans x5).trans x6) s7 ((l3.mono x5).mono x6)
  | _ => exact q1.elim
theorem wSw2_eq {env : En} {cs : Sto} {E : DN} (wt wo1 wi1 wo2 wi2 : WE) : wSw2 wt wo1 wi1 wo2 wi2 E env cs = wt env cs fun d cs1 => bindP (pairD d) fun p => wo1 env cs1 fun o1 c2 => wi1 env c2 fun k1 c3 => bindP (stoD c3 o1 k1 p.1) fun c4 =>
  wo2 env c4 fun o2 c5 => wi2 env c5 fun k2 c6 => bindP (stoD c6 o2 k2 p.2) fun c7 => E.nx env c7 := (rfl)
theorem pairD_tup (x y : D) : pairD (.tup [x, y]) = some (x, y) := (rfl)
/-! ### [x] * n, new and changing -/
def mulC (cs : Sto) : D → D → Option (Prop × List D)
  | d1, .int k => (lstOf cs d1).map fun xs => (-(2 ^ 63) ≤ k ∧ k < 2 ^ 63 ∧ xs.length * k.toNat ≤ sizeLine, (List.replicate k.toNat xs).flatten)
  | _, _ => none
def oMulC : O2 := fun d1 d2 cs Q => bindP (mulC cs d1 d2) fun p => p.1 ∧ Q (.cell cs.length) (cs ++ [.lst p.2])
theorem opd_mulC : OpD X (binaryOp .Mult) oMulC := .mk' (fun d1 d2 cs Q Q' h q => bindP_mo (fun p q => ⟨q.1, h _ _ q.2⟩) q) fun pins s σ H x y v u Q g cs d1 d2 I rx ry sr r1 r2 q => by
  unfold oMulC at q
  cases d2 with
  | int k =>
    cases e : lstOf cs d1 with
    | none =>
      simp only [mulC, e, Option.map_none, bindP_none] at q
    | some xs =>
      simp only [mulC, e, Option.map_some, bindP_some] at q
      obtain ⟨⟨z1, z2, z3⟩, q⟩ := q
      cases r2
      obtain ⟨p, vs, f1, h1, h2⟩ := rd_of sr e r1
      subst f1
      exact op_rep pins s σ H _ _ v u Q I rx ry ⟨p, _, vs, rfl, rfl, h1, z1, z2, by rw [← h2.length]; exact z3, new_cel sr (h2.rep _) q⟩
  | _ => exact q.elim
theorem oMulC_eq (d1 d2 : D) {cs : Sto} {Q : PD} : oMulC d1 d2 cs Q = bindP (mulC cs d1 d2) fun p => p.1 ∧ Q (.cell cs.length) (cs ++ [.lst p.2]) := (rfl)
theorem mulC_lst (xs : List D) (k : Int) {cs : Sto} : mulC cs (.lst xs) (.int k) = some (-(2 ^ 63) ≤ k ∧ k < 2 ^ 63 ∧ xs.length * k.toNat ≤ sizeLine, (List.replicate k.toNat xs).flatten) := (rfl)
end DL

/-! DIns: comprehensions whose list will change; insert. -/
namespace DL
open PySem PySem.Spec PyProof.Rows L2
section
variable {K : PySem.W.Frag} {g : G} {cs : Sto} {H : Hp}
/-- what was held becomes a changing object -/
theorem Sr.uncel (s : Sr K g cs H) {p : Addr} {o : HO} {r : List (Addr × HO)} (e : g.rs = (p, o) :: r) {c : CO} (hc : COk K { g with as := g.as ++ [p], rs := r } H p c) : Sr K { g with as := g.as ++ [p], rs := r } (cs ++ [c]) H := by
  obtain ⟨q1, q2, q3⟩ := s.rs (p, o) (by rw [e]; exact List.mem_cons_self)
  have rn := s.rn
  rw [e] at rn
  have sb : Sub g { g with as := g.as ++ [p], rs := r } := ⟨fun a u h => h, ⟨[p], rfl⟩⟩
  refine ⟨s.le, ?_, ?_, fun a ha => ?_, fun i a d h1 h2 => ?_, fun q hq => ?_, (List.nodup_cons.mp rn).2⟩
  · show (g.as ++ [p]).length = (cs ++ [c]).length
    rw [List.length_append, List.length_append, s.len]
    rfl
  · show (g.as ++ [p]).Nodup
    rw [List.nodup_append]
    refine ⟨s.nd, by simp, ?_⟩
    intro a ha b hb
    have : b = p := by simpa using hb
    subst this
    exact fun z => q3 (by rw [← z]; exact ha)
  · have ha' : a ∈ g.as ++ [p] := ha
    rcases List.mem_append.mp ha' with q | q
    · exact s.th a q
    · have : a = p := by simpa using q
      subst this
      have q1' : H a = some o := q1
      rw [q1']
      simp
  · have h1' : (g.as ++ [p])[i]? = some a := h1
    by_cases hi : i < g.as.length
    · rw [List.getElem?_append_left hi] at h1'
      rw [List.getElem?_append_left (by rw [← s.len]; exact hi)] at h2
      exact (s.ok i a d h1' h2).mono sb (fun hd => (s.ok i a d h1' h2).free hd) (fun _ u hu => hu)
    · have hi2 : i < (g.as ++ [p]).length := (List.getElem?_eq_some_iff.mp h1').1
      rw [List.length_append, List.length_singleton] at hi2
      have e2 : i = g.as.length := by omega
      subst e2
      have ea : a = p := by
        have := h1'
        simp at this
        exact this.symm
      rw [s.len] at h2
      have ed : d = c := by
        have := h2
        simp at this
        exact this.symm
      subst ea ed
      exact hc
  · obtain ⟨r1, r2, r3⟩ := s.rs q (by rw [e]; exact List.mem_cons_of_mem _ hq)
    refine ⟨r1, r2, fun hm => ?_⟩
    have hm' : q.1 ∈ g.as ++ [p] := hm
    rcases List.mem_append.mp hm' with z | z
    · exact r3 z
    · have : q.1 = p := by simpa using z
      exact (List.nodup_cons.mp rn).1 (List.mem_map.mpr ⟨q, hq, this⟩)
end
/-- a list just made, from now on changing -/
def celD (d : D) (cs : Sto) (Q : PD) : Prop := match d with
  | .lst ds => Q (.cell cs.length) (cs ++ [.lst ds])
  | _ => False
theorem celD_mo {d : D} {cs : Sto} {Q Q' : PD} (h : ∀ d cs, Q d cs → Q' d cs) (q : celD d cs Q) : celD d cs Q' := by
  cases d with
  | lst ds => exact h _ _ q
  | _ => exact q.elim
def wLcC (wi : WI) (p : Pat) (tt : WT) (we : WE) (vs : List Nat) : WE := fun env cs Q => wLc wi p tt we vs env cs fun d cs' => celD d cs' Q
theorem wLcC.mo {wi : WI} {p : Pat} {tt : WT} {we : WE} {vs : List Nat} (mi : MonoI wi) (mt : MonoT tt) (me : MonoE we) : MonoE (wLcC wi p tt we vs) := fun env cs Q Q' h q =>
  wLc.mo mi mt me env cs _ _ (fun d cs1 q => celD_mo h q) q
theorem wLcC_eq (wi : WI) (p : Pat) (tt : WT) (we : WE) (vs : List Nat) {env : En} {cs : Sto} {Q : PD} : wLcC wi p tt we vs env cs Q = wLc wi p tt we vs env cs fun d cs' => celD d cs' Q := (rfl)
theorem celD_lst (ds : List D) {cs : Sto} {Q : PD} : celD (.lst ds) cs Q = Q (.cell cs.length) (cs ++ [.lst ds]) := (rfl)
theorem low_lcC {K : PySem.W.Frag} {wi : WI} {p : Pat} {tt : WT} {we : WE} {vs : List Nat} (mi : MonoI wi) (mt : MonoT tt) (me : MonoE we) (hsl : ∀ i ∈ slots p, i ∈ vs) {σ : L2.St} {H : Hp} {Q : VK}
    (h : lowE K (wLcC wi p tt we vs) σ H Q) : tLc (lowI K wi) (gOf K p) (lowT K tt) (lowE K we) vs σ H Q := by
  obtain ⟨g, cs, env, s, l, h⟩ := h
  refine lowI.go mi s l h fun ds W cs1 g1 H1 J ⟨hz, h1⟩ e1 s1 hJ => ?_
  intro Dd hD
  refine ⟨fun i m H => m = ds.length - i ∧ i ≤ ds.length ∧ ∃ g2 cs2 acc vacc, Sub g1 g2 ∧ g2.rs = (Dd, .lst vacc) :: g1.rs ∧ Sr K g2 cs2 H ∧ RepL K g2 acc vacc ∧ acc.length ≤ i ∧ lcloop p tt we (wipeE env vs) W (fun d cs => celD d cs (upV K g Q)) (ds.drop i) acc cs2,
    ⟨ds.length, by simp, Nat.zero_le _, g1.hold Dd (.lst []), cs1, [], [], ⟨fun _ _ h => h, ⟨[], by simp [G.hold]⟩⟩, rfl, s1.hold hD _, rfl, Nat.le_refl _, by simpa using h1⟩, ?_⟩
  rintro i m H2 ⟨rfl, hi', g2, cs2, acc, vacc, sb, er, s2, ra, hla, hf⟩
  by_cases hlt : i < ds.length
  · rw [List.drop_eq_getElem_cons hlt] at hf
    unfold lcloop at hf
    obtain ⟨hw, hf⟩ := hf
    obtain ⟨stop, go⟩ := hJ g2 cs2 H2 sb s2 hw
    obtain ⟨hgo, hy⟩ := go i ds[i] (by simp [hlt])
    refine .inr ⟨hgo, fun H' => ∃ g3 cs3 acc3 vacc3, Sub g1 g3 ∧ g3.rs = (Dd, .lst vacc3) :: g1.rs ∧ Sr K g3 cs3 H' ∧ RepL K g3 acc3 vacc3 ∧ acc3.length ≤ i + 1 ∧ lcloop p tt we (wipeE env vs) W (fun d cs => celD d cs (upV K g Q)) (ds.drop (i + 1)) acc3 cs3,
      fun H' ⟨g3, cs3, acc3, vacc3, q⟩ => ⟨ds.length - (i + 1), by omega, rfl, hlt, g3, cs3, acc3, vacc3, q⟩, fun x H' y => ?_⟩
    obtain ⟨g3, e3, s3, r3⟩ := hy x H' y
    split at hf
    · rename_i env' hp'
      have lw : Lr K g3 (wipeE env vs) (wipe σ vs) := ⟨((l.mono e1).wiped vs).len, fun i d h => by
        obtain ⟨v, q1, q2⟩ := ((l.mono e1).wiped vs).ok i d h
        exact ⟨v, q1, Rep.sub e3.sub _ _ (Rep.sub sb _ _ q2)⟩⟩
      refine gOf_ok s3 p _ x (wipeE env vs) env' (wipe σ vs) _ r3 lw hp' fun σ' l' hwp => ⟨(hwp vs hsl).trans (wipe_wipe σ (fun i h => h)), ?_⟩
      refine lowT.go mt s3 l' hf fun b cs4 g4 H4 h4 e4 s4 => ?_
      have sb4 : Sub g1 g4 := ⟨fun a o h => e4.z _ _ (e3.z _ _ (sb.z a o h)), by
        obtain ⟨t, q⟩ := sb.a
        obtain ⟨t3, q3⟩ := e3.a
        obtain ⟨t4, q4⟩ := e4.a
        exact ⟨t ++ (t3 ++ t4), by rw [q4, q3, q]; simp⟩⟩
      have er4 : g4.rs = (Dd, .lst vacc) :: g1.rs := by rw [e4.r, e3.r, er]
      refine ite_mono (fun h4 => ?_) (fun h4 => ?_) h4
      · refine lowE.go me s4 (l'.mono e4) h4 fun y' cs5 g5 H5 v5 h5 e5 s5 r5 => ?_
        have er5 : g5.rs = (Dd, .lst vacc) :: g1.rs := by rw [e5.r, er4]
        obtain ⟨q1, q2, q3⟩ := s5.rs (Dd, .lst vacc) (by rw [er5]; exact List.mem_cons_self)
        have ra5 : RepL K g5 acc vacc := ((ra.mono e3).mono e4).mono e5
        have l5 : vacc.length = acc.length := ra.length.symm
        have sb5 : Sub g5 { g5 with rs := (Dd, .lst (vacc ++ [v5])) :: g1.rs } := ⟨fun _ _ h => h, ⟨[], by simp⟩⟩
        refine ⟨vacc, q1, by omega, { g5 with rs := (Dd, .lst (vacc ++ [v5])) :: g1.rs }, cs5, acc ++ [y'], vacc ++ [v5], ⟨fun a o h => e5.z _ _ (sb4.z a o h), ?_⟩, rfl, s5.rehold er5, (ra5.append (.cons r5 .nil)).sub' sb5, by simp; omega, h5⟩
        obtain ⟨t, q⟩ := sb4.a
        obtain ⟨t3, q3⟩ := e5.a
        exact ⟨t ++ t3, by show g5.as = _; rw [q3, q]; simp⟩
      · exact ⟨g4, cs4, acc, vacc, sb4, er4, s4, (ra.mono e3).mono e4, by omega, h4⟩
    · exact hf.elim
  · have e : i = ds.length := by omega
    subst e
    rw [List.drop_length] at hf
    obtain ⟨hw, hf⟩ := hf
    obtain ⟨stop, go⟩ := hJ g2 cs2 H2 sb s2 hw
    refine .inl ⟨stop _ (Nat.le_refl _), ?_⟩
    obtain ⟨q1, q2, q3⟩ := s2.rs (Dd, .lst vacc) (by rw [er]; exact List.mem_cons_self)
    have sb3 : Sub g2 { g2 with as := g2.as ++ [Dd], rs := g1.rs } := ⟨fun a o h => h, ⟨[Dd], rfl⟩⟩
    have s3 := s2.uncel (c := .lst acc) er ⟨vacc, q1, ra.sub' sb3, q2⟩
    have e3 : Ext g1 { g2 with as := g2.as ++ [Dd], rs := g1.rs } := by
      refine ⟨fun a o h => sb.z a o h, ?_, rfl⟩
      obtain ⟨t, q⟩ := sb.a
      exact ⟨t ++ [Dd], by show g2.as ++ [Dd] = _; rw [q, List.append_assoc]⟩
    have hf' : upV K g Q (.cell cs2.length) (cs2 ++ [.lst acc]) := hf
    exact hf' _ H2 _ (e1.trans e3) s3 ⟨Dd, rfl, by
      show (g2.as ++ [Dd])[cs2.length]? = some Dd
      rw [← s2.len]
      simp⟩

section
variable {X : Cx}
theorem de_lcC {elt tg iter : Expr} {ifs : List Expr} {scope : Scope} {own : List (Str × Nat)} {wi : WI} {p : Pat} {tt : WT} {we : WE} {pos : Pos} (hc : X.calm = true) (hN : X.N.Nodup) (hi : DI X tg iter wi) (ok : BlkOk X.N X.env.scope scope own)
    (hg : ∀ (s : Shared) (H : Hp) (C : Addr) (cl : List (Str × Addr)) (fp : List Addr), DG (X.blk s H scope (compEnvC scope cl C X.env) fp) tg p) (ht : ∀ (s : Shared) (H : Hp) (C : Addr) (cl : List (Str × Addr)) (fp : List Addr), DTs (X.blk s H scope (compEnvC scope cl C X.env) fp) ifs tt)
    (he : ∀ (s : Shared) (H : Hp) (C : Addr) (cl : List (Str × Addr)) (fp : List Addr), DE (X.blk s H scope (compEnvC scope cl C X.env) fp) elt we) (hs : ∀ x, foldedSetIterable iter X.env x = pure x := by intro _; rfl) (hsl : ∀ i ∈ slots p, i ∈ own.map (·.2) := by decide) :
    DE X (.ListComp elt [⟨tg, iter, ifs, 0⟩] scope pos) (wLcC wi p tt we (own.map (·.2))) := by
  have mt : MonoT tt := (ht {} (fun _ => none) 0 [] []).mo
  have me : MonoE we := (he {} (fun _ => none) 0 [] []).mo
  exact ⟨PE.imp (pe_lc (wi := lowI X.K wi) (g := gOf X.K p) (tt := lowT X.K tt) (te := lowE X.K we) hc hN hi.pe ok (fun s H C cl fp => (hg s H C cl fp).pg) (fun s H C cl fp => (ht s H C cl fp).pe) (fun s H C cl fp => (he s H C cl fp).pe) hs) fun σ H Q h => low_lcC hi.mo mt me hsl h, wLcC.mo hi.mo mt me⟩
theorem ds_setLcC {i : Nat} {y : Str} {py : Pos} {spos pos : Pos} {elt tg iter : Expr} {ifs : List Expr} {scope : Scope} {own : List (Str × Nat)} {wi : WI} {p : Pat} {tt : WT} {we : WE} (hc : X.calm = true) (hN : X.N.Nodup)
    (hsw : swapsWith (.ListComp elt [⟨tg, iter, ifs, 0⟩] scope pos) (some (.Name y py)) spos.line X.env = pure true) (hi : DI X tg iter wi) (ok : BlkOk X.N X.env.scope scope own)
    (hg : ∀ (s : Shared) (H : Hp) (C : Addr) (cl : List (Str × Addr)) (fp : List Addr), DG (X.blk s H scope (compEnvC scope cl C X.env) fp) tg p) (ht : ∀ (s : Shared) (H : Hp) (C : Addr) (cl : List (Str × Addr)) (fp : List Addr), DTs (X.blk s H scope (compEnvC scope cl C X.env) fp) ifs tt)
    (he : ∀ (s : Shared) (H : Hp) (C : Addr) (cl : List (Str × Addr)) (fp : List Addr), DE (X.blk s H scope (compEnvC scope cl C X.env) fp) elt we) (hy : X.N[i]? = some y := by rfl) (hyl : X.env.scope.names.lookup y = some .local := by rfl) (hs : ∀ x, foldedSetIterable iter X.env x = pure x := by intro _; rfl) (hsl : ∀ i ∈ slots p, i ∈ own.map (·.2) := by decide) :
    DS X (.Assign [.Name y py] (.ListComp elt [⟨tg, iter, ifs, 0⟩] scope pos) spos) (wSet i (wLcC wi p tt we (own.map (·.2)))) := by
  have mt : MonoT tt := (ht {} (fun _ => none) 0 [] []).mo
  have me : MonoE we := (he {} (fun _ => none) 0 [] []).mo
  refine ⟨PS.imp (ps_setLc (wi := lowI X.K wi) (g := gOf X.K p) (tt := lowT X.K tt) (te := lowE X.K we) hc hN hy hyl hsw hi.pe ok (fun s H C cl fp => (hg s H C cl fp).pg) (fun s H C cl fp => (ht s H C cl fp).pe) (fun s H C cl fp => (he s H C cl fp).pe) hs) fun D σ H h => ?_, wSet.mo (wLcC.mo hi.mo mt me)⟩
  obtain ⟨g, cs, env, s, l, h⟩ := h
  refine low_lcC hi.mo mt me hsl ⟨g, cs, env, s, l, wLcC.mo hi.mo mt me _ _ _ _ (fun d cs1 q => ?_) h⟩
  exact fun g1 H1 v e1 s1 r1 => q g1 H1 _ e1 s1 ((l.mono e1).set r1)
/-! ### insert -/
def insS (cs : Sto) (d : D) (ds : List D) : Option (Prop × Sto) := match d, ds with
  | .cell n, [.int i, y] => (lstAt cs n).map fun xs => (xs.length < sizeLine ∧ 0 ≤ i ∧ i < 2 ^ 63, cs.set n (.lst (xs.take i.toNat ++ [y] ++ xs.drop i.toNat)))
  | _, _ => none
def oIns : OM := fun d ds cs Q => bindP (insS cs d ds) fun p => p.1 ∧ Q .non p.2
theorem md_insert : MtD X "list.insert" oIns := .mk' (fun d ds cs Q Q' h q => bindP_mo (fun p q => ⟨q.1, h _ _ q.2⟩) q) fun pins s σ H x xs v us Q g cs d ds I rx r sr r1 r2 q => by
  unfold oIns at q
  cases ea : insS cs d ds with
  | none => rw [ea] at q; exact q.elim
  | some p =>
    rw [ea] at q
    obtain ⟨hz, q⟩ := q
    unfold insS at ea
    split at ea
    · rename_i n i y
      cases el : lstAt cs n with
      | none => rw [el] at ea; cases ea
      | some ys =>
        rw [el] at ea
        cases ea
        obtain ⟨a, e1, h1⟩ := r1
        subst e1
        obtain ⟨vs, q1, q2, q3⟩ := sr.ok n a _ h1 (lstAt_some el)
        obtain ⟨u, ur, e2, h2, u2, ur2, e3, h3, h4⟩ := r2
        have h4' : ur2 = [] := h4
        subst e2 e3 h4'
        cases h2
        exact mt_insert pins s σ H _ _ v us Q I rx r ⟨a, vs, i, u2, rfl, rfl, q1, by rw [← q2.length]; exact hz.1, hz.2.1, hz.2.2, q g _ _ (Ext.refl g) (sr.put h1 (lstAt_some el) (by simp) ⟨_, upd_same, ((q2.take i.toNat).append (.cons h3 .nil)).append (q2.drop i.toNat), q3⟩) rfl⟩
    · cases ea
theorem oIns_eq (d : D) (ds : List D) {cs : Sto} {Q : PD} : oIns d ds cs Q = bindP (insS cs d ds) fun p => p.1 ∧ Q .non p.2 := (rfl)
theorem insS_cell (n : Nat) (i : Int) (y : D) {cs : Sto} : insS cs (.cell n) [.int i, y] = (lstAt cs n).map fun xs => (xs.length < sizeLine ∧ 0 ≤ i ∧ i < 2 ^ 63, cs.set n (.lst (xs.take i.toNat ++ [y] ++ xs.drop i.toNat))) := (rfl)
end
end DL

/-! DStar: stars in displays; a tuple or a list backwards. -/
namespace DL
open PySem PySem.Spec PyProof.Rows L2
/-! ### stars in displays -/
def wStar (we : WE) (w : WA) : WA := fun env cs Q => we env cs fun d cs1 => bindP (seqOf cs1 d) fun xs => w env cs1 fun ys cs2 => Q (xs ++ ys) cs2
section
variable {X : Cx}
theorem da_star {a : Expr} {es : List Expr} {wa : WE} {wr : WA} {p : Pos} (ha : DE X a wa) (hr : DA X es wr) (hs : starEach (.Starred a p :: es) X.env = (true, eval a X.env) :: starEach es X.env := by rfl) : DA X (.Starred a p :: es) (wStar wa wr) :=
  ⟨PA.imp (StX.pa_star ha.pe hr.pe hs) fun σ H Q ⟨g, cs, env, s, l, h⟩ => lowE.go ha.mo s l h fun d1 cs1 g1 H1 v1 h1 e1 s1 r1 => by
      cases e : seqOf cs1 d1 with
      | none => rw [e] at h1; exact h1.elim
      | some xs =>
        rw [e] at h1
        simp only [bindP_some] at h1
        obtain ⟨b, vs, eb, hb, rl⟩ := seq_of s1 e r1
        exact ⟨b, vs, eb, hb.symm, lowA.go hr.mo s1 (l.mono e1) h1 fun ds cs2 g2 H2 ws h2 e2 s2 r2 => h2 g2 H2 _ (e1.trans e2) s2 ((rl.mono e2).append r2)⟩,
    fun env cs Q Q' h q => ha.mo env cs _ _ (fun d1 cs1 q1 => bindP_mo (fun xs q2 => hr.mo env cs1 _ _ (fun _ _ q3 => h _ _ q3) q2) q1) q⟩
end
theorem wStar_eq (we : WE) (w : WA) {env : En} {cs : Sto} {Q : List D → Sto → Prop} : wStar we w env cs Q = we env cs fun d cs1 => bindP (seqOf cs1 d) fun xs => w env cs1 fun ys cs2 => Q (xs ++ ys) cs2 := (rfl)
/-! ### backwards -/
section
variable {prog : Program} {w : World} {A : Around} {E : Value → Shared → Prop} {s : Shared}
theorem adjust_rev (n : Nat) : Builtin.Slice.sliceAdjust none none (-1) (n : Int) = ((n : Int) - 1, -1) := by
  unfold Builtin.Slice.sliceAdjust
  simp
theorem places_rev (n : Nat) : Builtin.Slice.slicePlaces ((n : Int) - 1) (-1) (-1) = n := by
  unfold Builtin.Slice.slicePlaces
  have h1 : ¬ ((-1 : Int) > 0) := by omega
  have e : (- -1 : Int) = 1 := by decide
  simp only [h1, if_false, e, Int.ediv_one]
  split <;> omega
theorem sliceApplied_rev {sl : Addr} {vl vu vs : Value} {n : Nat} {Q : Int × Int × Nat → Shared → Prop} (hs : s.heap.IsSliceOf sl vl vu vs) (pl : IsPart vl none) (pu : IsPart vu none) (ps : IsPart vs (some (-1)))
    (h : Q ((n : Int) - 1, -1, n) s) : wpAny (model prog w) A (Builtin.Slice.sliceApplied (.ref sl) (pure (n : Int))) Q E s := by
  obtain ⟨os, hos, hcs, hds⟩ := id hs
  unfold Builtin.Slice.sliceApplied Builtin.Slice.sliceFields
  refine wpAny_bind (wpAny_bind (wpAny_field hos hds (x := vl) rfl (wpAny_bind (wpAny_field hos hds (x := vu) rfl (wpAny_bind (wpAny_field hos hds (x := vs) rfl (wpAny_pure ?_)))))))
  refine wpAny_bind (HT.slicePart_ ps ?_)
  show wpAny _ _ (if ((-1 : Int) == 0) = true then _ else _) _ _ s
  rw [if_neg (by decide)]
  refine wpAny_bind (HT.slicePart_ pl (wpAny_bind (HT.slicePart_ pu (wpAny_bind (wpAny_pure ?_)))))
  show wpAny _ _ (match Builtin.Slice.sliceAdjust none none (-1) (n : Int) with | (lo, hi) => pure (lo, (-1 : Int), Builtin.Slice.slicePlaces lo hi (-1))) _ _ s
  rw [adjust_rev n]
  show wpAny _ _ (pure ((n : Int) - 1, (-1 : Int), Builtin.Slice.slicePlaces ((n : Int) - 1) (-1) (-1))) _ _ s
  rw [places_rev]
  exact wpAny_pure h
theorem pick_rev (xs : Array Value) : ((List.range xs.size).filterMap fun (m : Nat) => xs[(((xs.size : Int) - 1) + (m : Int) * (-1)).toNat]?).toArray = xs.toList.reverse.toArray := by
  have e : ((List.range xs.size).filterMap fun (m : Nat) => xs[(((xs.size : Int) - 1) + (m : Int) * (-1)).toNat]?) = ((List.range xs.size).map fun k => xs.size - 1 - k).filterMap (xs[·]?) := by
    rw [List.filterMap_map]
    have go : ∀ l : List Nat, (∀ m ∈ l, m < xs.size) → (l.filterMap fun (m : Nat) => xs[(((xs.size : Int) - 1) + (m : Int) * (-1)).toNat]?) = l.filterMap ((xs[·]?) ∘ fun k => xs.size - 1 - k) := by
      intro l
      induction l with
      | nil => intro _; rfl
      | cons m l ih =>
        intro h
        have hm' := h m List.mem_cons_self
        have : (((xs.size : Int) - 1) + (m : Int) * (-1)).toNat = xs.size - 1 - m := by omega
        rw [List.filterMap_cons, List.filterMap_cons, ih fun y hy => h y (List.mem_cons_of_mem _ hy), this]
        rfl
    exact go _ fun m hm => List.mem_range.mp hm
  rw [e, PySem.W.krv_range, List.filterMap_reverse, PySem.W.krv_all]
theorem getItem_tuple_rev {t sl : Addr} {items : Array Value} {vl vu vs : Value} {Q : Value → Shared → Prop} (ht : IsTup s.heap t items) (hs : s.heap.IsSliceOf sl vl vu vs) (pl : IsPart vl none) (pu : IsPart vu none) (ps : IsPart vs (some (-1)))
    (h : Q (.ref s.heap.objs.size) { s with heap := s.heap.push { cls := .type "tuple", data := .seq items.toList.reverse.toArray } })
    (hsz : items.size ≤ sizeLine) : wpAny (model prog w) A (getItem (.ref t) (.ref sl)) Q E s := by
  have htake : sizeOk (.seq items.toList.reverse.toArray) := by
    show items.toList.reverse.toArray.size ≤ sizeLine
    rw [List.size_toArray, List.length_reverse, Array.length_toList]
    exact hsz
  obtain ⟨os, hos, hcs, hds⟩ := id hs
  have hTs : s.TypeIs (.ref sl) "slice" := ⟨os, hos, hcs⟩
  unfold getItem
  try with_reducible refine wpAny_holding ?_
  first | refine wpAny_bind (wpAny_pure ?_) | skip
  refine wpAny_bind (wpAny_sequenceKey ht.typeIs (by decide) ?_)
  refine wpAny_bind (wpAny_callSpecial?_slot (name := Str.ofString "__getitem__") ht.typeIs PyProof.Rows.slot_tuple_getitem
    (wpAny_call_entry PyProof.Rows.slot_tuple_getitem ht.typeIs PyProof.Rows.entry_tuple_getitem ?_ (PyProof.Rows.args_tuple_getitem _ _)))
  show wpAny _ _ (Builtin.Tuple.tupleItemsOf (.ref t) >>= _) _ _ s
  refine wpAny_bind (PyProof.Rows.tupleItemsOf_ ht ?_)
  refine wpAny_bind (wpAny_typeOf hTs ?_)
  rw [if_pos (by decide)]
  refine wpAny_bind (sliceApplied_rev hs pl pu ps ?_)
  have hno : ¬ ((((items.size : Int) - 1) == 0 && (-1 : Int) == 1 && items.size == items.size) = true) := by
    intro q
    rw [Bool.and_eq_true, Bool.and_eq_true] at q
    exact absurd q.1.2 (by decide)
  show wpAny _ _ (if ((((items.size : Int) - 1) == 0 && (-1 : Int) == 1 && items.size == items.size) = true) then _ else _) _ _ s
  rw [if_neg hno, pick_rev]
  first
    | exact wpAny_bind (m := Builtin.Tuple.tupleExact _) (wpAny_newObj_type (wpAny_pure ⟨_, rfl, wpAny_pure h⟩) htake)
    | exact wpAny_bind (m := Builtin.Tuple.tupleExact _) (wpAny_newObj_type (wpAny_bind (wpAny_pure (wpAny_pure ⟨_, rfl, wpAny_pure h⟩))) htake)
    | exact wpAny_bind (wpAny_bind (m := Builtin.Tuple.tupleExact _) (wpAny_newObj_type (wpAny_pure (wpAny_pure ⟨_, rfl, wpAny_pure h⟩)) htake))
    | exact wpAny_bind (wpAny_bind (m := Builtin.Tuple.tupleExact _) (wpAny_newObj_type (wpAny_pure ⟨_, rfl, wpAny_pure h⟩) htake))
end
section
variable {X : Cx}
def tRevT (K : PySem.W.Frag) (te : TE) : TE := fun σ H Q => te σ H fun x H1 => ∃ a xs, x = .ref a ∧ SqT K H1 a xs ∧ ∀ p, H1 p = none → Q (.ref p) (upd H1 p (.tup xs.reverse))
theorem pe_revT {e : Expr} {te : TE} {k : Nat} {p1 p2 p3 pos : Pos} (he : PE X e te) : PE X (.Subscript e (.Slice none none (some (.UnaryOp .USub (.Constant (.int 1) k p1) p2)) p3) pos) (tRevT X.K te) := by
  refine ⟨fun pins s σ H Q I h => ?_⟩
  refine Subscript_ (thn (he.run pins s σ H _ I h) fun v s1 ⟨x, H1, I1, r1, q1⟩ => ?_)
  obtain ⟨a, xs, ex, hx, q⟩ := q1
  subst ex
  cases r1
  have hst : PO X (some (.UnaryOp .USub (.Constant (.int 1) k p1) p2)) (tPart (tUn (rU fun i => .int (-i)) (tC (.int 1)))) := po_some (pe_un un_neg pe_int)
  refine wpAny_Slice (thn (po_none.run pins s1 σ H1 (fun o H2 => o = none ∧ H2 = H1) I1 ⟨rfl, rfl⟩) fun vl s2 ⟨l, H2, I2, pl, el, e2⟩ => ?_)
  subst el e2
  refine thn (po_none.run pins s2 σ H2 (fun o H3 => o = none ∧ H3 = H2) I2 ⟨rfl, rfl⟩) fun vu s3 ⟨u, H3, I3, pu, eu, e3⟩ => ?_
  subst eu e3
  refine thn (hst.run pins s3 σ H3 (fun o H4 => o = some (-1) ∧ H4 = H3) I3 ⟨1, rfl, -1, rfl, rfl, rfl⟩) fun vs s4 ⟨o, H4, I4, ps, eo, e4⟩ => ?_
  subst eo e4
  have I5 : Inv X pins σ H4 { s4 with heap := s4.heap.push { cls := .type "slice", data := .fields #[vl, vu, vs] } } := I4.kept (t' := s4.toks) fun b ob q => Heap.get?_push_of_some _ q
  obtain ⟨its, r, ht, hz⟩ := I5.tuple hx
  have hlen := r.length
  show wpAny (model X.prog X.w) X.A (subscriptTail e (.Slice none none (some (.UnaryOp .USub (.Constant (.int 1) k p1) p2)) p3) (.ref a) (.ref s4.heap.objs.size)) (EP X pins σ Q) X.xe { s4 with heap := s4.heap.push { cls := .type "slice", data := .fields #[vl, vu, vs] } }
  refine tail_any (ops := [.ref a, .ref s4.heap.objs.size]) ht.typeIs (PyProof.Rows.slot_tuple_getitem.lookup) ?_ (by with_unfolding_all rfl)
  refine getItem_tuple_rev ht (Heap.IsSliceOf.new _ vl vu vs) pl pu ps ?_ (by rw [List.size_toArray]; omega)
  refine ⟨.ref _, _, I5.laid (t' := s4.toks) (o := .tup xs.reverse) (fun b ob q => Heap.get?_push_of_some _ q) (Nat.le_refl _) ?_, rfl, q _ (I5.hok.fresh (Nat.le_refl _))⟩
  exact ⟨by rw [List.length_reverse]; exact hz, _, r.reverse, IsTup.new _ _⟩
/-- t[::-1], t a tuple -/
def revT : D → Option (List D)
  | .tup ds => some ds
  | _ => none
def wRevT (we : WE) : WE := fun env cs Q => we env cs fun d cs1 => bindP (revT d) fun ds => Q (.tup ds.reverse) cs1
theorem RepL.rev {K : PySem.W.Frag} {g : G} : ∀ {ds : List D} {vs : List V}, RepL K g ds vs → RepL K g ds.reverse vs.reverse
  | [], vs, r => by
    have r' : vs = [] := r
    subst r'
    exact rfl
  | d :: ds, vs, r => by
    obtain ⟨v, r', e1, h1, h2⟩ := r
    subst e1
    rw [List.reverse_cons, List.reverse_cons]
    exact (RepL.rev h2).append (.cons h1 .nil)
theorem de_revT {e : Expr} {we : WE} {k : Nat} {p1 p2 p3 pos : Pos} (he : DE X e we) : DE X (.Subscript e (.Slice none none (some (.UnaryOp .USub (.Constant (.int 1) k p1) p2)) p3) pos) (wRevT we) :=
  ⟨PE.imp (pe_revT he.pe) fun σ H Q ⟨g, cs, env, s, l, h⟩ => lowE.go he.mo s l h fun d cs1 g1 H1 v1 h1 e1 s1 r1 => by
      cases d with
      | tup ds =>
        have h1' : upV X.K g Q (.tup ds.reverse) cs1 := h1
        obtain ⟨p, vs, ev, hv, rl⟩ := r1
        subst ev
        exact ⟨p, vs, rfl, sqT_mono s1.le hv, new_tup s1 (RepL.rev rl) (upV.mono e1 h1')⟩
      | _ => exact h1.elim,
    fun env cs Q Q' h q => he.mo env cs _ _ (fun d cs1 q1 => bindP_mo (fun ds q2 => h _ _ q2) q1) q⟩
theorem wRevT_eq (we : WE) {env : En} {cs : Sto} {Q : PD} : wRevT we env cs Q = we env cs fun d cs1 => bindP (revT d) fun ds => Q (.tup ds.reverse) cs1 := (rfl)
theorem revT_tup (ds : List D) : revT (.tup ds) = some ds := (rfl)
end
/-! ### << of wide ints -/
theorem opd_shlW {X : Cx} : OpD X (binaryOp .LShift) (oI CShl fun i j => .int (i * 2 ^ j.toNat)) := opd_int (fun _ _ _ => rfl) op_shlW
end DL

namespace Law
open PySem PySem.Spec L2 DL
open PyProof.Rows (envOfC)
def top (i : Nat) : Stmt := PySem.Challenge.pw_lookmade_k16_whole_what_is_undone_and_be.main.body.getD i (.Pass ⟨0, 0, 0, 0⟩)
def clsB : Stmt → List Stmt
  | .ClassDef (body := b) .. => b
  | _ => []
abbrev s__law_cooper : Stmt := top 66
abbrev s_is_integer : Stmt := top 10
abbrev s_is_within : Stmt := top 11
abbrev s_is_deed : Stmt := top 32
abbrev s_Program___init__ : Stmt := (clsB (top 33)).getD 0 (.Pass ⟨0, 0, 0, 0⟩)
abbrev s__law_plus : Stmt := top 70
abbrev s__law_spun : Stmt := top 72
abbrev s__law_times : Stmt := top 73
abbrev s__law_plain : Stmt := top 74
abbrev s__law_hoop : Stmt := top 67
abbrev s__law_one : Stmt := top 68
abbrev s__law_deed : Stmt := top 69
abbrev s__law_spread : Stmt := top 78
abbrev s__law_has : Stmt := top 75
abbrev s__law_minus : Stmt := top 71
abbrev s__law_from : Stmt := top 76
abbrev s__law_done : Stmt := top 77
abbrev s__law_behind : Stmt := top 79
abbrev s__law_both_of : Stmt := top 81
abbrev s__law_length : Stmt := top 80
abbrev s_times : Stmt := top 45
abbrev s_mirror : Stmt := top 47
abbrev s_others : Stmt := top 48
abbrev s_divisor_of : Stmt := top 51
abbrev s_plain : Stmt := top 52
abbrev s_turn_by : Stmt := top 46
abbrev s_turn_place : Stmt := top 53
abbrev s_plus : Stmt := top 43
abbrev s_minus : Stmt := top 44
abbrev s_mix : Stmt := top 55
abbrev s_tie : Stmt := top 56
abbrev s_exchange : Stmt := top 54
abbrev s_lay : Stmt := top 57
abbrev s_width : Stmt := top 50
abbrev s_swapped : Stmt := top 60
abbrev s_exchange_where : Stmt := top 59
abbrev s_deed_done : Stmt := top 61
abbrev s_meant_by : Stmt := top 62
abbrev s_need_program : Stmt := top 34
abbrev s_is_amount : Stmt := top 12
abbrev s_is_spread : Stmt := top 13
abbrev s_need_spread : Stmt := top 14
abbrev s_need_wires : Stmt := top 63
abbrev s_meaning : Stmt := top 64
abbrev s_need_few : Stmt := top 35
abbrev s_joined : Stmt := top 39
abbrev s_turned_about : Stmt := top 36
abbrev s_undone : Stmt := top 38
abbrev s__law_undone_right : Stmt := top 82
abbrev s_moved_on : Stmt := top 37
abbrev s_aside : Stmt := top 40
abbrev s_law : Stmt := top 83
abbrev N__law_cooper : List Str := ["_law_script", "_law_cell"]
abbrev N_is_integer : List Str := ["value"]
abbrev N_is_within : List Str := ["value", "least", "most"]
abbrev N_is_deed : List Str := ["value", "wires", "its", "many", "is_turned", "wire"]
abbrev N_Program___init__ : List Str := ["self", "wires", "deeds", "each"]
abbrev N__law_plus : List Str := ["_law_one_here", "_law_other"]
abbrev N__law_spun : List Str := ["_law_amount", "_law_turn", "_law_found", "_law_step"]
abbrev N__law_times : List Str := ["_law_one_here", "_law_other", "_law_found", "_law_at", "_law_number"]
abbrev N__law_plain : List Str := ["_law_spread_here", "_law_by", "_law_amount", "_law_a", "_law_b", "_law_c", "_law_d", "_law_found", "_law_least", "_law_number", "_law_one_here", "_law_other"]
abbrev N__law_hoop : List Str := ["_law_cooper_here", "_law_many", "_law_turn", "_law_cell", "_law_mixed", "_law_left"]
abbrev N__law_one : List Str := ["_law_cooper_here", "_law_some"]
abbrev N__law_deed : List Str := ["_law_cooper_here", "_law_wires", "_law_words", "_law_word", "_law_many", "_law_turn", "_law_left", "_law_found"]
abbrev N__law_spread : List Str := ["_law_cooper_here", "_law_places", "_law_at", "_law_found", "_law_most", "_law_few", "_law_amount", "_law_place"]
abbrev N__law_has : List Str := ["_law_at", "_law_wire"]
abbrev N__law_minus : List Str := ["_law_amount"]
abbrev N__law_from : List Str := ["_law_at", "_law_deed_here", "_law_word", "_law_wires", "_law_wire"]
abbrev N__law_done : List Str := ["_law_spread_here", "_law_deed_here", "_law_word", "_law_wires", "_law_found", "_law_at", "_law_amount", "_law_near"]
abbrev N__law_behind : List Str := ["_law_spread_here", "_law_deeds", "_law_deed_here"]
abbrev N__law_both_of : List Str := ["_law_one_here", "_law_other", "_law_found", "_law_its", "_law_mine"]
abbrev N__law_length : List Str := ["_law_spread_here", "_law_first", "_law_second", "_law_a", "_law_b", "_law_c", "_law_d"]
abbrev N_times : List Str := ["one", "other", "a", "b", "c", "d", "e", "f", "g", "h"]
abbrev N_mirror : List Str := ["amount", "a", "b", "c", "d"]
abbrev N_others : List Str := ["amount", "a", "b", "c", "d"]
abbrev N_divisor_of : List Str := ["amounts", "found", "amount", "number", "one", "other"]
abbrev N_plain : List Str := ["spread", "by", "found", "least", "amount", "a", "b", "c", "d"]
abbrev N_turn_by : List Str := ["amount", "turn", "rest", "a", "b", "c", "d"]
abbrev N_turn_place : List Str := ["spread", "place", "turn", "at", "amount"]
abbrev N_plus : List Str := ["one", "other"]
abbrev N_minus : List Str := ["amount"]
abbrev N_mix : List Str := ["spread", "place", "bit", "found", "at", "amount"]
abbrev N_tie : List Str := ["spread", "one", "other", "both", "at", "amount"]
abbrev N_exchange : List Str := ["spread", "place", "at"]
abbrev N_lay : List Str := ["spread", "order", "found", "at", "new", "its"]
abbrev N_width : List Str := ["spread"]
abbrev N_swapped : List Str := ["spread", "one", "other", "order"]
abbrev N_exchange_where : List Str := ["spread", "places", "place", "mask", "each", "at", "amount"]
abbrev N_deed_done : List Str := ["spread", "deed", "word", "its"]
abbrev N_meant_by : List Str := ["program", "spread", "found", "deed"]
abbrev N_need_program : List Str := ["value", "part"]
abbrev N_is_amount : List Str := ["value", "number"]
abbrev N_is_spread : List Str := ["value", "many", "each"]
abbrev N_need_spread : List Str := ["value", "part", "each"]
abbrev N_need_wires : List Str := ["program", "spread", "told"]
abbrev N_meaning : List Str := ["program", "spread"]
abbrev N_need_few : List Str := ["deeds"]
abbrev N_joined : List Str := ["one", "other", "found"]
abbrev N_turned_about : List Str := ["deed"]
abbrev N_undone : List Str := ["program", "deed"]
abbrev N__law_undone_right : List Str := ["_law_wires", "_law_deeds", "_law_spread_here", "_law_behind_here", "_law_program", "_law_mixes", "_law_first", "_law_second", "_law_deed_here"]
abbrev N_moved_on : List Str := ["deed", "many", "wires", "wire"]
abbrev N_aside : List Str := ["one", "other", "found", "deed"]
abbrev N_law : List Str := ["_law_script", "_law_cooper_here", "_law_mine", "_law_its", "_law_far", "_law_due", "_law_wires", "_law_more", "_law_here", "_law_there", "_law_one_here", "_law_other", "_law_third", "_law_turn"]
structure Cs where
  Program : Addr
structure Txt (w : World) (K : PySem.W.Frag) (mg : Str → Option Value) where
  cs : Cs
  f__law_cooper : Addr
  d__law_cooper : FuncData
  F__law_cooper : Fun K "_law_cooper" "_law_cooper" s__law_cooper f__law_cooper d__law_cooper
  m__law_cooper : mg "_law_cooper" = some (.ref f__law_cooper)
  b__law_cooper : Binds K d__law_cooper ["_law_script"] []
  f_is_integer : Addr
  d_is_integer : FuncData
  F_is_integer : Fun K "is_integer" "is_integer" s_is_integer f_is_integer d_is_integer
  m_is_integer : mg "is_integer" = some (.ref f_is_integer)
  b_is_integer : Binds K d_is_integer ["value"] []
  f_is_within : Addr
  d_is_within : FuncData
  F_is_within : Fun K "is_within" "is_within" s_is_within f_is_within d_is_within
  m_is_within : mg "is_within" = some (.ref f_is_within)
  b_is_within : Binds K d_is_within ["value", "least", "most"] []
  f_is_deed : Addr
  d_is_deed : FuncData
  F_is_deed : Fun K "is_deed" "is_deed" s_is_deed f_is_deed d_is_deed
  m_is_deed : mg "is_deed" = some (.ref f_is_deed)
  b_is_deed : Binds K d_is_deed ["value", "wires"] []
  f_Program___init__ : Addr
  d_Program___init__ : FuncData
  F_Program___init__ : Fun K "__init__" "Program.__init__" s_Program___init__ f_Program___init__ d_Program___init__
  b_Program___init__ : Binds K d_Program___init__ ["self", "wires", "deeds"] []
  f__law_plus : Addr
  d__law_plus : FuncData
  F__law_plus : Fun K "_law_plus" "_law_plus" s__law_plus f__law_plus d__law_plus
  m__law_plus : mg "_law_plus" = some (.ref f__law_plus)
  b__law_plus : Binds K d__law_plus ["_law_one_here", "_law_other"] []
  f__law_spun : Addr
  d__law_spun : FuncData
  F__law_spun : Fun K "_law_spun" "_law_spun" s__law_spun f__law_spun d__law_spun
  m__law_spun : mg "_law_spun" = some (.ref f__law_spun)
  b__law_spun : Binds K d__law_spun ["_law_amount", "_law_turn"] []
  f__law_times : Addr
  d__law_times : FuncData
  F__law_times : Fun K "_law_times" "_law_times" s__law_times f__law_times d__law_times
  m__law_times : mg "_law_times" = some (.ref f__law_times)
  b__law_times : Binds K d__law_times ["_law_one_here", "_law_other"] []
  f__law_plain : Addr
  d__law_plain : FuncData
  F__law_plain : Fun K "_law_plain" "_law_plain" s__law_plain f__law_plain d__law_plain
  m__law_plain : mg "_law_plain" = some (.ref f__law_plain)
  b__law_plain : Binds K d__law_plain ["_law_spread_here"] []
  f__law_hoop : Addr
  d__law_hoop : FuncData
  F__law_hoop : Fun K "_law_hoop" "_law_hoop" s__law_hoop f__law_hoop d__law_hoop
  m__law_hoop : mg "_law_hoop" = some (.ref f__law_hoop)
  b__law_hoop : Binds K d__law_hoop ["_law_cooper_here", "_law_many"] []
  f__law_one : Addr
  d__law_one : FuncData
  F__law_one : Fun K "_law_one" "_law_one" s__law_one f__law_one d__law_one
  m__law_one : mg "_law_one" = some (.ref f__law_one)
  b__law_one : Binds K d__law_one ["_law_cooper_here", "_law_some"] []
  f__law_deed : Addr
  d__law_deed : FuncData
  F__law_deed : Fun K "_law_deed" "_law_deed" s__law_deed f__law_deed d__law_deed
  m__law_deed : mg "_law_deed" = some (.ref f__law_deed)
  b__law_deed : Binds K d__law_deed ["_law_cooper_here", "_law_wires"] []
  f__law_spread : Addr
  d__law_spread : FuncData
  F__law_spread : Fun K "_law_spread" "_law_spread" s__law_spread f__law_spread d__law_spread
  m__law_spread : mg "_law_spread" = some (.ref f__law_spread)
  b__law_spread : Binds K d__law_spread ["_law_cooper_here", "_law_places"] []
  f__law_has : Addr
  d__law_has : FuncData
  F__law_has : Fun K "_law_has" "_law_has" s__law_has f__law_has d__law_has
  m__law_has : mg "_law_has" = some (.ref f__law_has)
  b__law_has : Binds K d__law_has ["_law_at", "_law_wire"] []
  f__law_minus : Addr
  d__law_minus : FuncData
  F__law_minus : Fun K "_law_minus" "_law_minus" s__law_minus f__law_minus d__law_minus
  m__law_minus : mg "_law_minus" = some (.ref f__law_minus)
  b__law_minus : Binds K d__law_minus ["_law_amount"] []
  f__law_from : Addr
  d__law_from : FuncData
  F__law_from : Fun K "_law_from" "_law_from" s__law_from f__law_from d__law_from
  m__law_from : mg "_law_from" = some (.ref f__law_from)
  b__law_from : Binds K d__law_from ["_law_at", "_law_deed_here"] []
  f__law_done : Addr
  d__law_done : FuncData
  F__law_done : Fun K "_law_done" "_law_done" s__law_done f__law_done d__law_done
  m__law_done : mg "_law_done" = some (.ref f__law_done)
  b__law_done : Binds K d__law_done ["_law_spread_here", "_law_deed_here"] []
  f__law_behind : Addr
  d__law_behind : FuncData
  F__law_behind : Fun K "_law_behind" "_law_behind" s__law_behind f__law_behind d__law_behind
  m__law_behind : mg "_law_behind" = some (.ref f__law_behind)
  b__law_behind : Binds K d__law_behind ["_law_spread_here", "_law_deeds"] []
  f__law_both_of : Addr
  d__law_both_of : FuncData
  F__law_both_of : Fun K "_law_both_of" "_law_both_of" s__law_both_of f__law_both_of d__law_both_of
  m__law_both_of : mg "_law_both_of" = some (.ref f__law_both_of)
  b__law_both_of : Binds K d__law_both_of ["_law_one_here", "_law_other"] []
  f__law_length : Addr
  d__law_length : FuncData
  F__law_length : Fun K "_law_length" "_law_length" s__law_length f__law_length d__law_length
  m__law_length : mg "_law_length" = some (.ref f__law_length)
  b__law_length : Binds K d__law_length ["_law_spread_here"] []
  f_times : Addr
  d_times : FuncData
  F_times : Fun K "times" "times" s_times f_times d_times
  m_times : mg "times" = some (.ref f_times)
  b_times : Binds K d_times ["one", "other"] []
  f_mirror : Addr
  d_mirror : FuncData
  F_mirror : Fun K "mirror" "mirror" s_mirror f_mirror d_mirror
  m_mirror : mg "mirror" = some (.ref f_mirror)
  b_mirror : Binds K d_mirror ["amount"] []
  f_others : Addr
  d_others : FuncData
  F_others : Fun K "others" "others" s_others f_others d_others
  m_others : mg "others" = some (.ref f_others)
  b_others : Binds K d_others ["amount"] []
  f_divisor_of : Addr
  d_divisor_of : FuncData
  F_divisor_of : Fun K "divisor_of" "divisor_of" s_divisor_of f_divisor_of d_divisor_of
  m_divisor_of : mg "divisor_of" = some (.ref f_divisor_of)
  b_divisor_of : Binds K d_divisor_of ["amounts"] []
  f_plain : Addr
  d_plain : FuncData
  F_plain : Fun K "plain" "plain" s_plain f_plain d_plain
  m_plain : mg "plain" = some (.ref f_plain)
  b_plain : Binds K d_plain ["spread"] []
  f_turn_by : Addr
  d_turn_by : FuncData
  F_turn_by : Fun K "turn_by" "turn_by" s_turn_by f_turn_by d_turn_by
  m_turn_by : mg "turn_by" = some (.ref f_turn_by)
  b_turn_by : Binds K d_turn_by ["amount", "turn"] []
  f_turn_place : Addr
  d_turn_place : FuncData
  F_turn_place : Fun K "turn_place" "turn_place" s_turn_place f_turn_place d_turn_place
  m_turn_place : mg "turn_place" = some (.ref f_turn_place)
  b_turn_place : Binds K d_turn_place ["spread", "place", "turn"] []
  f_plus : Addr
  d_plus : FuncData
  F_plus : Fun K "plus" "plus" s_plus f_plus d_plus
  m_plus : mg "plus" = some (.ref f_plus)
  b_plus : Binds K d_plus ["one", "other"] []
  f_minus : Addr
  d_minus : FuncData
  F_minus : Fun K "minus" "minus" s_minus f_minus d_minus
  m_minus : mg "minus" = some (.ref f_minus)
  b_minus : Binds K d_minus ["amount"] []
  f_mix : Addr
  d_mix : FuncData
  F_mix : Fun K "mix" "mix" s_mix f_mix d_mix
  m_mix : mg "mix" = some (.ref f_mix)
  b_mix : Binds K d_mix ["spread", "place"] []
  f_tie : Addr
  d_tie : FuncData
  F_tie : Fun K "tie" "tie" s_tie f_tie d_tie
  m_tie : mg "tie" = some (.ref f_tie)
  b_tie : Binds K d_tie ["spread", "one", "other"] []
  f_exchange : Addr
  d_exchange : FuncData
  F_exchange : Fun K "exchange" "exchange" s_exchange f_exchange d_exchange
  m_exchange : mg "exchange" = some (.ref f_exchange)
  b_exchange : Binds K d_exchange ["spread", "place"] []
  f_lay : Addr
  d_lay : FuncData
  F_lay : Fun K "lay" "lay" s_lay f_lay d_lay
  m_lay : mg "lay" = some (.ref f_lay)
  b_lay : Binds K d_lay ["spread", "order"] []
  f_width : Addr
  d_width : FuncData
  F_width : Fun K "width" "width" s_width f_width d_width
  m_width : mg "width" = some (.ref f_width)
  b_width : Binds K d_width ["spread"] []
  f_swapped : Addr
  d_swapped : FuncData
  F_swapped : Fun K "swapped" "swapped" s_swapped f_swapped d_swapped
  m_swapped : mg "swapped" = some (.ref f_swapped)
  b_swapped : Binds K d_swapped ["spread", "one", "other"] []
  f_exchange_where : Addr
  d_exchange_where : FuncData
  F_exchange_where : Fun K "exchange_where" "exchange_where" s_exchange_where f_exchange_where d_exchange_where
  m_exchange_where : mg "exchange_where" = some (.ref f_exchange_where)
  b_exchange_where : Binds K d_exchange_where ["spread", "places", "place"] []
  f_deed_done : Addr
  d_deed_done : FuncData
  F_deed_done : Fun K "deed_done" "deed_done" s_deed_done f_deed_done d_deed_done
  m_deed_done : mg "deed_done" = some (.ref f_deed_done)
  b_deed_done : Binds K d_deed_done ["spread", "deed"] []
  f_meant_by : Addr
  d_meant_by : FuncData
  F_meant_by : Fun K "meant_by" "meant_by" s_meant_by f_meant_by d_meant_by
  m_meant_by : mg "meant_by" = some (.ref f_meant_by)
  b_meant_by : Binds K d_meant_by ["program", "spread"] []
  f_need_program : Addr
  d_need_program : FuncData
  F_need_program : Fun K "need_program" "need_program" s_need_program f_need_program d_need_program
  m_need_program : mg "need_program" = some (.ref f_need_program)
  b_need_program : Binds K d_need_program ["value", "part"] []
  f_is_amount : Addr
  d_is_amount : FuncData
  F_is_amount : Fun K "is_amount" "is_amount" s_is_amount f_is_amount d_is_amount
  m_is_amount : mg "is_amount" = some (.ref f_is_amount)
  b_is_amount : Binds K d_is_amount ["value"] []
  f_is_spread : Addr
  d_is_spread : FuncData
  F_is_spread : Fun K "is_spread" "is_spread" s_is_spread f_is_spread d_is_spread
  m_is_spread : mg "is_spread" = some (.ref f_is_spread)
  b_is_spread : Binds K d_is_spread ["value"] []
  f_need_spread : Addr
  d_need_spread : FuncData
  F_need_spread : Fun K "need_spread" "need_spread" s_need_spread f_need_spread d_need_spread
  m_need_spread : mg "need_spread" = some (.ref f_need_spread)
  b_need_spread : Binds K d_need_spread ["value", "part"] []
  f_need_wires : Addr
  d_need_wires : FuncData
  F_need_wires : Fun K "need_wires" "need_wires" s_need_wires f_need_wires d_need_wires
  m_need_wires : mg "need_wires" = some (.ref f_need_wires)
  b_need_wires : Binds K d_need_wires ["program", "spread"] []
  f_meaning : Addr
  d_meaning : FuncData
  F_meaning : Fun K "meaning" "meaning" s_meaning f_meaning d_meaning
  m_meaning : mg "meaning" = some (.ref f_meaning)
  b_meaning : Binds K d_meaning ["program", "spread"] []
  f_need_few : Addr
  d_need_few : FuncData
  F_need_few : Fun K "need_few" "need_few" s_need_few f_need_few d_need_few
  m_need_few : mg "need_few" = some (.ref f_need_few)
  b_need_few : Binds K d_need_few ["deeds"] []
  f_joined : Addr
  d_joined : FuncData
  F_joined : Fun K "joined" "joined" s_joined f_joined d_joined
  m_joined : mg "joined" = some (.ref f_joined)
  b_joined : Binds K d_joined ["one", "other"] []
  f_turned_about : Addr
  d_turned_about : FuncData
  F_turned_about : Fun K "turned_about" "turned_about" s_turned_about f_turned_about d_turned_about
  m_turned_about : mg "turned_about" = some (.ref f_turned_about)
  b_turned_about : Binds K d_turned_about ["deed"] []
  f_undone : Addr
  d_undone : FuncData
  F_undone : Fun K "undone" "undone" s_undone f_undone d_undone
  m_undone : mg "undone" = some (.ref f_undone)
  b_undone : Binds K d_undone ["program"] []
  f__law_undone_right : Addr
  d__law_undone_right : FuncData
  F__law_undone_right : Fun K "_law_undone_right" "_law_undone_right" s__law_undone_right f__law_undone_right d__law_undone_right
  m__law_undone_right : mg "_law_undone_right" = some (.ref f__law_undone_right)
  b__law_undone_right : Binds K d__law_undone_right ["_law_wires", "_law_deeds", "_law_spread_here"] []
  f_moved_on : Addr
  d_moved_on : FuncData
  F_moved_on : Fun K "moved_on" "moved_on" s_moved_on f_moved_on d_moved_on
  m_moved_on : mg "moved_on" = some (.ref f_moved_on)
  b_moved_on : Binds K d_moved_on ["deed", "many"] []
  f_aside : Addr
  d_aside : FuncData
  F_aside : Fun K "aside" "aside" s_aside f_aside d_aside
  m_aside : mg "aside" = some (.ref f_aside)
  b_aside : Binds K d_aside ["one", "other"] []
  f_law : Addr
  d_law : FuncData
  F_law : Fun K "law" "law" s_law f_law d_law
  m_law : mg "law" = some (.ref f_law)
  b_law : Binds K d_law ["_law_script"] []
  m_Program : mg "Program" = some (.ref cs.Program)
  c_Program : IsC K cs.Program
  M_Program : Mk K cs.Program f_Program___init__
  n_Program_wires : NoAttr K cs.Program "wires"
  n_Program_deeds : NoAttr K cs.Program "deeds"
  k_WIRES_IN : KDic K w mg "WIRES_IN" [("turn", 1), ("mix", 1), ("sign", 2), ("not", 1), ("under", 2), ("swap", 2), ("both", 3)]
  z_abs : mg "abs" = none
  z_all : mg "all" = none
  z_any : mg "any" = none
  z_bool : mg "bool" = none
  z_enumerate : mg "enumerate" = none
  z_int : mg "int" = none
  z_isinstance : mg "isinstance" = none
  z_len : mg "len" = none
  z_list : mg "list" = none
  z_range : mg "range" = none
  z_repr : mg "repr" = none
  z_set : mg "set" = none
  z_str : mg "str" = none
  z_sum : mg "sum" = none
  z_tuple : mg "tuple" = none
  k_MOST_DEEDS : KonD K mg "MOST_DEEDS" (D.int 200)
  k_MOST_PLACES : KonD K mg "MOST_PLACES" (D.int 12)
  k_MOST_WIRES : KonD K mg "MOST_WIRES" (D.int 8)
  k_NOTHING : KonD K mg "NOTHING" (D.tup [D.int 0, D.int 0, D.int 0, D.int 0])
section
variable {P : Program} {w : World} {K : PySem.W.Frag} {mg : Str → Option Value} {base : Heap}
theorem sc__law_cooper : FnScope N__law_cooper ["_law_script"] (defScope s__law_cooper) := ⟨rfl, rfl, rfl, by decide +kernel, rfl, by decide +kernel, by decide +kernel⟩
theorem sc_is_integer : FnScope N_is_integer ["value"] (defScope s_is_integer) := ⟨rfl, rfl, rfl, by decide +kernel, rfl, by decide +kernel, by decide +kernel⟩
theorem sc_is_within : FnScope N_is_within ["value", "least", "most"] (defScope s_is_within) := ⟨rfl, rfl, rfl, by decide +kernel, rfl, by decide +kernel, by decide +kernel⟩
theorem sc_is_deed : FnScope N_is_deed ["value", "wires"] (defScope s_is_deed) := ⟨rfl, rfl, rfl, by decide +kernel, rfl, by decide +kernel, by decide +kernel⟩
theorem sc_Program___init__ : FnScope N_Program___init__ ["self", "wires", "deeds"] (defScope s_Program___init__) := ⟨rfl, rfl, rfl, by decide +kernel, rfl, by decide +kernel, by decide +kernel⟩
theorem sc__law_plus : FnScope N__law_plus ["_law_one_here", "_law_other"] (defScope s__law_plus) := ⟨rfl, rfl, rfl, by decide +kernel, rfl, by decide +kernel, by decide +kernel⟩
theorem sc__law_spun : FnScope N__law_spun ["_law_amount", "_law_turn"] (defScope s__law_spun) := ⟨rfl, rfl, rfl, by decide +kernel, rfl, by decide +kernel, by decide +kernel⟩
theorem sc__law_times : FnScope N__law_times ["_law_one_here", "_law_other"] (defScope s__law_times) := ⟨rfl, rfl, rfl, by decide +kernel, rfl, by decide +kernel, by decide +kernel⟩
theorem sc__law_plain : FnScope N__law_plain ["_law_spread_here"] (defScope s__law_plain) := ⟨rfl, rfl, rfl, by decide +kernel, rfl, by decide +kernel, by decide +kernel⟩
theorem sc__law_hoop : FnScope N__law_hoop ["_law_cooper_here", "_law_many"] (defScope s__law_hoop) := ⟨rfl, rfl, rfl, by decide +kernel, rfl, by decide +kernel, by decide +kernel⟩
theorem sc__law_one : FnScope N__law_one ["_law_cooper_here", "_law_some"] (defScope s__law_one) := ⟨rfl, rfl, rfl, by decide +kernel, rfl, by decide +kernel, by decide +kernel⟩
theorem sc__law_deed : FnScope N__law_deed ["_law_cooper_here", "_law_wires"] (defScope s__law_deed) := ⟨rfl, rfl, rfl, by decide +kernel, rfl, by decide +kernel, by decide +kernel⟩
theorem sc__law_spread : FnScope N__law_spread ["_law_cooper_here", "_law_places"] (defScope s__law_spread) := ⟨rfl, rfl, rfl, by decide +kernel, rfl, by decide +kernel, by decide +kernel⟩
theorem sc__law_has : FnScope N__law_has ["_law_at", "_law_wire"] (defScope s__law_has) := ⟨rfl, rfl, rfl, by decide +kernel, rfl, by decide +kernel, by decide +kernel⟩
theorem sc__law_minus : FnScope N__law_minus ["_law_amount"] (defScope s__law_minus) := ⟨rfl, rfl, rfl, by decide +kernel, rfl, by decide +kernel, by decide +kernel⟩
theorem sc__law_from : FnScope N__law_from ["_law_at", "_law_deed_here"] (defScope s__law_from) := ⟨rfl, rfl, rfl, by decide +kernel, rfl, by decide +kernel, by decide +kernel⟩
theorem sc__law_done : FnScope N__law_done ["_law_spread_here", "_law_deed_here"] (defScope s__law_done) := ⟨rfl, rfl, rfl, by decide +kernel, rfl, by decide +kernel, by decide +kernel⟩
theorem sc__law_behind : FnScope N__law_behind ["_law_spread_here", "_law_deeds"] (defScope s__law_behind) := ⟨rfl, rfl, rfl, by decide +kernel, rfl, by decide +kernel, by decide +kernel⟩
theorem sc__law_both_of : FnScope N__law_both_of ["_law_one_here", "_law_other"] (defScope s__law_both_of) := ⟨rfl, rfl, rfl, by decide +kernel, rfl, by decide +kernel, by decide +kernel⟩
theorem sc__law_length : FnScope N__law_length ["_law_spread_here"] (defScope s__law_length) := ⟨rfl, rfl, rfl, by decide +kernel, rfl, by decide +kernel, by decide +kernel⟩
theorem sc_times : FnScope N_times ["one", "other"] (defScope s_times) := ⟨rfl, rfl, rfl, by decide +kernel, rfl, by decide +kernel, by decide +kernel⟩
theorem sc_mirror : FnScope N_mirror ["amount"] (defScope s_mirror) := ⟨rfl, rfl, rfl, by decide +kernel, rfl, by decide +kernel, by decide +kernel⟩
theorem sc_others : FnScope N_others ["amount"] (defScope s_others) := ⟨rfl, rfl, rfl, by decide +kernel, rfl, by decide +kernel, by decide +kernel⟩
theorem sc_divisor_of : FnScope N_divisor_of ["amounts"] (defScope s_divisor_of) := ⟨rfl, rfl, rfl, by decide +kernel, rfl, by decide +kernel, by decide +kernel⟩
theorem sc_plain : FnScope N_plain ["spread"] (defScope s_plain) := ⟨rfl, rfl, rfl, by decide +kernel, rfl, by decide +kernel, by decide +kernel⟩
theorem sc_turn_by : FnScope N_turn_by ["amount", "turn"] (defScope s_turn_by) := ⟨rfl, rfl, rfl, by decide +kernel, rfl, by decide +kernel, by decide +kernel⟩
theorem sc_turn_place : FnScope N_turn_place ["spread", "place", "turn"] (defScope s_turn_place) := ⟨rfl, rfl, rfl, by decide +kernel, rfl, by decide +kernel, by decide +kernel⟩
theorem sc_plus : FnScope N_plus ["one", "other"] (defScope s_plus) := ⟨rfl, rfl, rfl, by decide +kernel, rfl, by decide +kernel, by decide +kernel⟩
theorem sc_minus : FnScope N_minus ["amount"] (defScope s_minus) := ⟨rfl, rfl, rfl, by decide +kernel, rfl, by decide +kernel, by decide +kernel⟩
theorem sc_mix : FnScope N_mix ["spread", "place"] (defScope s_mix) := ⟨rfl, rfl, rfl, by decide +kernel, rfl, by decide +kernel, by decide +kernel⟩
theorem sc_tie : FnScope N_tie ["spread", "one", "other"] (defScope s_tie) := ⟨rfl, rfl, rfl, by decide +kernel, rfl, by decide +kernel, by decide +kernel⟩
theorem sc_exchange : FnScope N_exchange ["spread", "place"] (defScope s_exchange) := ⟨rfl, rfl, rfl, by decide +kernel, rfl, by decide +kernel, by decide +kernel⟩
theorem sc_lay : FnScope N_lay ["spread", "order"] (defScope s_lay) := ⟨rfl, rfl, rfl, by decide +kernel, rfl, by decide +kernel, by decide +kernel⟩
theorem sc_width : FnScope N_width ["spread"] (defScope s_width) := ⟨rfl, rfl, rfl, by decide +kernel, rfl, by decide +kernel, by decide +kernel⟩
theorem sc_swapped : FnScope N_swapped ["spread", "one", "other"] (defScope s_swapped) := ⟨rfl, rfl, rfl, by decide +kernel, rfl, by decide +kernel, by decide +kernel⟩
theorem sc_exchange_where : FnScope N_exchange_where ["spread", "places", "place"] (defScope s_exchange_where) := ⟨rfl, rfl, rfl, by decide +kernel, rfl, by decide +kernel, by decide +kernel⟩
theorem sc_deed_done : FnScope N_deed_done ["spread", "deed"] (defScope s_deed_done) := ⟨rfl, rfl, rfl, by decide +kernel, rfl, by decide +kernel, by decide +kernel⟩
theorem sc_meant_by : FnScope N_meant_by ["program", "spread"] (defScope s_meant_by) := ⟨rfl, rfl, rfl, by decide +kernel, rfl, by decide +kernel, by decide +kernel⟩
theorem sc_need_program : FnScope N_need_program ["value", "part"] (defScope s_need_program) := ⟨rfl, rfl, rfl, by decide +kernel, rfl, by decide +kernel, by decide +kernel⟩
theorem sc_is_amount : FnScope N_is_amount ["value"] (defScope s_is_amount) := ⟨rfl, rfl, rfl, by decide +kernel, rfl, by decide +kernel, by decide +kernel⟩
theorem sc_is_spread : FnScope N_is_spread ["value"] (defScope s_is_spread) := ⟨rfl, rfl, rfl, by decide +kernel, rfl, by decide +kernel, by decide +kernel⟩
theorem sc_need_spread : FnScope N_need_spread ["value", "part"] (defScope s_need_spread) := ⟨rfl, rfl, rfl, by decide +kernel, rfl, by decide +kernel, by decide +kernel⟩
theorem sc_need_wires : FnScope N_need_wires ["program", "spread"] (defScope s_need_wires) := ⟨rfl, rfl, rfl, by decide +kernel, rfl, by decide +kernel, by decide +kernel⟩
theorem sc_meaning : FnScope N_meaning ["program", "spread"] (defScope s_meaning) := ⟨rfl, rfl, rfl, by decide +kernel, rfl, by decide +kernel, by decide +kernel⟩
theorem sc_need_few : FnScope N_need_few ["deeds"] (defScope s_need_few) := ⟨rfl, rfl, rfl, by decide +kernel, rfl, by decide +kernel, by decide +kernel⟩
theorem sc_joined : FnScope N_joined ["one", "other"] (defScope s_joined) := ⟨rfl, rfl, rfl, by decide +kernel, rfl, by decide +kernel, by decide +kernel⟩
theorem sc_turned_about : FnScope N_turned_about ["deed"] (defScope s_turned_about) := ⟨rfl, rfl, rfl, by decide +kernel, rfl, by decide +kernel, by decide +kernel⟩
theorem sc_undone : FnScope N_undone ["program"] (defScope s_undone) := ⟨rfl, rfl, rfl, by decide +kernel, rfl, by decide +kernel, by decide +kernel⟩
theorem sc__law_undone_right : FnScope N__law_undone_right ["_law_wires", "_law_deeds", "_law_spread_here"] (defScope s__law_undone_right) := ⟨rfl, rfl, rfl, by decide +kernel, rfl, by decide +kernel, by decide +kernel⟩
theorem sc_moved_on : FnScope N_moved_on ["deed", "many"] (defScope s_moved_on) := ⟨rfl, rfl, rfl, by decide +kernel, rfl, by decide +kernel, by decide +kernel⟩
theorem sc_aside : FnScope N_aside ["one", "other"] (defScope s_aside) := ⟨rfl, rfl, rfl, by decide +kernel, rfl, by decide +kernel, by decide +kernel⟩
theorem sc_law : FnScope N_law ["_law_script"] (defScope s_law) := ⟨rfl, rfl, rfl, by decide +kernel, rfl, by decide +kernel, by decide +kernel⟩
structure LI where
  i : Nat
  many : Int
  n : Nat
theorem svn_lt {i n : Nat} {cs : Sto} (h : SvN i n cs) : i < cs.length := by
  obtain ⟨ns, k, r, e, _⟩ := h
  exact (List.getElem?_eq_some_iff.mp e).1
/-- the sieve beside one more changing object -/
theorem svn_app {i n : Nat} {cs : Sto} {c : CO} (h : SvN i n cs) : SvN i n (cs ++ [c]) := by
  have hl := svn_lt h
  obtain ⟨ns, k, r, e, h⟩ := h
  exact ⟨ns, k, r, by rw [List.getElem?_append_left hl]; exact e, h⟩
theorem mv_app {i n : Nat} {cs S : Sto} {c : CO} (hi : i < cs.length) (h : Mv i n (cs ++ [c]) S) : ∃ cs2, S = cs2 ++ [c] ∧ Mv i n cs cs2 := by
  have hl : S.length = cs.length + 1 := by rw [h.len]; simp
  have hc : S[cs.length]? = some c := by
    rw [h.el cs.length (by omega)]
    simp
  have e : S = S.take cs.length ++ [c] := by
    apply List.ext_getElem?
    intro k
    by_cases hk : k < cs.length
    · rw [List.getElem?_append_left (by rw [List.length_take]; omega), List.getElem?_take_of_lt hk]
    · by_cases hk2 : k = cs.length
      · subst hk2
        rw [hc, List.getElem?_append_right (by rw [List.length_take]; omega), List.length_take, Nat.min_eq_left (by omega), Nat.sub_self]
        rfl
      · rw [List.getElem?_eq_none (by omega), List.getElem?_eq_none (by rw [List.length_append, List.length_take]; simp; omega)]
  refine ⟨S.take cs.length, e, ?_, by rw [List.length_take]; omega, fun k hk => ?_⟩
  · obtain ⟨ns, a, r, e2, h2⟩ := h.sv
    exact ⟨ns, a, r, by rw [List.getElem?_take_of_lt hi]; exact e2, h2⟩
  · by_cases hk2 : k < cs.length
    · rw [List.getElem?_take_of_lt hk2, h.el k hk, List.getElem?_append_left hk2]
    · rw [List.getElem?_eq_none (by rw [List.length_take]; omega), List.getElem?_eq_none (by omega)]
theorem okDs_ints {n : Nat} : ∀ ns : List Int, okDs n (ns.map .int)
  | [] => trivial
  | m :: ns => ⟨trivial, okDs_ints ns⟩
theorem mv_okS {i n m : Nat} {cs cs2 : Sto} (h : Mv i n cs cs2) (o : okS m cs) : okS m cs2 := fun c hc => by
  obtain ⟨k, hk, e⟩ := List.getElem_of_mem hc
  have e2 : cs2[k]? = some c := by rw [List.getElem?_eq_getElem hk, e]
  by_cases hki : k = i
  · subst hki
    obtain ⟨ns, a, r, e3, h2⟩ := h.sv
    rw [e3] at e2
    cases e2
    refine ⟨?_, ?_, ?_, ?_⟩
    · simp only [okD]
      exact okDs_ints ns
    all_goals simp [okD, okDs]
  · rw [h.el k hki] at e2
    exact o c (List.mem_of_getElem? e2)
/-- own changing objects behind the sieve's store are forgotten -/
theorem trim_mv {cs cs2 tail : Sto} {R : PD} {d : D} {i n : Nat} (h : Mv i n cs cs2) (hk : okS cs.length cs) (hd : okD cs.length d) (r : R d cs2) : trimR cs.length R d (cs2 ++ tail) :=
  .inr ⟨hd, by rw [List.take_left' h.len]; exact mv_okS h hk, by rw [List.take_left' h.len]; exact r⟩
def oD : Option Int → D
  | none => .non
  | some i => .int i
/-- four integers -/
structure Am where
  a : Int
  b : Int
  c : Int
  d : Int
def Am.ds (x : Am) : List D := [.int x.a, .int x.b, .int x.c, .int x.d]
def Am.t (x : Am) : D := .tup x.ds
def Am.py (x : Am) : PyData := .tuple [.int x.a, .int x.b, .int x.c, .int x.d]
structure Am.B (n : Nat) (x : Am) : Prop where
  a : Bd n x.a
  b : Bd n x.b
  c : Bd n x.c
  d : Bd n x.d
def Am.add (x y : Am) : Am := ⟨x.a + y.a, x.b + y.b, x.c + y.c, x.d + y.d⟩
def Am.mul (x y : Am) : Am := ⟨x.a * y.a - x.b * y.d - x.c * y.c - x.d * y.b, x.a * y.b + x.b * y.a - x.c * y.d - x.d * y.c, x.a * y.c + x.b * y.b + x.c * y.a - x.d * y.d, x.a * y.d + x.b * y.c + x.c * y.b + x.d * y.a⟩
def Am.mir (x : Am) : Am := ⟨x.a, -x.d, -x.c, -x.b⟩
def Am.tn1 (x : Am) : Am := ⟨-x.d, x.a, x.b, x.c⟩
def Am.tn : Nat → Am → Am
  | 0, x => x
  | n + 1, x => (Am.tn n x).tn1
def Am.l1 (x : Am) : Int := x.a * x.a + x.b * x.b + x.c * x.c + x.d * x.d
def Am.l2 (x : Am) : Int := x.a * x.b + x.b * x.c + x.c * x.d - x.d * x.a
abbrev SA := D × Am
def SA.ok (i : SA) (cs : Sto) : Prop := seqOf cs i.1 = some i.2.ds
theorem bd1 : Bd 64 1 := by unfold Bd; decide
theorem bdm1 : Bd 64 (-1) := by unfold Bd; decide
theorem ng1 (x : Int) : -1 * x = -x := by omega
structure MB where
  x : Am
  y : Am
  n : Nat
  m : Nat
def MB.ok (i : MB) : Prop := i.x.B i.n ∧ i.y.B i.m ∧ i.n + i.m ≤ 900000
theorem Am.ext' {x y : Am} (h1 : x.a = y.a) (h2 : x.b = y.b) (h3 : x.c = y.c) (h4 : x.d = y.d) : x = y := by
  cases x
  cases y
  simp_all
instance : DecidableEq Am := fun x y => decidable_of_iff (x.a = y.a ∧ x.b = y.b ∧ x.c = y.c ∧ x.d = y.d) ⟨fun h => Am.ext' h.1 h.2.1 h.2.2.1 h.2.2.2, fun h => by subst h; exact ⟨rfl, rfl, rfl, rfl⟩⟩
theorem seqOf_t (cs : Sto) (x : Am) : seqOf cs x.t = some x.ds := (rfl)
theorem eqA (cs : Sto) (neg : Bool) (x y : Am) : eqD cs neg x.t y.t = some (True, .bl (if neg = true then !decide (x = y) else decide (x = y))) := by
  have h := eqD_tints (cs := cs) neg [x.a, x.b, x.c, x.d] [y.a, y.b, y.c, y.d]
  have e : ([x.a, x.b, x.c, x.d] = [y.a, y.b, y.c, y.d]) ↔ x = y := ⟨fun h => by simp only [List.cons.injEq, and_true] at h; exact Am.ext' h.1 h.2.1 h.2.2.1 h.2.2.2, fun h => by subst h; rfl⟩
  simp only [e] at h
  exact h
theorem eqA4 (cs : Sto) (neg : Bool) (x : Am) (a b c d : Int) : eqD cs neg x.t (.tup [.int a, .int b, .int c, .int d]) = some (True, .bl (if neg = true then !decide (x = ⟨a, b, c, d⟩) else decide (x = ⟨a, b, c, d⟩))) := eqA cs neg x ⟨a, b, c, d⟩
theorem ixA0 (cs : Sto) (x : Am) : ixD cs x.t (.int 0) = some (True, .int x.a) := (rfl)
theorem ixA1 (cs : Sto) (x : Am) : ixD cs x.t (.int 1) = some (True, .int x.b) := (rfl)
theorem ixA2 (cs : Sto) (x : Am) : ixD cs x.t (.int 2) = some (True, .int x.c) := (rfl)
theorem ixA3 (cs : Sto) (x : Am) : ixD cs x.t (.int 3) = some (True, .int x.d) := (rfl)
theorem reprA {n : Nat} {x : Am} (h : x.B n) (l : n ≤ 1920 := by decide) (cs : Sto) : reprD cs x.t = some (True, shD x.t) :=
  reprD_ok (n := n) (k := 1) (by simp only [Am.t, Am.ds, DB, DBL, and_true]; exact ⟨h.a, h.b, h.c, h.d⟩) l (by decide) (by simp [Am.t, Am.ds, dwt, dwts])
theorem repr2 {n : Nat} {a b : Int} (h1 : Bd n a) (h2 : Bd n b) (l : n ≤ 1920 := by decide) (cs : Sto) : reprD cs (.tup [.int a, .int b]) = some (True, shD (.tup [.int a, .int b])) :=
  reprD_ok (n := n) (k := 1) (by simp only [DB, DBL, and_true]; exact ⟨h1, h2⟩) l (by decide) (by simp [dwt, dwts])
theorem Am.B.mono {n m : Nat} {x : Am} (h : x.B n) (l : n ≤ m) : x.B m := ⟨h.a.mono l, h.b.mono l, h.c.mono l, h.d.mono l⟩
theorem Am.B.add {n : Nat} {x y : Am} (h : x.B n) (k : y.B n) : (x.add y).B (n + 1) := ⟨h.a.add k.a, h.b.add k.b, h.c.add k.c, h.d.add k.d⟩
theorem Am.B.mir {n : Nat} {x : Am} (h : x.B n) : x.mir.B n := ⟨h.a, h.d.neg, h.c.neg, h.b.neg⟩
theorem Am.B.tn {n : Nat} {x : Am} (h : x.B n) : ∀ k, (Am.tn k x).B n
  | 0 => h
  | k + 1 => by
    have i := Am.B.tn h k
    exact ⟨i.d.neg, i.a, i.b, i.c⟩
theorem Am.B.mul {n m : Nat} {x y : Am} (h : x.B n) (k : y.B m) : (x.mul y).B (n + m + 3) :=
  ⟨(((h.a.mul k.a).sub (h.b.mul k.d)).sub ((h.c.mul k.c).mono (by omega))).sub ((h.d.mul k.b).mono (by omega)),
   (((h.a.mul k.b).add (h.b.mul k.a)).sub ((h.c.mul k.d).mono (by omega))).sub ((h.d.mul k.c).mono (by omega)),
   (((h.a.mul k.c).add (h.b.mul k.b)).add ((h.c.mul k.a).mono (by omega))).sub ((h.d.mul k.d).mono (by omega)),
   (((h.a.mul k.d).add (h.b.mul k.c)).add ((h.c.mul k.b).mono (by omega))).add ((h.d.mul k.a).mono (by omega))⟩
theorem Am.B.l1 {n : Nat} {x : Am} (h : x.B n) : Bd (n + n + 3) x.l1 := (((h.a.mul h.a).add (h.b.mul h.b)).add ((h.c.mul h.c).mono (by omega))).add ((h.d.mul h.d).mono (by omega))
theorem Am.B.l2 {n : Nat} {x : Am} (h : x.B n) : Bd (n + n + 3) x.l2 := (((h.a.mul h.b).add (h.b.mul h.c)).add ((h.c.mul h.d).mono (by omega))).sub ((h.d.mul h.a).mono (by omega))
theorem Am.add_comm (x y : Am) : y.add x = x.add y := by
  apply Am.ext' <;> simp only [Am.add] <;> omega
theorem Am.mul_comm (x y : Am) : y.mul x = x.mul y := by
  apply Am.ext' <;> simp only [Am.mul] <;> grind
theorem Am.mul_assoc (x y z : Am) : (x.mul y).mul z = x.mul (y.mul z) := by
  apply Am.ext' <;> simp only [Am.mul] <;> grind
theorem Am.mul_add (x y z : Am) : x.mul (y.add z) = (x.mul y).add (x.mul z) := by
  apply Am.ext' <;> simp only [Am.mul, Am.add] <;> grind
theorem Am.mul_mir (x : Am) : x.mul x.mir = ⟨x.l1, x.l2, 0, -x.l2⟩ := by
  apply Am.ext' <;> simp only [Am.mul, Am.mir, Am.l1, Am.l2] <;> grind
theorem Am.mir_mir (x : Am) : x.mir.mir = x := by
  apply Am.ext' <;> simp only [Am.mir] <;> omega
theorem Am.l1_mul (x y : Am) : (x.mul y).l1 = x.l1 * y.l1 + 2 * x.l2 * y.l2 := by
  simp only [Am.mul, Am.l1, Am.l2]
  grind
theorem Am.l2_mul (x y : Am) : (x.mul y).l2 = x.l1 * y.l2 + x.l2 * y.l1 := by
  simp only [Am.mul, Am.l1, Am.l2]
  grind
theorem Am.l1_tn (x : Am) : ∀ k, (Am.tn k x).l1 = x.l1
  | 0 => rfl
  | k + 1 => by
    rw [← Am.l1_tn x k]
    simp only [Am.tn, Am.tn1, Am.l1]
    grind
theorem Am.l2_tn (x : Am) : ∀ k, (Am.tn k x).l2 = x.l2
  | 0 => rfl
  | k + 1 => by
    rw [← Am.l2_tn x k]
    simp only [Am.tn, Am.tn1, Am.l2]
    grind
theorem Am.tn_tn (x : Am) (m : Nat) : ∀ k, Am.tn k (Am.tn m x) = Am.tn (m + k) x
  | 0 => rfl
  | k + 1 => by
    show (Am.tn k (Am.tn m x)).tn1 = (Am.tn (m + k) x).tn1
    rw [Am.tn_tn x m k]
theorem Am.tn8 (x : Am) (k : Nat) : Am.tn (k + 8) x = Am.tn k x := by
  show ((((((((Am.tn k x).tn1).tn1).tn1).tn1).tn1).tn1).tn1).tn1 = _
  apply Am.ext' <;> simp only [Am.tn1] <;> omega
theorem Am.tn_mod (x : Am) (k : Nat) (h : k < 16) : Am.tn (k % 8) x = Am.tn k x := by
  by_cases h8 : k < 8
  · rw [Nat.mod_eq_of_lt h8]
  · have e : k % 8 + 8 = k := by omega
    rw [← Am.tn8, e]
theorem Am.zero (x : Am) : (x.l1 = 0 ∧ x.l2 = 0) ↔ x = ⟨0, 0, 0, 0⟩ := by
  constructor
  · intro h
    have h1 : x.a * x.a + x.b * x.b + x.c * x.c + x.d * x.d = 0 := h.1
    have sq : ∀ y : Int, 0 ≤ y * y := fun y => by
      rcases Int.le_total 0 y with h | h
      · exact Int.mul_nonneg h h
      · exact Int.mul_nonneg_of_nonpos_of_nonpos h h
    have z : ∀ y : Int, y * y = 0 → y = 0 := fun y h => (Int.mul_eq_zero.mp h).elim id id
    have := sq x.a
    have := sq x.b
    have := sq x.c
    have := sq x.d
    exact Am.ext' (z _ (by omega)) (z _ (by omega)) (z _ (by omega)) (z _ (by omega))
  · intro h
    subst h
    exact ⟨rfl, rfl⟩

/-! ### spreads -/
abbrev Spr := List Am
def Am.O : Am := ⟨0, 0, 0, 0⟩
def sT (xs : Spr) : List D := xs.map Am.t
def Alls (cs : Sto) : List D → Spr → Prop
  | [], [] => True
  | d :: ds, x :: xs => seqOf cs d = some x.ds ∧ Alls cs ds xs
  | _, _ => False
theorem Alls.len {cs : Sto} : ∀ {ds : List D} {xs : Spr}, Alls cs ds xs → ds.length = xs.length
  | [], [], _ => rfl
  | d :: ds, x :: xs, h => by rw [List.length_cons, List.length_cons, Alls.len h.2]
theorem Alls.mem {cs : Sto} {d : D} : ∀ {ds : List D} {xs : Spr}, Alls cs ds xs → d ∈ ds → ∃ x ∈ xs, seqOf cs d = some x.ds
  | e :: ds, x :: xs, h, m => by
    rcases List.mem_cons.mp m with rfl | m
    · exact ⟨x, List.mem_cons_self, h.1⟩
    · obtain ⟨y, h1, h2⟩ := Alls.mem h.2 m
      exact ⟨y, List.mem_cons_of_mem _ h1, h2⟩
theorem Alls.t {cs : Sto} : ∀ xs : Spr, Alls cs (sT xs) xs
  | [] => trivial
  | x :: xs => ⟨rfl, Alls.t xs⟩
def Am.nz (x : Am) : Bool := [x.a, x.b, x.c, x.d].any (· != 0)
def nzOf (cs : Sto) (d : D) : D := match seqOf cs d with
  | some es => (match nums es with
    | some ns => D.bl (ns.any (· != 0))
    | none => .non)
  | none => .non
theorem nzOf_t {cs : Sto} {d : D} {x : Am} (h : seqOf cs d = some x.ds) : nzOf cs d = .bl x.nz := by
  unfold nzOf
  rw [h]
  simp [Am.ds, nums, Am.nz]
theorem Alls.nz {cs : Sto} : ∀ {ds : List D} {xs : Spr}, Alls cs ds xs → ds.map (nzOf cs) = (xs.map Am.nz).map D.bl
  | [], [], _ => rfl
  | d :: ds, x :: xs, h => by
    rw [List.map_cons, List.map_cons, List.map_cons, Alls.nz h.2, nzOf_t h.1]
def tupOf (cs : Sto) (d : D) : D := match seqOf cs d with
  | some es => D.tup es
  | none => .non
theorem tupOf_t {cs : Sto} {d : D} {ds : List D} (h : seqOf cs d = some ds) : tupOf cs d = .tup ds := by
  unfold tupOf
  rw [h]
theorem Alls.tups {cs : Sto} : ∀ {ds : List D} {xs : Spr}, Alls cs ds xs → ds.map (tupOf cs) = sT xs
  | [], [], _ => rfl
  | d :: ds, x :: xs, h => by
    rw [List.map_cons, Alls.tups h.2, tupOf_t h.1]
    rfl
structure SpD (cs : Sto) (d : D) (xs : Spr) : Prop where
  it : ∃ ds, seqOf cs d = some ds ∧ Alls cs ds xs
theorem SpD.tup {cs : Sto} (xs : Spr) : SpD cs (.tup (sT xs)) xs := ⟨sT xs, rfl, Alls.t xs⟩
theorem SpD.lst {cs : Sto} (xs : Spr) : SpD cs (.lst (sT xs)) xs := ⟨sT xs, rfl, Alls.t xs⟩
/-- a spread: its number of places -/
structure Spr.W (n : Nat) (xs : Spr) : Prop where
  len : xs.length = 2 ^ n
  few : n ≤ 12
  nz : (xs.map Am.nz).any id = true
def s1 (xs : Spr) : Int := (xs.map Am.l1).sum
def s2 (xs : Spr) : Int := (xs.map Am.l2).sum
theorem s1_app (xs : Spr) (x : Am) : s1 (xs ++ [x]) = s1 xs + x.l1 := by simp [s1]
theorem s2_app (xs : Spr) (x : Am) : s2 (xs ++ [x]) = s2 xs + x.l2 := by simp [s2]
theorem take_succ' {α : Type} {xs : List α} {k : Nat} {x : α} (h : xs[k]? = some x) : xs.take (k + 1) = xs.take k ++ [x] := by
  rw [List.take_add_one, h]
  rfl
theorem sT_get {xs : Spr} {k : Nat} {d : D} (h : (sT xs)[k]? = some d) : ∃ x, xs[k]? = some x ∧ d = .tup x.ds := by
  unfold sT at h
  rw [List.getElem?_map] at h
  obtain ⟨x, h1, h2⟩ := Option.map_eq_some_iff.mp h
  exact ⟨x, h1, h2.symm⟩
theorem p2 (p : Nat) : ((2 ^ p : Nat) : Int) = 2 ^ p := by rw [Int.natCast_pow]; rfl
theorem band_low (a p : Nat) : Builtin.bitAnd (a : Int) (2 ^ p - 1) = ((a % 2 ^ p : Nat) : Int) := by
  rw [PySem.W.kbt_mask, Int.natCast_emod, p2]
theorem bitNot_low (p : Nat) : Builtin.bitNot ((2 : Int) ^ p - 1) = -(2 ^ p) := by
  show -((2 : Int) ^ p - 1) - 1 = _
  omega
theorem band_high (a p : Nat) : Builtin.bitAnd (a : Int) (-(2 ^ p)) = ((a - a % 2 ^ p : Nat) : Int) := by
  have h1 := Nat.two_pow_pos p
  have h2 := p2 p
  unfold Builtin.bitAnd
  have e1 : decide ((0 : Int) ≤ (a : Int)) = true := by simp
  have e2 : decide ((0 : Int) ≤ -(2 ^ p : Int)) = false := by
    rw [decide_eq_false_iff_not]
    omega
  simp only [e1, e2]
  have e3 : (Builtin.bitNot (-(2 ^ p : Int))).toNat = 2 ^ p - 1 := by
    show (-(-(2 ^ p : Int)) - 1).toNat = _
    omega
  rw [e3, Int.toNat_natCast, Nat.and_two_pow_sub_one_eq_mod]
  have := Nat.mod_le a (2 ^ p)
  omega
theorem bor_nat (a b : Nat) : Builtin.bitOr (a : Int) (b : Int) = ((a ||| b : Nat) : Int) := by
  unfold Builtin.bitOr
  show -(Builtin.bitAnd (-(a : Int) - 1) (-(b : Int) - 1)) - 1 = _
  unfold Builtin.bitAnd
  have e1 : decide ((0 : Int) ≤ -(a : Int) - 1) = false := by rw [decide_eq_false_iff_not]; omega
  have e2 : decide ((0 : Int) ≤ -(b : Int) - 1) = false := by rw [decide_eq_false_iff_not]; omega
  simp only [e1, e2]
  show -(-(((-(-(a : Int) - 1) - 1).toNat ||| (-(-(b : Int) - 1) - 1).toNat : Nat) : Int) - 1) - 1 = _
  have e3 : (-(-(a : Int) - 1) - 1).toNat = a := by omega
  have e4 : (-(-(b : Int) - 1) - 1).toNat = b := by omega
  rw [e3, e4]
  omega
def ixL (p a : Nat) : Nat := a % 2 ^ p + 2 * (a - a % 2 ^ p)
theorem high_mul (a p : Nat) : a - a % 2 ^ p = 2 ^ p * (a / 2 ^ p) := by
  have := Nat.div_add_mod a (2 ^ p)
  omega
theorem or_here (a p : Nat) : a % 2 ^ p ||| (a - a % 2 ^ p) * 2 = ixL p a := by
  have h1 := Nat.mod_lt a (Nat.two_pow_pos p)
  rw [ixL, high_mul, Nat.or_comm, Nat.mul_assoc, ← Nat.two_pow_add_eq_or_of_lt h1, Nat.add_comm, Nat.mul_comm (a / 2 ^ p) 2, Nat.mul_left_comm]
theorem ixL_eq (p a : Nat) : ixL p a = 2 ^ (p + 1) * (a / 2 ^ p) + a % 2 ^ p := by
  rw [ixL, high_mul, Nat.pow_succ, Nat.add_comm, Nat.mul_assoc, Nat.mul_left_comm]
theorem or_bit (a p : Nat) : ixL p a ||| 2 ^ p = ixL p a + 2 ^ p := by
  have h1 := Nat.mod_lt a (Nat.two_pow_pos p)
  have h2 : a % 2 ^ p ||| 2 ^ p = 2 ^ p + a % 2 ^ p := by
    have := Nat.two_pow_add_eq_or_of_lt h1 1
    rw [Nat.mul_one] at this
    rw [Nat.or_comm, this]
  have h3 : 2 ^ p + a % 2 ^ p < 2 ^ (p + 1) := by rw [Nat.pow_succ]; omega
  have h4 : a % 2 ^ p < 2 ^ (p + 1) := by omega
  have h5 := Nat.two_pow_add_eq_or_of_lt h4 (a / 2 ^ p)
  have h6 := Nat.two_pow_add_eq_or_of_lt h3 (a / 2 ^ p)
  rw [ixL_eq, h5, Nat.or_assoc, h2, ← h6, ← h5]
  omega
theorem ixL_lt {n p a : Nat} (hp : p < n) (ha : a < 2 ^ n / 2) : ixL p a + 2 ^ p < 2 ^ n := by
  obtain ⟨m, rfl⟩ : ∃ m, n = p + 1 + m := ⟨n - p - 1, by omega⟩
  have h1 := Nat.mod_lt a (Nat.two_pow_pos p)
  have h2 : a / 2 ^ p < 2 ^ m := by
    rw [Nat.div_lt_iff_lt_mul (Nat.two_pow_pos p)]
    have : 2 ^ (p + 1 + m) = 2 * (2 ^ m * 2 ^ p) := by rw [Nat.pow_add, Nat.pow_succ]; grind
    omega
  have h3 : 2 ^ (p + 1) * (a / 2 ^ p + 1) ≤ 2 ^ (p + 1) * 2 ^ m := Nat.mul_le_mul_left _ h2
  rw [ixL_eq, Nat.pow_add 2 (p + 1) m]
  have : 2 ^ (p + 1) = 2 * 2 ^ p := by rw [Nat.pow_succ, Nat.mul_comm]
  rw [Nat.mul_add] at h3
  omega
def atS (xs : Spr) (i : Nat) : Am := xs.getD i Am.O
theorem atS_get {xs : Spr} {i : Nat} (h : i < xs.length) : atI (sT xs) (i : Int) = some (atS xs i).t := by
  rw [DL.atI_nat, sT, List.getElem?_map, List.getElem?_eq_getElem h, atS, List.getD_eq_getElem?_getD, List.getElem?_eq_getElem h]
  rfl
def lookL (xs : Spr) (p k : Nat) : Spr := (List.range (xs.length / 2)).map fun a => (atS xs (ixL p a)).add (Am.tn k (atS xs (ixL p a + 2 ^ p)))
theorem cast2 (m : Nat) : (m : Int) * 2 = ((m * 2 : Nat) : Int) := by omega
theorem bor_bit (x p : Nat) : Builtin.bitOr (x : Int) (2 ^ p) = ((x ||| 2 ^ p : Nat) : Int) := by rw [← p2, bor_nat]
theorem Spr.W.le {n : Nat} {xs : Spr} (w : xs.W n) : xs.length ≤ 4096 := by
  rw [w.len]
  exact Nat.pow_le_pow_right (n := 2) (by decide) w.few
theorem lookL_len (xs : Spr) (p k : Nat) : (lookL xs p k).length = xs.length / 2 := by simp [lookL]
theorem lookL_get {xs : Spr} {p k a : Nat} (h : a < xs.length / 2) : (lookL xs p k)[a]? = some ((atS xs (ixL p a)).add (Am.tn k (atS xs (ixL p a + 2 ^ p)))) := by
  rw [lookL, List.getElem?_map, List.getElem?_range h]
  rfl
theorem sT_take {xs : Spr} {k : Nat} {x : Am} (h : xs[k]? = some x) : sT (xs.take (k + 1)) = sT (xs.take k) ++ [x.t] := by
  rw [take_succ' h, sT, List.map_append]
  rfl
theorem okT {n : Nat} : ∀ xs : Spr, okDs n (sT xs)
  | [] => trivial
  | x :: xs => by
    rw [sT, List.map_cons]
    refine ⟨by simp [Am.t, Am.ds, okD, okDs], okT xs⟩
theorem Am.B.O {n : Nat} : Am.O.B n := by
  have z : Bd n 0 := by unfold Bd; exact Nat.two_pow_pos n
  exact ⟨z, z, z, z⟩
def SB (n : Nat) (xs : Spr) : Prop := ∀ x ∈ xs, x.B n
theorem SB.at {n : Nat} {xs : Spr} (h : SB n xs) (i : Nat) : (atS xs i).B n := by
  unfold atS
  rw [List.getD_eq_getElem?_getD]
  cases e : xs[i]? with
  | none => exact Am.B.O
  | some x => exact h x (List.mem_of_getElem? e)
theorem SB.look {n : Nat} {xs : Spr} (h : SB n xs) (p k : Nat) : SB (n + 1) (lookL xs p k) := fun x hx => by
  obtain ⟨a, _, rfl⟩ := List.mem_map.mp hx
  exact (h.at _).add ((h.at _).tn _)
/-- a spread, or None if nothing is left -/
def optT (xs : Spr) : D := if (xs.map Am.nz).any id = true then .tup (sT xs) else .non
theorem sT_nz (cs : Sto) (xs : Spr) : (sT xs).map (nzOf cs) = (xs.map Am.nz).map D.bl := (Alls.t (cs := cs) xs).nz
theorem mem_sT {xs : Spr} {d : D} (h : d ∈ sT xs) : ∃ x ∈ xs, d = x.t := by
  obtain ⟨x, h1, h2⟩ := List.mem_map.mp h
  exact ⟨x, h1, h2.symm⟩
def Am.oth (x : Am) : Am := (Am.mul ⟨x.a, x.d, -x.c, x.b⟩ ⟨x.a, -x.b, x.c, -x.d⟩).mul x.mir
theorem Am.B.oth {n : Nat} {x : Am} (h : x.B n) : x.oth.B (n + n + 3 + n + 3) := by
  have h1 : Am.B n ⟨x.a, x.d, -x.c, x.b⟩ := ⟨h.a, h.d, h.c.neg, h.b⟩
  have h2 : Am.B n ⟨x.a, -x.b, x.c, -x.d⟩ := ⟨h.a, h.b.neg, h.c, h.d.neg⟩
  exact (h1.mul h2).mul h.mir
def turnL (xs : Spr) (p k : Nat) : Spr := (List.range xs.length).map fun a => if a / 2 ^ p % 2 = 1 then Am.tn k (atS xs a) else atS xs a
theorem turnL_len (xs : Spr) (p k : Nat) : (turnL xs p k).length = xs.length := by simp [turnL]
theorem turnL_get {xs : Spr} {p k a : Nat} (h : a < xs.length) : (turnL xs p k)[a]? = some (if a / 2 ^ p % 2 = 1 then Am.tn k (atS xs a) else atS xs a) := by
  rw [turnL, List.getElem?_map, List.getElem?_range h]
  rfl
theorem atS_some {xs : Spr} {i : Nat} {x : Am} (h : xs[i]? = some x) : atS xs i = x := by
  rw [atS, List.getD_eq_getElem?_getD, h]
  rfl
def gL (g : Nat) (ns : List Int) : Nat := ns.foldl (fun g n => Nat.gcd g n.natAbs) g
def gS (g : Nat) (xs : Spr) : Nat := xs.foldl (fun g x => gL g [x.a, x.b, x.c, x.d]) g
theorem gL_app (g : Nat) (ns : List Int) (n : Int) : gL g (ns ++ [n]) = Nat.gcd (gL g ns) n.natAbs := by simp [gL]
theorem gS_app (g : Nat) (xs : Spr) (x : Am) : gS g (xs ++ [x]) = gL (gS g xs) [x.a, x.b, x.c, x.d] := by simp [gS]
theorem bit_at (i p : Nat) : (Builtin.bitAnd ((i : Int) / 2 ^ p) 1 != 0) = decide (i / 2 ^ p % 2 = 1) := by
  have e : (i : Int) / 2 ^ p = ((i / 2 ^ p : Nat) : Int) := by rw [← p2, Int.natCast_ediv]
  have h : Builtin.bitAnd ((i : Int) / 2 ^ p) 1 = ((i / 2 ^ p % 2 : Nat) : Int) := by
    rw [e]
    have := band_low (i / 2 ^ p) 1
    simpa using this
  rw [h, Bool.eq_iff_iff]
  simp only [bne_iff_ne, decide_eq_true_eq, ne_eq]
  omega
/-! ### the norm; plain forms -/
def Am.N (x : Am) : Int := x.l1 * x.l1 - 2 * x.l2 * x.l2
theorem Am.mul_oth (x : Am) : x.mul x.oth = ⟨x.N, 0, 0, 0⟩ := by
  apply Am.ext' <;> simp only [Am.mul, Am.oth, Am.mir, Am.N, Am.l1, Am.l2] <;> grind
theorem sq2 : ∀ (n a b : Nat), a < n → a * a = 2 * (b * b) → a = 0
  | 0, a, b, h, _ => absurd h (Nat.not_lt_zero a)
  | n + 1, a, b, h, e => by
    by_cases ha : a = 0
    · exact ha
    · have h2 : a % 2 = 0 := by
        rcases Nat.mod_two_eq_zero_or_one a with h0 | h0
        · exact h0
        · exfalso
          obtain ⟨c, hc⟩ : ∃ c, a = 2 * c + 1 := ⟨a / 2, by omega⟩
          have : a * a = 2 * (2 * (c * c) + 2 * c) + 1 := by subst hc; grind
          omega
      obtain ⟨c, hc⟩ : ∃ c, a = 2 * c := ⟨a / 2, by omega⟩
      have e2 : b * b = 2 * (c * c) := by
        have : a * a = 4 * (c * c) := by subst hc; grind
        omega
      have hb : b < a := by
        by_cases h4 : b < a
        · exact h4
        · exfalso
          have h5 : a * a ≤ b * b := Nat.mul_self_le_mul_self (Nat.le_of_not_lt h4)
          have h6 : 0 < a * a := Nat.mul_pos (by omega) (by omega)
          omega
      have := sq2 n b c (by omega) e2
      subst this
      have : c * c = 0 := by omega
      have : c = 0 := by rcases Nat.mul_eq_zero.mp this with h | h <;> exact h
      omega
theorem Am.l1_nn (x : Am) : 0 ≤ x.l1 := by
  have sq : ∀ y : Int, 0 ≤ y * y := fun y => by
    rcases Int.le_total 0 y with h | h
    · exact Int.mul_nonneg h h
    · exact Int.mul_nonneg_of_nonpos_of_nonpos h h
  have := sq x.a
  have := sq x.b
  have := sq x.c
  have := sq x.d
  unfold Am.l1
  omega
theorem Am.N_nn (x : Am) : 0 ≤ x.N := by
  have e : x.N = (x.a * x.a - x.c * x.c + 2 * x.b * x.d) * (x.a * x.a - x.c * x.c + 2 * x.b * x.d) + (2 * x.a * x.c - x.b * x.b + x.d * x.d) * (2 * x.a * x.c - x.b * x.b + x.d * x.d) := by
    simp only [Am.N, Am.l1, Am.l2]
    grind
  have sq : ∀ y : Int, 0 ≤ y * y := fun y => by
    rcases Int.le_total 0 y with h | h
    · exact Int.mul_nonneg h h
    · exact Int.mul_nonneg_of_nonpos_of_nonpos h h
  rw [e]
  exact Int.add_nonneg (sq _) (sq _)
theorem Am.N_pos {x : Am} (h : x ≠ ⟨0, 0, 0, 0⟩) : 0 < x.N := by
  have h1 := x.N_nn
  by_cases hz : x.N = 0
  · exfalso
    apply h
    have e : x.l1 * x.l1 = 2 * (x.l2 * x.l2) := by unfold Am.N at hz; rw [Int.mul_assoc] at hz; omega
    have e2 : x.l1.natAbs * x.l1.natAbs = 2 * (x.l2.natAbs * x.l2.natAbs) := by
      rw [← Int.natAbs_mul, ← Int.natAbs_mul, e, Int.natAbs_mul]
      rfl
    have e3 := sq2 (x.l1.natAbs + 1) _ _ (by omega) e2
    have e4 : x.l1 = 0 := by omega
    have e5 : x.l2 = 0 := by
      rw [e3] at e2
      have : x.l2.natAbs * x.l2.natAbs = 0 := by omega
      have : x.l2.natAbs = 0 := by rcases Nat.mul_eq_zero.mp this with h | h <;> exact h
      omega
    exact x.zero.mp ⟨e4, e5⟩
  · omega
theorem Am.nz_iff (x : Am) : x.nz = true ↔ x ≠ ⟨0, 0, 0, 0⟩ := by
  unfold Am.nz
  simp only [List.any_cons, List.any_nil, Bool.or_false, Bool.or_eq_true, bne_iff_ne, ne_eq]
  constructor
  · intro h e
    subst e
    simp at h
  · intro h
    by_cases h1 : x.a = 0
    · by_cases h2 : x.b = 0
      · by_cases h3 : x.c = 0
        · by_cases h4 : x.d = 0
          · exact absurd (Am.ext' h1 h2 h3 h4) h
          · exact .inr (.inr (.inr h4))
        · exact .inr (.inr (.inl h3))
      · exact .inr (.inl h2)
    · exact .inl h1
theorem Am.nz_dec (x : Am) : (!decide (x = ⟨0, 0, 0, 0⟩)) = x.nz := by
  rw [Bool.eq_iff_iff, x.nz_iff]
  simp
/-! ### comprehensions over the amounts of a spread -/
theorem lc_sT {pt : Pat} {we : WE} {env : En} {W : Sto → Prop} {Q : PD} {cs : Sto} {z : Lz (pt, wYes, we, env, W, Q)} (f : Am → D) (hW : W cs) (xs : Spr)
    (hs : ∀ x ∈ xs, ∃ env', patSet cs pt x.t env = some env' ∧ ∀ R : PD, R (f x) cs → we env' cs R) (hd : Q (.lst (xs.map f)) cs) : lcP pt wYes we env W Q (sT xs) [] cs z := by
  have go : ∀ (ys : Spr) (acc : List D), (∀ x ∈ ys, x ∈ xs) → Q (.lst (acc ++ ys.map f)) cs → lcloop pt wYes we env W Q (sT ys) acc cs := by
    intro ys
    induction ys with
    | nil => intro acc _ h; exact ⟨hW, by simpa using h⟩
    | cons y ys ih =>
      intro acc hm h
      obtain ⟨env', e, q⟩ := hs y (hm y List.mem_cons_self)
      refine ⟨hW, ?_⟩
      show match patSet cs pt y.t env with | some env' => _ | none => False
      rw [e]
      show wYes env' cs _
      simp only [wYes, if_true]
      exact q _ (ih _ (fun x hx => hm x (List.mem_cons_of_mem _ hx)) (by simpa using h))
  exact go xs [] (fun _ h => h) (by simpa using hd)
theorem lc_sTf {pt : Pat} {tt : WT} {we : WE} {env : En} {W : Sto → Prop} {Q : PD} {cs : Sto} {z : Lz (pt, tt, we, env, W, Q)} (t : Am → Bool) (f : Am → D) (hW : W cs) (xs : Spr)
    (hs : ∀ x ∈ xs, ∃ env', patSet cs pt x.t env = some env' ∧ (∀ R : Bool → Sto → Prop, R (t x) cs → tt env' cs R) ∧ (t x = true → ∀ R : PD, R (f x) cs → we env' cs R)) (hd : Q (.lst ((xs.filter t).map f)) cs) : lcP pt tt we env W Q (sT xs) [] cs z := by
  have go : ∀ (ys : Spr) (acc : List D), (∀ x ∈ ys, x ∈ xs) → Q (.lst (acc ++ (ys.filter t).map f)) cs → lcloop pt tt we env W Q (sT ys) acc cs := by
    intro ys
    induction ys with
    | nil => intro acc _ h; exact ⟨hW, by simpa using h⟩
    | cons y ys ih =>
      intro acc hm h
      obtain ⟨env', e, q1, q2⟩ := hs y (hm y List.mem_cons_self)
      refine ⟨hW, ?_⟩
      show match patSet cs pt y.t env with | some env' => _ | none => False
      rw [e]
      refine q1 _ ?_
      cases ht : t y with
      | true =>
        rw [if_pos rfl]
        exact q2 ht _ (ih _ (fun x hx => hm x (List.mem_cons_of_mem _ hx)) (by simpa [List.filter_cons, ht] using h))
      | false =>
        rw [if_neg (by simp)]
        exact ih _ (fun x hx => hm x (List.mem_cons_of_mem _ hx)) (by simpa [List.filter_cons, ht] using h)
  exact go xs [] (fun _ h => h) (by simpa using hd)
def fzL (xs : Spr) : Am := (xs.filter Am.nz).headD Am.O
def byL (xs : Spr) : Spr := xs.map fun x => x.mul (fzL xs).oth
def Am.dv (g : Int) (x : Am) : Am := ⟨x.a / g, x.b / g, x.c / g, x.d / g⟩
def plainL (xs : Spr) : Spr := (byL xs).map (Am.dv (gS 0 (byL xs) : Nat))
theorem fz_mem {xs : Spr} (h : (xs.map Am.nz).any id = true) : fzL xs ∈ xs ∧ (fzL xs).nz = true ∧ (xs.filter Am.nz)[0]? = some (fzL xs) := by
  obtain ⟨b, hb, e⟩ := List.any_eq_true.mp h
  obtain ⟨x, hx, rfl⟩ := List.mem_map.mp hb
  have hf : x ∈ xs.filter Am.nz := List.mem_filter.mpr ⟨hx, e⟩
  cases hc : xs.filter Am.nz with
  | nil => rw [hc] at hf; cases hf
  | cons y ys =>
    have hy : y ∈ xs.filter Am.nz := by rw [hc]; exact List.mem_cons_self
    have ef : fzL xs = y := by unfold fzL; rw [hc]; rfl
    rw [ef]
    exact ⟨(List.mem_filter.mp hy).1, (List.mem_filter.mp hy).2, rfl⟩
theorem gL_dvd : ∀ (ns : List Int) (g : Nat), gL g ns ∣ g ∧ ∀ n ∈ ns, gL g ns ∣ n.natAbs
  | [], g => ⟨Nat.dvd_refl _, fun n h => by cases h⟩
  | m :: ns, g => by
    obtain ⟨h1, h2⟩ := gL_dvd ns (Nat.gcd g m.natAbs)
    have e : gL g (m :: ns) = gL (Nat.gcd g m.natAbs) ns := rfl
    rw [e]
    refine ⟨Nat.dvd_trans h1 (Nat.gcd_dvd_left _ _), fun n hn => ?_⟩
    rcases List.mem_cons.mp hn with rfl | hn
    · exact Nat.dvd_trans h1 (Nat.gcd_dvd_right _ _)
    · exact h2 n hn
theorem gS_dvd : ∀ (xs : Spr) (g : Nat), gS g xs ∣ g ∧ ∀ x ∈ xs, gS g xs ∣ x.a.natAbs ∧ gS g xs ∣ x.b.natAbs ∧ gS g xs ∣ x.c.natAbs ∧ gS g xs ∣ x.d.natAbs
  | [], g => ⟨Nat.dvd_refl _, fun n h => by cases h⟩
  | y :: xs, g => by
    obtain ⟨h1, h2⟩ := gS_dvd xs (gL g [y.a, y.b, y.c, y.d])
    obtain ⟨h3, h4⟩ := gL_dvd [y.a, y.b, y.c, y.d] g
    have e : gS g (y :: xs) = gS (gL g [y.a, y.b, y.c, y.d]) xs := rfl
    rw [e]
    refine ⟨Nat.dvd_trans h1 h3, fun n hn => ?_⟩
    rcases List.mem_cons.mp hn with rfl | hn
    · exact ⟨Nat.dvd_trans h1 (h4 _ (by simp)), Nat.dvd_trans h1 (h4 _ (by simp)), Nat.dvd_trans h1 (h4 _ (by simp)), Nat.dvd_trans h1 (h4 _ (by simp))⟩
    · exact h2 n hn
theorem by_pos {xs : Spr} {m : Nat} (h : (xs.map Am.nz).any id = true) (b : SB m (byL xs)) : 0 < gS 0 (byL xs) ∧ gS 0 (byL xs) < 2 ^ m := by
  obtain ⟨h1, h2, _⟩ := fz_mem h
  have hm : (fzL xs).mul (fzL xs).oth ∈ byL xs := List.mem_map.mpr ⟨_, h1, rfl⟩
  have hN := Am.N_pos ((Am.nz_iff _).mp h2)
  have hd := ((gS_dvd (byL xs) 0).2 _ hm).1
  have hb := (b _ hm).a
  rw [Am.mul_oth] at hd hb
  have hd' : gS 0 (byL xs) ∣ (fzL xs).N.natAbs := hd
  have hb' : (fzL xs).N.natAbs < 2 ^ m := hb
  have hp : 0 < (fzL xs).N.natAbs := by omega
  have := Nat.le_of_dvd hp hd'
  have := Nat.pos_of_dvd_of_pos hd' hp
  exact ⟨by omega, by omega⟩
theorem inD_pow (cs : Sto) (neg : Bool) (i : Int) : inD cs neg (.int i) (.lst [.int 1, .int 2, .int 4, .int 8, .int 16, .int 32, .int 64, .int 128, .int 256, .int 512, .int 1024, .int 2048, .int 4096]) = some (True, .bl (if neg = true then !decide (i ∈ [1, 2, 4, 8, 16, 32, 64, 128, 256, 512, 1024, 2048, 4096]) else decide (i ∈ [1, 2, 4, 8, 16, 32, 64, 128, 256, 512, 1024, 2048, 4096]))) := inD_ints neg i [1, 2, 4, 8, 16, 32, 64, 128, 256, 512, 1024, 2048, 4096]
theorem pow_in {n : Nat} (h : n ≤ 12) : decide (((2 ^ n : Nat) : Int) ∈ ([1, 2, 4, 8, 16, 32, 64, 128, 256, 512, 1024, 2048, 4096] : List Int)) = true := by
  have : ∀ n : Nat, n < 13 → decide (((2 ^ n : Nat) : Int) ∈ ([1, 2, 4, 8, 16, 32, 64, 128, 256, 512, 1024, 2048, 4096] : List Int)) = true := by decide
  exact this n (by omega)
theorem bits_pow (n : Nat) : Builtin.Int.intBits ((2 ^ n : Nat) : Int) = n + 1 := by
  unfold Builtin.Int.intBits
  have h : ¬ (((2 ^ n : Nat) : Int) == 0) = true := by
    have h1 := Nat.two_pow_pos n
    intro h2
    have h3 : ((2 ^ n : Nat) : Int) = 0 := by simpa only [beq_iff_eq] using h2
    omega
  rw [if_neg h, Int.natAbs_natCast, Nat.log2_two_pow]
theorem szSpr {n : Nat} (h : n ≤ 12) : 2 ^ n ≤ sizeLine := by
  have : 2 ^ n ≤ 2 ^ 12 := Nat.pow_le_pow_right (by decide) h
  rw [sizeLine_eq]
  omega
/-! ### exchanges, ties, two spreads -/
def Am.neg (x : Am) : Am := ⟨-x.a, -x.b, -x.c, -x.d⟩
/-- the bit p of a turned about -/
def fl (p a : Nat) : Nat := if a / 2 ^ p % 2 = 1 then a - 2 ^ p else a + 2 ^ p
theorem bxor_fl (a p : Nat) : Builtin.bitXor (a : Int) (2 ^ p) = ((fl p a : Nat) : Int) := by
  have e1 : (a : Int) / 2 ^ p % 2 = ((a / 2 ^ p % 2 : Nat) : Int) := by rw [← p2, Int.natCast_emod, Int.natCast_ediv]; rfl
  rw [PyProof.Rows.bitXor_and, PySem.W.kbt_bit, e1, ← p2]
  unfold fl
  have h1 := Nat.div_add_mod a (2 ^ p)
  split
  · rename_i h
    have h2 : 2 ^ p ≤ a := by
      have h3 : 1 ≤ a / 2 ^ p := by
        generalize a / 2 ^ p = z at h
        omega
      have h4 : 2 ^ p * 1 ≤ 2 ^ p * (a / 2 ^ p) := Nat.mul_le_mul_left _ h3
      have h5 := Nat.mul_div_le a (2 ^ p)
      omega
    rw [h]
    omega
  · rename_i h
    have h2 : a / 2 ^ p % 2 = 0 := by omega
    rw [h2]
    omega
theorem fl_bit (p a : Nat) : fl p a / 2 ^ p % 2 = 1 - a / 2 ^ p % 2 := by
  have hp := Nat.two_pow_pos p
  unfold fl
  split
  · rename_i h
    have e : (a - 2 ^ p) / 2 ^ p = a / 2 ^ p - 1 := by
      have := Nat.sub_mul_div a (2 ^ p) 1
      rw [Nat.mul_one] at this
      exact this
    rw [e]
    generalize a / 2 ^ p = z at *
    omega
  · rename_i h
    have e : (a + 2 ^ p) / 2 ^ p = a / 2 ^ p + 1 := Nat.add_div_right _ hp
    rw [e]
    generalize a / 2 ^ p = z at *
    omega
theorem fl_lt {p n a : Nat} (hp : p < n) (ha : a < 2 ^ n) : fl p a < 2 ^ n := by
  unfold fl
  split
  · exact Nat.lt_of_le_of_lt (Nat.sub_le _ _) ha
  · rename_i h
    obtain ⟨m, rfl⟩ : ∃ m, n = p + 1 + m := ⟨n - p - 1, by omega⟩
    have h1 := Nat.div_add_mod a (2 ^ p)
    have h2 := Nat.mod_lt a (Nat.two_pow_pos p)
    have e2 : 2 ^ (p + 1 + m) = 2 ^ p * (2 * 2 ^ m) := by rw [Nat.pow_add, Nat.pow_succ]; grind
    have h3 : a / 2 ^ p < 2 * 2 ^ m := by
      rw [Nat.div_lt_iff_lt_mul (Nat.two_pow_pos p), Nat.mul_comm, ← e2]
      exact ha
    have h4 : a / 2 ^ p + 2 ≤ 2 * 2 ^ m := by
      generalize a / 2 ^ p = z at *
      omega
    have h5 : 2 ^ p * (a / 2 ^ p + 2) ≤ 2 ^ p * (2 * 2 ^ m) := Nat.mul_le_mul_left _ h4
    rw [e2]
    rw [Nat.mul_add] at h5
    omega
def exchL (xs : Spr) (p : Nat) : Spr := (List.range xs.length).map fun a => atS xs (fl p a)
def bt (p a : Nat) : Bool := decide (a / 2 ^ p % 2 = 1)
def tieL (xs : Spr) (p q : Nat) : Spr := (List.range xs.length).map fun a => if (bt p a && bt q a) = true then (atS xs a).neg else atS xs a
def evenL (xs : Spr) (p : Nat) (t : Int) : Prop := (s1 (lookL xs p (t % 8).toNat) = s1 xs ∧ s2 (lookL xs p (t % 8).toNat) = s2 xs) ∧ s1 (lookL xs p ((t + 4) % 8).toNat) = s1 xs ∧ s2 (lookL xs p ((t + 4) % 8).toNat) = s2 xs
instance (xs : Spr) (p : Nat) (t : Int) : Decidable (evenL xs p t) := by unfold evenL; infer_instance
def bothL (xs ys : Spr) : Spr := ys.flatMap fun y => xs.map fun x => x.mul y
theorem mk_len (xs : Spr) (f : Nat → Am) : ((List.range xs.length).map f).length = xs.length := by simp
theorem exchL_len (xs : Spr) (p : Nat) : (exchL xs p).length = xs.length := by simp [exchL]
theorem tieL_len (xs : Spr) (p q : Nat) : (tieL xs p q).length = xs.length := by simp [tieL]
theorem mk_at {xs : Spr} {f : Nat → Am} {n a : Nat} (h : a < n) : atS ((List.range n).map f) a = f a := by
  apply atS_some
  rw [List.getElem?_map, List.getElem?_range h]
  rfl
theorem exch_at {xs : Spr} {p a : Nat} (h : a < xs.length) : atS (exchL xs p) a = atS xs (fl p a) := mk_at (xs := xs) h
theorem tie_at {xs : Spr} {p q a : Nat} (h : a < xs.length) : atS (tieL xs p q) a = if (bt p a && bt q a) = true then (atS xs a).neg else atS xs a := mk_at (xs := xs) h
theorem spr_ext {xs ys : Spr} (hl : xs.length = ys.length) (h : ∀ a, a < xs.length → atS xs a = atS ys a) : xs = ys := by
  apply List.ext_getElem hl
  intro a h1 h2
  have := h a h1
  rw [atS_some (List.getElem?_eq_getElem h1), atS_some (List.getElem?_eq_getElem h2)] at this
  exact this
theorem band_nat (a b : Nat) : Builtin.bitAnd (a : Int) (b : Int) = ((a &&& b : Nat) : Int) := by
  unfold Builtin.bitAnd
  have e1 : decide ((0 : Int) ≤ (a : Int)) = true := by simp
  have e2 : decide ((0 : Int) ≤ (b : Int)) = true := by simp
  simp only [e1, e2, Int.toNat_natCast]
theorem bt_test (p a : Nat) : bt p a = a.testBit p := by
  unfold bt
  rw [Nat.testBit_eq_decide_div_mod_eq]
/-- at & both == both -/
theorem both_bits (a p q : Nat) : (Builtin.bitAnd (a : Int) (Builtin.bitOr (2 ^ p) (2 ^ q)) = Builtin.bitOr (2 ^ p) (2 ^ q)) ↔ (bt p a && bt q a) = true := by
  rw [← p2, ← p2, bor_nat, band_nat, bt_test, bt_test]
  constructor
  · intro h
    have h : a &&& (2 ^ p ||| 2 ^ q) = (2 ^ p ||| 2 ^ q) := by omega
    have h1 := congrArg (fun z => Nat.testBit z p) h
    have h2 := congrArg (fun z => Nat.testBit z q) h
    simp only [Nat.testBit_and, Nat.testBit_or, Nat.testBit_two_pow_self, Bool.true_or, Bool.or_true, Bool.and_true] at h1 h2
    simp [h1, h2]
  · intro h
    rw [Bool.and_eq_true] at h
    have : a &&& (2 ^ p ||| 2 ^ q) = (2 ^ p ||| 2 ^ q) := by
      apply Nat.eq_of_testBit_eq
      intro i
      rw [Nat.testBit_and, Nat.testBit_or, Nat.testBit_two_pow, Nat.testBit_two_pow]
      by_cases h1 : p = i
      · subst h1
        simp [h.1]
      · by_cases h2 : q = i
        · subst h2
          simp [h.2]
        · simp [h1, h2]
    rw [this]
theorem Am.tn_four (x : Am) : Am.tn 4 x = x.neg := by
  show (((x.tn1).tn1).tn1).tn1 = _
  apply Am.ext' <;> simp only [Am.tn1, Am.neg]
theorem Am.B.neg {n : Nat} {x : Am} (h : x.B n) : x.neg.B n := ⟨h.a.neg, h.b.neg, h.c.neg, h.d.neg⟩
theorem Am.neg_neg (x : Am) : x.neg.neg = x := by
  apply Am.ext' <;> simp only [Am.neg, Int.neg_neg]
theorem Am.neg_nz (x : Am) : x.neg.nz = x.nz := by
  rw [Bool.eq_iff_iff, Am.nz_iff, Am.nz_iff]
  constructor <;> intro h e
  · subst e; exact h rfl
  · apply h
    have := congrArg Am.neg e
    rw [Am.neg_neg] at this
    exact this
theorem Am.mul_one' (x : Am) : x.mul ⟨1, 0, 0, 0⟩ = x := by
  apply Am.ext' <;> simp [Am.mul]
theorem SB.mk {n m : Nat} {f : Nat → Am} (h : ∀ a, (f a).B n) : SB n ((List.range m).map f) := fun y hy => by
  obtain ⟨a, _, rfl⟩ := List.mem_map.mp hy
  exact h a
theorem SB.exch {n : Nat} {xs : Spr} (h : SB n xs) (p : Nat) : SB n (exchL xs p) := SB.mk fun a => h.at _
theorem SB.tie {n : Nat} {xs : Spr} (h : SB n xs) (p q : Nat) : SB n (tieL xs p q) := SB.mk fun a => by
  split
  · exact (h.at _).neg
  · exact h.at _
theorem bothL_len (xs : Spr) : ∀ ys : Spr, (bothL xs ys).length = xs.length * ys.length
  | [] => rfl
  | y :: ys => by
    have := bothL_len xs ys
    unfold bothL at this ⊢
    rw [List.flatMap_cons, List.length_append, this, List.length_map, List.length_cons, Nat.mul_succ, Nat.add_comm]
theorem bothL_sT (xs ys : Spr) : (sT ys).flatMap (fun y => (sT xs).map fun x => (match x, y with | x, y => D.non)) = (sT ys).flatMap (fun y => (sT xs).map fun x => D.non) := rfl
def ofT : D → Am
  | .tup [.int a, .int b, .int c, .int d] => ⟨a, b, c, d⟩
  | _ => Am.O
theorem ofT_t (x : Am) : ofT x.t = x := (rfl)
theorem both_map (xs : Spr) : ∀ ys : Spr, (sT ys).flatMap (fun y => (sT xs).map fun x => ((ofT x).mul (ofT y)).t) = sT (bothL xs ys)
  | [] => rfl
  | y :: ys => by
    have := both_map xs ys
    show ((y.t :: sT ys).flatMap _) = sT ((y :: ys).flatMap _)
    rw [List.flatMap_cons, List.flatMap_cons, this]
    unfold sT
    rw [List.map_append, List.map_map, List.map_map]
    rfl
/-! ### lots, orders, bits -/
theorem bit_is (a p : Nat) : Builtin.bitAnd ((a : Int) / 2 ^ p) 1 = ((a / 2 ^ p % 2 : Nat) : Int) := by
  have e : (a : Int) / 2 ^ p = ((a / 2 ^ p : Nat) : Int) := by rw [← p2, Int.natCast_ediv]
  rw [e]
  have := band_low (a / 2 ^ p) 1
  simpa using this
theorem ite_i {c : Prop} [Decidable c] {A B : Prop} (h1 : c → A) (h2 : ¬ c → B) : if c then A else B := by
  by_cases h : c
  · rw [if_pos h]; exact h1 h
  · rw [if_neg h]; exact h2 h
theorem lstAt_app2 {cs : Sto} {a : List D} {b : CO} : lstAt (cs ++ [.lst a] ++ [b]) cs.length = some a := by
  rw [lstAt_old (by simp), lstAt_app]
theorem lstAt_app3 {cs : Sto} {a : List D} {b c : CO} : lstAt (cs ++ [.lst a] ++ [b] ++ [c]) cs.length = some a := by
  rw [lstAt_old (by simp), lstAt_app2]
theorem set_app2 {cs : Sto} {a b c : CO} : (cs ++ [a] ++ [b]).set cs.length c = cs ++ [c] ++ [b] := by
  rw [set_old (by simp), set_app]
theorem set_app3 {cs : Sto} {a b c e : CO} : (cs ++ [a] ++ [b] ++ [c]).set cs.length e = cs ++ [e] ++ [b] ++ [c] := by
  rw [set_old (by simp), set_app2]
def nT (ns : List Nat) : List D := ns.map fun n : Nat => D.int n
theorem nT_ints (ns : List Nat) : nT ns = (ns.map fun n : Nat => (n : Int)).map D.int := by simp [nT]
def layIx (os : List Nat) (a : Nat) : Nat := ((os.zipIdx.filter fun p => bt p.2 a).map fun p => 2 ^ p.1).sum
def layL (xs : Spr) (os : List Nat) : Spr := (List.range xs.length).map fun a => atS xs (layIx os a)
def mixL (xs : Spr) (p : Nat) : Spr := (List.range xs.length).map fun a => if bt p a = true then (atS xs (fl p a)).add (atS xs a).neg else (atS xs a).add (atS xs (fl p a))
def bitsL (n h : Nat) : Spr := (List.range n).map fun a => if a = h then ⟨1, 0, 0, 0⟩ else ⟨0, 0, 0, 0⟩
theorem layL_len (xs : Spr) (os : List Nat) : (layL xs os).length = xs.length := by simp [layL]
theorem mixL_len (xs : Spr) (p : Nat) : (mixL xs p).length = xs.length := by simp [mixL]
theorem bitsL_len (n h : Nat) : (bitsL n h).length = n := by simp [bitsL]
/-- sums of unlike powers stay below -/
theorem sum_pow_lt : ∀ (n : Nat) (l : List Nat), l.Nodup → (∀ o ∈ l, o < n) → (l.map fun o => 2 ^ o).sum < 2 ^ n
  | 0, l, _, h => by
    cases l with
    | nil => simp
    | cons o l => exact absurd (h o List.mem_cons_self) (Nat.not_lt_zero o)
  | n + 1, l, hn, h => by
    by_cases hm : n ∈ l
    · have hp := List.perm_cons_erase hm
      have h1 : (l.map fun o => 2 ^ o).sum = 2 ^ n + ((l.erase n).map fun o => 2 ^ o).sum := by
        rw [(hp.map fun o => 2 ^ o).sum_nat]
        simp
      have h2 := sum_pow_lt n (l.erase n) (hn.erase n) fun o ho => by
        have h3 := h o (List.mem_of_mem_erase ho)
        have h4 : o ≠ n := fun e => by
          subst e
          exact (List.Nodup.not_mem_erase hn) ho
        omega
      rw [h1, Nat.pow_succ]
      omega
    · have h2 := sum_pow_lt n l hn fun o ho => by
        have h3 := h o ho
        have h4 : o ≠ n := fun e => hm (by rw [← e]; exact ho)
        omega
      rw [Nat.pow_succ]
      omega
theorem layIx_lt {os : List Nat} {n a : Nat} (hn : os.Nodup) (h : ∀ o ∈ os, o < n) : layIx os a < 2 ^ n := by
  unfold layIx
  have e : ((os.zipIdx.filter fun p => bt p.2 a).map fun p => 2 ^ p.1) = ((os.zipIdx.filter fun p => bt p.2 a).map Prod.fst).map fun o => 2 ^ o := by
    rw [List.map_map]
    rfl
  rw [e]
  have hs : ((os.zipIdx.filter fun p => bt p.2 a).map Prod.fst).Sublist os := by
    have h1 := (List.filter_sublist (p := fun p : Nat × Nat => bt p.2 a) (l := os.zipIdx)).map Prod.fst
    rwa [List.zipIdx_map_fst] at h1
  exact sum_pow_lt n _ (hn.sublist hs) fun o ho => h o (hs.subset ho)
def bitsN (bs : List Nat) : Nat := (bs.zipIdx.map fun p => p.1 * 2 ^ p.2).sum
theorem nat_sum : ∀ l : List Nat, (l.map fun m : Nat => (m : Int)).sum = ((l.sum : Nat) : Int)
  | [] => rfl
  | x :: l => by rw [List.map_cons, List.sum_cons, List.sum_cons, nat_sum l]; omega
theorem zip_snoc {l : List Nat} {i o : Nat} (h : l[i]? = some o) (f : Nat × Nat → Nat) : ((l.take (i + 1)).zipIdx.map f) = ((l.take i).zipIdx.map f) ++ [f (o, i)] := by
  have hil : i < l.length := (List.getElem?_eq_some_iff.mp h).1
  have e1 : (l.take i).length = i := by rw [List.length_take]; omega
  rw [take_succ' h, List.zipIdx_append, List.map_append, e1, Nat.zero_add]
  rfl
theorem nD_ints (l : List Nat) : l.map (fun m : Nat => D.int m) = (l.map fun m : Nat => (m : Int)).map D.int := by rw [List.map_map]; rfl
theorem notf {b : Bool} (h : (!b) = false) : b = true := by simpa using h
theorem nott {b : Bool} (h : (!b) = true) : b = false := by simpa using h
/-! ### plain laws of looks -/
theorem Am.tn_mul (x y : Am) : ∀ k, (Am.tn k x).mul y = Am.tn k (x.mul y)
  | 0 => rfl
  | k + 1 => by
    show ((Am.tn k x).tn1).mul y = (Am.tn k (x.mul y)).tn1
    rw [← Am.tn_mul x y k]
    apply Am.ext' <;> simp only [Am.mul, Am.tn1] <;> grind
theorem Am.add_mul (x y z : Am) : (x.add y).mul z = (x.mul z).add (y.mul z) := by
  apply Am.ext' <;> simp only [Am.mul, Am.add] <;> grind
theorem Am.tn_add (x y : Am) : ∀ k, Am.tn k (x.add y) = (Am.tn k x).add (Am.tn k y)
  | 0 => rfl
  | k + 1 => by
    show (Am.tn k (x.add y)).tn1 = (Am.tn k x).tn1.add (Am.tn k y).tn1
    rw [Am.tn_add x y k]
    apply Am.ext' <;> simp only [Am.add, Am.tn1] <;> omega
def mulL (xs : Spr) (b : Am) : Spr := xs.map fun x => x.mul b
theorem O_mul (b : Am) : Am.O.mul b = Am.O := by
  apply Am.ext' <;> simp [Am.mul, Am.O]
theorem atS_mul (xs : Spr) (b : Am) (i : Nat) : atS (mulL xs b) i = (atS xs i).mul b := by
  unfold atS mulL
  rw [List.getD_eq_getElem?_getD, List.getD_eq_getElem?_getD, List.getElem?_map]
  cases xs[i]? with
  | none => exact (O_mul b).symm
  | some x => rfl
theorem look_mul (xs : Spr) (b : Am) (p k : Nat) : lookL (mulL xs b) p k = mulL (lookL xs p k) b := by
  have hl : (mulL xs b).length = xs.length := by simp [mulL]
  unfold lookL
  rw [hl]
  simp only [atS_mul]
  unfold mulL
  rw [List.map_map]
  apply List.map_congr_left
  intro a _
  simp only [Function.comp_apply, Am.add_mul, Am.tn_mul]
theorem Am.mul_nz {x b : Am} (hb : b ≠ ⟨0, 0, 0, 0⟩) : (x.mul b).nz = x.nz := by
  rw [Bool.eq_iff_iff, Am.nz_iff, Am.nz_iff]
  constructor
  · intro h e
    subst e
    exact h (O_mul b)
  · intro h e
    apply h
    have h1 : (x.mul b).mul b.oth = ⟨0, 0, 0, 0⟩ := by rw [e]; exact O_mul _
    rw [Am.mul_assoc, Am.mul_oth] at h1
    have hN := Am.N_pos hb
    have h2 : x.mul ⟨b.N, 0, 0, 0⟩ = ⟨x.a * b.N, x.b * b.N, x.c * b.N, x.d * b.N⟩ := by
      apply Am.ext' <;> simp [Am.mul]
    rw [h2] at h1
    have z : ∀ y : Int, y * b.N = 0 → y = 0 := fun y h => (Int.mul_eq_zero.mp h).resolve_right (by omega)
    injection h1 with e1 e2 e3 e4
    exact Am.ext' (z _ e1) (z _ e2) (z _ e3) (z _ e4)
theorem filter_mul {b : Am} (hb : b ≠ ⟨0, 0, 0, 0⟩) (xs : Spr) : (mulL xs b).filter Am.nz = mulL (xs.filter Am.nz) b := by
  unfold mulL
  rw [List.filter_map]
  congr 1
  apply List.filter_congr
  intro x _
  exact Am.mul_nz hb
theorem oth_mul (x y : Am) : (x.mul y).oth = x.oth.mul y.oth := by
  have g1 : ∀ x y : Am, (x.mul y).mir = x.mir.mul y.mir := fun x y => by
    apply Am.ext' <;> simp only [Am.mul, Am.mir] <;> grind
  have g2 : ∀ x y : Am, (⟨(x.mul y).a, (x.mul y).d, -(x.mul y).c, (x.mul y).b⟩ : Am) = Am.mul ⟨x.a, x.d, -x.c, x.b⟩ ⟨y.a, y.d, -y.c, y.b⟩ := fun x y => by
    apply Am.ext' <;> simp only [Am.mul] <;> grind
  have g3 : ∀ x y : Am, (⟨(x.mul y).a, -(x.mul y).b, (x.mul y).c, -(x.mul y).d⟩ : Am) = Am.mul ⟨x.a, -x.b, x.c, -x.d⟩ ⟨y.a, -y.b, y.c, -y.d⟩ := fun x y => by
    apply Am.ext' <;> simp only [Am.mul] <;> grind
  have sw : ∀ a b c d : Am, (a.mul b).mul (c.mul d) = (a.mul c).mul (b.mul d) := fun a b c d => by
    rw [Am.mul_assoc, ← Am.mul_assoc b c d, Am.mul_comm c b, Am.mul_assoc c b d, ← Am.mul_assoc]
  unfold Am.oth
  rw [g1, g2, g3, sw ⟨x.a, x.d, -x.c, x.b⟩, sw]
def scL (N : Int) (xs : Spr) : Spr := xs.map fun x => ⟨N * x.a, N * x.b, N * x.c, N * x.d⟩
theorem by_mul {b : Am} (hb : b ≠ ⟨0, 0, 0, 0⟩) {xs : Spr} (h : (xs.map Am.nz).any id = true) : byL (mulL xs b) = scL b.N (byL xs) := by
  have hf : fzL (mulL xs b) = (fzL xs).mul b := by
    have h3 := (fz_mem h).2.2
    unfold fzL
    rw [filter_mul hb]
    unfold fzL at h3
    cases hc : xs.filter Am.nz with
    | nil => rw [hc] at h3; cases h3
    | cons y ys => rfl
  unfold byL scL
  rw [hf, oth_mul]
  show List.map _ (List.map _ _) = _
  rw [List.map_map, List.map_map]
  apply List.map_congr_left
  intro x _
  simp only [Function.comp_apply]
  have e : (x.mul b).mul ((fzL xs).oth.mul b.oth) = (x.mul (fzL xs).oth).mul (b.mul b.oth) := by
    rw [Am.mul_assoc, ← Am.mul_assoc b, Am.mul_comm (fzL xs).oth b, Am.mul_assoc (fzL xs).oth, ← Am.mul_assoc]
  rw [e, Am.mul_oth]
  apply Am.ext' <;> simp [Am.mul] <;> grind
theorem gL_sc (N : Nat) : ∀ (ns : List Int) (g : Nat), gL (N * g) (ns.map fun n => (N : Int) * n) = N * gL g ns
  | [], g => rfl
  | n :: ns, g => by
    show gL (Nat.gcd (N * g) ((N : Int) * n).natAbs) _ = N * gL (Nat.gcd g n.natAbs) ns
    rw [Int.natAbs_mul, Int.natAbs_natCast, Nat.gcd_mul_left]
    exact gL_sc N ns _
theorem gS_sc (N : Nat) : ∀ (xs : Spr) (g : Nat), gS (N * g) (scL N xs) = N * gS g xs
  | [], g => rfl
  | x :: xs, g => by
    show gS (gL (N * g) [(N : Int) * x.a, (N : Int) * x.b, (N : Int) * x.c, (N : Int) * x.d]) (scL N xs) = N * gS (gL g [x.a, x.b, x.c, x.d]) xs
    rw [← gS_sc N xs, ← gL_sc N]
    rfl
theorem plain_mul {b : Am} (hb : b ≠ ⟨0, 0, 0, 0⟩) {xs : Spr} (h : (xs.map Am.nz).any id = true) : plainL (mulL xs b) = plainL xs := by
  have hN := Am.N_pos hb
  obtain ⟨N, hN2⟩ := Int.eq_ofNat_of_zero_le (Int.le_of_lt hN)
  unfold plainL
  rw [by_mul hb h, hN2]
  have hg := gS_sc N (byL xs) 0
  rw [Nat.mul_zero] at hg
  rw [hg]
  unfold scL
  rw [List.map_map]
  apply List.map_congr_left
  intro x _
  have hp : (0 : Int) < (N : Int) := by omega
  simp only [Function.comp_apply, Am.dv, Int.natCast_mul, Int.mul_ediv_mul_of_pos _ _ hp]
/-! ### both falls: lengths add up to twice -/
def sumR (f : Nat → Int) (n : Nat) : Int := ((List.range n).map f).sum
theorem sumR_z (f : Nat → Int) : sumR f 0 = 0 := rfl
theorem sumR_s (f : Nat → Int) (n : Nat) : sumR f (n + 1) = sumR f n + f n := by
  simp [sumR, List.range_succ]
theorem sumR_add (f : Nat → Int) (m : Nat) : ∀ n, sumR f (m + n) = sumR f m + sumR (fun i => f (m + i)) n
  | 0 => by rw [Nat.add_zero, sumR_z, Int.add_zero]
  | n + 1 => by rw [← Nat.add_assoc, sumR_s, sumR_add f m n, sumR_s, Int.add_assoc]
theorem sumR_congr {f g : Nat → Int} : ∀ {n : Nat}, (∀ i < n, f i = g i) → sumR f n = sumR g n
  | 0, _ => rfl
  | n + 1, h => by rw [sumR_s, sumR_s, sumR_congr fun i hi => h i (Nat.lt_succ_of_lt hi), h n (Nat.lt_succ_self n)]
theorem sumR_plus (f g : Nat → Int) : ∀ n, sumR (fun i => f i + g i) n = sumR f n + sumR g n
  | 0 => rfl
  | n + 1 => by rw [sumR_s, sumR_s, sumR_s, sumR_plus f g n]; omega
/-- row by row -/
theorem sumR_rows (f : Nat → Int) (B : Nat) : ∀ A, sumR f (A * B) = sumR (fun h => sumR (fun l => f (h * B + l)) B) A
  | 0 => by rw [Nat.zero_mul]; rfl
  | A + 1 => by rw [Nat.succ_mul, sumR_add, sumR_s, sumR_rows f B A]
theorem sum_pairs (f : Nat → Int) {n p : Nat} (hp : p < n) : sumR (fun a => f (ixL p a) + f (ixL p a + 2 ^ p)) (2 ^ n / 2) = sumR f (2 ^ n) := by
  obtain ⟨m, rfl⟩ : ∃ m, n = p + 1 + m := ⟨n - p - 1, by omega⟩
  have e1 : 2 ^ (p + 1 + m) / 2 = 2 ^ m * 2 ^ p := by
    have : 2 ^ (p + 1 + m) = 2 * (2 ^ m * 2 ^ p) := by rw [Nat.pow_add, Nat.pow_succ]; grind
    omega
  have e2 : 2 ^ (p + 1 + m) = 2 ^ m * (2 ^ p + 2 ^ p) := by rw [Nat.pow_add, Nat.pow_succ]; grind
  rw [e1, e2, sumR_rows, sumR_rows]
  apply sumR_congr
  intro h _
  rw [sumR_add, ← sumR_plus]
  apply sumR_congr
  intro l hl
  have e3 : ixL p (h * 2 ^ p + l) = h * (2 ^ p + 2 ^ p) + l := by
    have h1 : (h * 2 ^ p + l) % 2 ^ p = l := by rw [Nat.mul_comm, Nat.mul_add_mod, Nat.mod_eq_of_lt hl]
    unfold ixL
    rw [h1, Nat.add_sub_cancel, Nat.mul_add]
    omega
  rw [e3]
  congr 2
  omega
theorem sum_map (F : Am → Int) (xs : Spr) : (xs.map F).sum = sumR (fun i => F (atS xs i)) xs.length := by
  unfold sumR
  congr 1
  apply List.ext_getElem
  · simp
  · intro i h1 h2
    have hi : i < xs.length := by simpa using h1
    simp only [List.getElem_map, List.getElem_range]
    rw [atS_some (List.getElem?_eq_getElem hi)]
theorem look_sum (F : Am → Int) (xs : Spr) (p k : Nat) : ((lookL xs p k).map F).sum = sumR (fun a => F ((atS xs (ixL p a)).add (Am.tn k (atS xs (ixL p a + 2 ^ p))))) (xs.length / 2) := by
  unfold lookL sumR
  rw [List.map_map]
  rfl
theorem tn4 (x : Am) (k : Nat) : Am.tn (k + 4) x = ⟨-(Am.tn k x).a, -(Am.tn k x).b, -(Am.tn k x).c, -(Am.tn k x).d⟩ := by
  show (((Am.tn k x).tn1.tn1).tn1).tn1 = _
  apply Am.ext' <;> simp only [Am.tn1] <;> omega
theorem par1 (x y : Am) (k : Nat) : (x.add (Am.tn k y)).l1 + (x.add (Am.tn (k + 4) y)).l1 = 2 * x.l1 + 2 * y.l1 := by
  rw [tn4, ← Am.l1_tn y k]
  simp only [Am.add, Am.l1]
  grind
theorem par2 (x y : Am) (k : Nat) : (x.add (Am.tn k y)).l2 + (x.add (Am.tn (k + 4) y)).l2 = 2 * x.l2 + 2 * y.l2 := by
  rw [tn4, ← Am.l2_tn y k]
  simp only [Am.add, Am.l2]
  grind
theorem both1 {xs : Spr} {n p : Nat} (w : xs.length = 2 ^ n) (hp : p < n) (k : Nat) : s1 (lookL xs p k) + s1 (lookL xs p (k + 4)) = 2 * s1 xs := by
  unfold s1
  rw [look_sum, look_sum, ← sumR_plus, sum_map Am.l1, w, ← sum_pairs _ hp]
  have e : ∀ (g : Nat → Int) m, 2 * sumR g m = sumR (fun i => 2 * g i) m := fun g m => by
    induction m with
    | zero => rfl
    | succ m ih => rw [sumR_s, sumR_s, ← ih]; omega
  rw [e]
  apply sumR_congr
  intro a _
  rw [par1]
  omega
theorem both2 {xs : Spr} {n p : Nat} (w : xs.length = 2 ^ n) (hp : p < n) (k : Nat) : s2 (lookL xs p k) + s2 (lookL xs p (k + 4)) = 2 * s2 xs := by
  unfold s2
  rw [look_sum, look_sum, ← sumR_plus, sum_map Am.l2, w, ← sum_pairs _ hp]
  have e : ∀ (g : Nat → Int) m, 2 * sumR g m = sumR (fun i => 2 * g i) m := fun g m => by
    induction m with
    | zero => rfl
    | succ m ih => rw [sumR_s, sumR_s, ← ih]; omega
  rw [e]
  apply sumR_congr
  intro a _
  rw [par2]
  omega
/-! ### a turn, then a look; two looks -/
theorem ixL_of {p h l : Nat} (hl : l < 2 ^ p) : ixL p (h * 2 ^ p + l) = 2 * (h * 2 ^ p) + l := by
  have h1 : (h * 2 ^ p + l) % 2 ^ p = l := by rw [Nat.mul_comm, Nat.mul_add_mod, Nat.mod_eq_of_lt hl]
  unfold ixL
  rw [h1, Nat.add_sub_cancel]
  omega
theorem atS_look {xs : Spr} {p k a : Nat} (h : a < xs.length / 2) : atS (lookL xs p k) a = (atS xs (ixL p a)).add (Am.tn k (atS xs (ixL p a + 2 ^ p))) := atS_some (lookL_get h)
theorem atS_turn {xs : Spr} {p k a : Nat} (h : a < xs.length) : atS (turnL xs p k) a = if a / 2 ^ p % 2 = 1 then Am.tn k (atS xs a) else atS xs a := atS_some (turnL_get h)
theorem ixL_bit (p a : Nat) : ixL p a / 2 ^ p % 2 = 0 ∧ (ixL p a + 2 ^ p) / 2 ^ p % 2 = 1 := by
  have h1 := Nat.mod_lt a (Nat.two_pow_pos p)
  have e : ixL p a = 2 ^ p * (2 * (a / 2 ^ p)) + a % 2 ^ p := by rw [ixL_eq, Nat.pow_succ, Nat.mul_assoc]
  have e2 : ixL p a / 2 ^ p = 2 * (a / 2 ^ p) := by
    rw [e, Nat.mul_add_div (Nat.two_pow_pos p), Nat.div_eq_of_lt h1, Nat.add_zero]
  have e3 : (ixL p a + 2 ^ p) / 2 ^ p = 2 * (a / 2 ^ p) + 1 := by
    rw [Nat.add_div_right _ (Nat.two_pow_pos p), e2]
  rw [e2, e3]
  omega
theorem look_turn {xs : Spr} {n p : Nat} (w : xs.length = 2 ^ n) (hp : p < n) (k m : Nat) : lookL (turnL xs p k) p m = lookL xs p (k + m) := by
  unfold lookL
  rw [turnL_len]
  apply List.map_congr_left
  intro a ha
  have ha' : a < 2 ^ n / 2 := by rw [← w]; exact List.mem_range.mp ha
  have hx := ixL_lt hp ha'
  rw [← w] at hx
  have hx2 : ixL p a < xs.length := Nat.lt_of_le_of_lt (Nat.le_add_right _ _) hx
  obtain ⟨b0, b1⟩ := ixL_bit p a
  rw [atS_turn hx2, atS_turn hx, if_neg (by omega), if_pos b1, Am.tn_tn]
theorem ix_two {p q a : Nat} (h : p < q) : ixL p (ixL (q - 1) a) = ixL q (ixL p a) ∧ ixL p (ixL (q - 1) a + 2 ^ (q - 1)) = ixL q (ixL p a) + 2 ^ q ∧ ixL q (ixL p a + 2 ^ p) = ixL q (ixL p a) + 2 ^ p := by
  obtain ⟨r, rfl⟩ : ∃ r, q = p + r + 1 := ⟨q - 1 - p, by omega⟩
  show ixL p (ixL (p + r) a) = _ ∧ ixL p (ixL (p + r) a + 2 ^ (p + r)) = _ ∧ _
  generalize hH : a / 2 ^ (p + r) = H
  generalize hM : a % 2 ^ (p + r) / 2 ^ p = M
  generalize hl : a % 2 ^ (p + r) % 2 ^ p = l
  have e1 : 2 ^ (p + r) = 2 ^ r * 2 ^ p := by rw [Nat.pow_add, Nat.mul_comm]
  have hl2 : l < 2 ^ p := by rw [← hl]; exact Nat.mod_lt _ (Nat.two_pow_pos p)
  have h1 : a % 2 ^ (p + r) = M * 2 ^ p + l := by
    rw [← hM, ← hl, Nat.mul_comm]
    exact (Nat.div_add_mod _ _).symm
  have hMl : M * 2 ^ p + l < 2 ^ (p + r) := by rw [← h1]; exact Nat.mod_lt _ (Nat.two_pow_pos _)
  have hM2 : M < 2 ^ r := by
    rw [← hM, Nat.div_lt_iff_lt_mul (Nat.two_pow_pos p), ← e1]
    exact Nat.mod_lt _ (Nat.two_pow_pos _)
  have ea : a = H * 2 ^ (p + r) + (M * 2 ^ p + l) := by
    rw [← h1, ← hH, Nat.mul_comm]
    exact (Nat.div_add_mod _ _).symm
  have e2 : 2 ^ (p + r + 1) = 2 * 2 ^ (p + r) := by rw [Nat.pow_succ, Nat.mul_comm]
  have t1 : ixL (p + r) a = (2 * H * 2 ^ r + M) * 2 ^ p + l := by
    rw [ea, ixL_of hMl, e1]
    grind
  have t2 : ixL p a = H * 2 ^ (p + r + 1) + (2 * M * 2 ^ p + l) := by
    have : a = (H * 2 ^ r + M) * 2 ^ p + l := by rw [ea, e1]; grind
    rw [this, ixL_of hl2, e2, e1]
    grind
  have hs : 2 * M * 2 ^ p + 2 ^ p + 2 ^ p ≤ 2 ^ (p + r + 1) := by
    rw [e2, e1]
    have : (M + 1) * 2 ^ p ≤ 2 ^ r * 2 ^ p := Nat.mul_le_mul_right _ hM2
    grind
  have t3 : ixL (p + r + 1) (ixL p a) = 2 * (H * 2 ^ (p + r + 1)) + (2 * M * 2 ^ p + l) := by rw [t2, ixL_of (by omega)]
  refine ⟨?_, ?_, ?_⟩
  · rw [t3, t1, ixL_of hl2, e2, e1]
    grind
  · have : ixL (p + r) a + 2 ^ (p + r) = (2 * H * 2 ^ r + M + 2 ^ r) * 2 ^ p + l := by rw [t1, e1]; grind
    rw [t3, this, ixL_of hl2, e2, e1]
    grind
  · have : ixL p a + 2 ^ p = H * 2 ^ (p + r + 1) + (2 * M * 2 ^ p + l + 2 ^ p) := by rw [t2]; omega
    rw [t3, this, ixL_of (by omega)]
    omega
theorem look_two {xs : Spr} {n p q : Nat} (w : xs.length = 2 ^ n) (h : p < q) (hq : q < n) (k l : Nat) : lookL (lookL xs p k) (q - 1) l = lookL (lookL xs q l) p k := by
  have e0 : ∀ u v, (lookL (lookL xs u v) (q - 1) l).length = (lookL (lookL xs q l) p k).length := fun u v => by simp [lookL_len]
  apply List.ext_getElem?
  intro a
  by_cases ha : a < xs.length / 2 / 2
  · rw [lookL_get (by rw [lookL_len]; exact ha), lookL_get (by rw [lookL_len]; exact ha)]
    have hn : 2 ^ n / 2 = 2 ^ (n - 1) := by
      obtain ⟨m, rfl⟩ : ∃ m, n = m + 1 := ⟨n - 1, by omega⟩
      rw [Nat.pow_succ]
      simp
    have ha2 : a < 2 ^ (n - 1) / 2 := by rw [← hn, ← w]; exact ha
    have b1 := ixL_lt (n := n - 1) (p := q - 1) (by omega) ha2
    have b2 := ixL_lt (n := n - 1) (p := p) (by omega) ha2
    rw [← hn, ← w] at b1 b2
    have b3 : ixL (q - 1) a < xs.length / 2 := Nat.lt_of_le_of_lt (Nat.le_add_right _ _) b1
    have b4 : ixL p a < xs.length / 2 := Nat.lt_of_le_of_lt (Nat.le_add_right _ _) b2
    obtain ⟨i1, i2, i3⟩ := ix_two (a := a) h
    rw [atS_look b1, atS_look b3, atS_look b2, atS_look b4, i1, i2, i3]
    congr 1
    simp only [Am.tn_add, Am.tn_tn]
    have e5 : ixL q (ixL p a) + 2 ^ q + 2 ^ p = ixL q (ixL p a) + 2 ^ p + 2 ^ q := by omega
    rw [e5, Nat.add_comm l k]
    apply Am.ext' <;> simp only [Am.add] <;> omega
  · rw [List.getElem?_eq_none (by rw [lookL_len, lookL_len]; omega), List.getElem?_eq_none (by rw [lookL_len, lookL_len]; omega)]
/-! ### comparisons of spreads -/
theorem toPyL_sT : ∀ xs : Spr, toPyL (sT xs) = some (xs.map Am.py)
  | [] => rfl
  | x :: xs => by
    show toPyL (x.t :: sT xs) = _
    simp only [toPyL, toPyL_sT xs]
    rfl
theorem lay_sT : ∀ xs : Spr, PyData.canLayAll0 (xs.map Am.py) = true
  | [] => rfl
  | x :: xs => by
    simp only [List.map_cons, PyData.canLayAll0, lay_sT xs, Am.py, PyData.canLay0, Bool.and_self]
theorem dep_sT : ∀ xs : Spr, PyData.depthAll (xs.map Am.py) ≤ 1
  | [] => by simp [PyData.depthAll]
  | x :: xs => by
    have := dep_sT xs
    simp only [List.map_cons, PyData.depthAll, Am.py, PyData.depth]
    omega
theorem shaped_sT (xs : Spr) : SeqAt.shaped (.list (xs.map Am.py)) = true ∧ SeqAt.shaped (.tuple (xs.map Am.py)) = true := by
  have := dep_sT xs
  have h : decide (PyData.depthAll (xs.map Am.py) + 1 ≤ 64) = true := decide_eq_true (by omega)
  constructor
  · show (PyData.canLayAll0 (xs.map Am.py) && decide (PyData.depth (.list (xs.map Am.py)) ≤ 64)) = true
    rw [lay_sT, PyData.depth, h]
    rfl
  · show (PyData.canLayAll0 (xs.map Am.py) && decide (PyData.depth (.tuple (xs.map Am.py)) ≤ 64)) = true
    rw [lay_sT, PyData.depth, h]
    rfl
theorem eqvA (x y : Am) : PyData.eqv x.py y.py = decide (x = y) := by
  have h := eqv_ints [x.a, x.b, x.c, x.d] [y.a, y.b, y.c, y.d]
  show PyData.eqvAll _ _ = _
  rw [show ([.int x.a, .int x.b, .int x.c, .int x.d] : List PyData) = [x.a, x.b, x.c, x.d].map PyData.int from rfl, show ([.int y.a, .int y.b, .int y.c, .int y.d] : List PyData) = [y.a, y.b, y.c, y.d].map PyData.int from rfl, h]
  rw [Bool.eq_iff_iff, decide_eq_true_iff, decide_eq_true_iff]
  exact ⟨fun h => by simp only [List.cons.injEq, and_true] at h; exact Am.ext' h.1 h.2.1 h.2.2.1 h.2.2.2, fun h => by subst h; rfl⟩
theorem eqv_sT : ∀ xs ys : Spr, PyData.eqvAll (xs.map Am.py) (ys.map Am.py) = decide (xs = ys)
  | [], [] => rfl
  | [], y :: ys => by simp [PyData.eqvAll]
  | x :: xs, [] => by simp [PyData.eqvAll]
  | x :: xs, y :: ys => by
    simp only [List.map_cons, PyData.eqvAll, eqv_sT xs ys, eqvA]
    rw [Bool.eq_iff_iff]
    simp
theorem eqD_sTl (cs : Sto) (neg : Bool) (xs ys : Spr) : eqD cs neg (.lst (sT xs)) (.lst (sT ys)) = some (True, .bl (if neg = true then !decide (xs = ys) else decide (xs = ys))) := by
  simp only [eqD, pyOf, toPy, toPyL_sT, (shaped_sT _).1, and_self, PyData.eqv, eqv_sT]
theorem eqD_sTt (cs : Sto) (neg : Bool) (xs ys : Spr) : eqD cs neg (.tup (sT xs)) (.tup (sT ys)) = some (True, .bl (if neg = true then !decide (xs = ys) else decide (xs = ys))) := by
  simp only [eqD, pyOf, toPy, toPyL_sT, (shaped_sT _).2, and_self, PyData.eqv, eqv_sT]
theorem eqD_nil (cs : Sto) (neg : Bool) (xs : Spr) : eqD cs neg (.lst (xs.map Am.t)) (.lst []) = some (True, .bl (if neg = true then !decide (xs = []) else decide (xs = []))) := eqD_sTl cs neg xs []
theorem filter_nil (xs : Spr) : decide (xs.filter Am.nz = []) = !(xs.map Am.nz).any id := by
  rw [Bool.eq_iff_iff]
  simp [List.filter_eq_nil_iff]
/-! ### reprs of spreads -/
theorem dwts_sT : ∀ xs : Spr, dwts (sT xs) = 5 * xs.length
  | [] => rfl
  | x :: xs => by
    show dwts (x.t :: sT xs) = _
    simp only [dwts, dwts_sT xs, List.length_cons]
    have : dwt x.t = 4 := by simp [Am.t, Am.ds, dwt, dwts]
    omega
theorem DBL_sT {n : Nat} : ∀ {xs : Spr}, SB n xs → DBL n 1 (sT xs)
  | [], _ => by simp [sT, DBL]
  | x :: xs, h => by
    have hx := h x List.mem_cons_self
    show DBL n 1 (x.t :: sT xs)
    simp only [DBL, Am.t, Am.ds, DB, and_true]
    exact ⟨⟨hx.a, hx.b, hx.c, hx.d⟩, DBL_sT fun y hy => h y (List.mem_cons_of_mem _ hy)⟩
theorem DB_opt {n : Nat} {xs : Spr} (h : SB n xs) : DB n 2 (optT xs) := by
  unfold optT
  split
  · simp only [DB]
    exact DBL_sT h
  · simp only [DB]
theorem dwt_opt {xs : Spr} (h : xs.length ≤ 1600) : dwt (optT xs) ≤ 8000 := by
  unfold optT
  split
  · simp only [dwt, dwts_sT]
    omega
  · simp only [dwt]
    omega
theorem repr_opt {n : Nat} {xs : Spr} (h : SB n xs) (l : xs.length ≤ 1600) (hn : n ≤ 1920 := by decide) (cs : Sto) : reprD cs (optT xs) = some (True, shD (optT xs)) := reprD_ok (DB_opt h) hn (by decide) (dwt_opt l)
theorem eq_opt {n : Nat} {xs : Spr} (h : SB n xs) (hn : n ≤ 1920 := by decide) (neg : Bool) (cs : Sto) : eqD cs neg (optT xs) (optT xs) = some (True, .bl (!neg)) := eqD_self (DB_opt h) hn (by decide)
theorem opt_i {A : Spr} {Q : PD} {env : En} {cs : Sto} {i : Nat} {z : Lz (PProd.mk (wC .non env cs Q) (wVar i env cs Q))} (h : envAt env i = some (.tup (sT A))) (q : Q (optT A) cs) : cond2 (!(A.map Am.nz).any id) (wC .non env cs Q) (wVar i env cs Q) z := by
  unfold optT at q
  cases hz : (A.map Am.nz).any id with
  | true =>
    rw [hz, if_pos rfl] at q
    show wVar i env cs Q
    rw [wVar_eq, h]
    exact q
  | false =>
    rw [hz, if_neg (by decide)] at q
    exact q
theorem sum_bd {F : Am → Int} {b : Nat} : ∀ {xs : Spr}, (∀ x ∈ xs, Bd b (F x)) → ((xs.map F).sum).natAbs ≤ xs.length * 2 ^ b
  | [], _ => by simp
  | x :: xs, h => by
    have h1 := h x List.mem_cons_self
    have h2 := sum_bd (xs := xs) fun y hy => h y (List.mem_cons_of_mem _ hy)
    rw [List.map_cons, List.sum_cons, List.length_cons, Nat.succ_mul]
    unfold Bd at h1
    omega
theorem s_bd {n : Nat} {xs : Spr} (h : SB n xs) (l : xs.length ≤ 63) : Bd (n + n + 3 + 6) (s1 xs) ∧ Bd (n + n + 3 + 6) (s2 xs) := by
  have e : ∀ k : Nat, k ≤ xs.length * 2 ^ (n + n + 3) → k < 2 ^ (n + n + 3 + 6) := fun k hk => by
    rw [Nat.pow_add _ (n + n + 3) 6]
    have h1 : xs.length * 2 ^ (n + n + 3) ≤ 63 * 2 ^ (n + n + 3) := Nat.mul_le_mul_right _ l
    have h2 := Nat.two_pow_pos (n + n + 3)
    omega
  exact ⟨e _ (sum_bd fun x hx => (h x hx).l1), e _ (sum_bd fun x hx => (h x hx).l2)⟩
theorem DB_22 {n : Nat} {a b c d : Int} (h1 : Bd n a) (h2 : Bd n b) (h3 : Bd n c) (h4 : Bd n d) : DB n 2 (.tup [.tup [.int a, .int b], .tup [.int c, .int d]]) := by
  simp only [DB, DBL, and_true]
  exact ⟨⟨h1, h2⟩, h3, h4⟩
theorem repr_22 {n : Nat} {a b c d : Int} (h1 : Bd n a) (h2 : Bd n b) (h3 : Bd n c) (h4 : Bd n d) (l : n ≤ 1920 := by decide) (cs : Sto) : reprD cs (.tup [.tup [.int a, .int b], .tup [.int c, .int d]]) = some (True, shD (.tup [.tup [.int a, .int b], .tup [.int c, .int d]])) := reprD_ok (DB_22 h1 h2 h3 h4) l (by decide) (by simp [dwt, dwts])
theorem eq_22 {n : Nat} {a b c d : Int} (h1 : Bd n a) (h2 : Bd n b) (h3 : Bd n c) (h4 : Bd n d) (l : n ≤ 1920 := by decide) (neg : Bool) (cs : Sto) : eqD cs neg (.tup [.tup [.int a, .int b], .tup [.int c, .int d]]) (.tup [.tup [.int a, .int b], .tup [.int c, .int d]]) = some (True, .bl (!neg)) := eqD_self (DB_22 h1 h2 h3 h4) l (by decide)
/-! ### spreads that stay spreads -/
theorem Am.tn_nz (x : Am) (k : Nat) : (Am.tn k x).nz = x.nz := by
  rw [Bool.eq_iff_iff, Am.nz_iff, Am.nz_iff, ne_eq, ne_eq, ← Am.zero, ← Am.zero, Am.l1_tn, Am.l2_tn]
theorem any_nz {xs : Spr} : (xs.map Am.nz).any id = true ↔ ∃ i, i < xs.length ∧ (atS xs i).nz = true := by
  rw [List.any_eq_true]
  constructor
  · rintro ⟨b, hb, e⟩
    obtain ⟨x, hx, rfl⟩ := List.mem_map.mp hb
    obtain ⟨i, hi, e2⟩ := List.getElem_of_mem hx
    exact ⟨i, hi, by rw [atS_some (List.getElem?_eq_getElem hi), e2]; exact e⟩
  · rintro ⟨i, hi, e⟩
    refine ⟨true, List.mem_map.mpr ⟨atS xs i, ?_, e⟩, rfl⟩
    rw [atS_some (List.getElem?_eq_getElem hi)]
    exact List.getElem_mem hi
theorem Spr.W.turn {n : Nat} {xs : Spr} (w : xs.W n) (p k : Nat) : (turnL xs p k).W n := by
  refine ⟨by rw [turnL_len]; exact w.len, w.few, any_nz.mpr ?_⟩
  obtain ⟨i, hi, e⟩ := any_nz.mp w.nz
  refine ⟨i, by rw [turnL_len]; exact hi, ?_⟩
  rw [atS_turn hi]
  split
  · rw [Am.tn_nz]; exact e
  · exact e
theorem mulL_len (xs : Spr) (b : Am) : (mulL xs b).length = xs.length := by simp [mulL]
theorem mulL_nz {b : Am} (hb : b ≠ ⟨0, 0, 0, 0⟩) (xs : Spr) : ((mulL xs b).map Am.nz).any id = (xs.map Am.nz).any id := by
  unfold mulL
  rw [List.map_map]
  congr 1
  apply List.map_congr_left
  intro x _
  exact Am.mul_nz hb
theorem Spr.W.mul {n : Nat} {xs : Spr} {b : Am} (w : xs.W n) (hb : b ≠ ⟨0, 0, 0, 0⟩) : (mulL xs b).W n := ⟨by rw [mulL_len]; exact w.len, w.few, by rw [mulL_nz hb]; exact w.nz⟩
theorem SB.mul {n m : Nat} {xs : Spr} {b : Am} (h : SB n xs) (k : b.B m) : SB (n + m + 3) (mulL xs b) := fun y hy => by
  obtain ⟨x, hx, rfl⟩ := List.mem_map.mp hy
  exact (h x hx).mul k
theorem SB.turn {n : Nat} {xs : Spr} (h : SB n xs) (p k : Nat) : SB n (turnL xs p k) := fun y hy => by
  obtain ⟨a, _, rfl⟩ := List.mem_map.mp hy
  split
  · exact (h.at _).tn _
  · exact h.at _
theorem optT_nz {xs : Spr} (h : (xs.map Am.nz).any id = true) : optT xs = .tup (sT xs) := by
  unfold optT
  rw [if_pos h]
theorem optT_z {xs : Spr} (h : (xs.map Am.nz).any id = false) : optT xs = .non := by
  unfold optT
  rw [if_neg (by rw [h]; decide)]
theorem Spr.W.look {n : Nat} {xs : Spr} (w : xs.W (n + 1)) {p k : Nat} (h : ((lookL xs p k).map Am.nz).any id = true) : (lookL xs p k).W n := by
  refine ⟨?_, by have := w.few; omega, h⟩
  rw [lookL_len, w.len, Nat.pow_succ]
  simp
/-! ties to an even place -/
def ng (b : Bool) (x : Am) : Am := if b = true then x.neg else x
theorem ng_ng (b c : Bool) (x : Am) : ng b (ng c x) = ng (b ^^ c) x := by
  cases b <;> cases c <;> simp [ng, Am.neg_neg]
def par (ps : List Nat) (a : Nat) : Bool := ps.foldr (fun p b => bt p a ^^ b) false
def tieAll (n : Nat) : List Nat → Spr → Spr
  | [], Y => Y
  | p :: ps, Y => tieAll n ps (tieL Y p n)
def sgnAll : List Nat → Spr → Spr
  | [], Y => Y
  | p :: ps, Y => sgnAll ps (turnL Y p 4)
theorem tieAll_len (n : Nat) : ∀ (ps : List Nat) (Y : Spr), (tieAll n ps Y).length = Y.length
  | [], Y => rfl
  | p :: ps, Y => (tieAll_len n ps _).trans (tieL_len _ _ _)
theorem sgnAll_len : ∀ (ps : List Nat) (Y : Spr), (sgnAll ps Y).length = Y.length
  | [], Y => rfl
  | p :: ps, Y => (sgnAll_len ps _).trans (turnL_len _ _ _)
theorem tieAll_at (n : Nat) : ∀ (ps : List Nat) (Y : Spr) {a : Nat}, a < Y.length → atS (tieAll n ps Y) a = ng (bt n a && par ps a) (atS Y a)
  | [], Y, a, h => by simp [tieAll, par, ng]
  | p :: ps, Y, a, h => by
    have e := tieAll_at n ps (tieL Y p n) (a := a) (by rw [tieL_len]; exact h)
    show atS (tieAll n ps (tieL Y p n)) a = _
    rw [e, tie_at h]
    show ng _ (ng _ _) = _
    rw [ng_ng]
    congr 1
    show (_ ^^ _) = (bt n a && (bt p a ^^ par ps a))
    cases bt n a <;> cases bt p a <;> cases par ps a <;> rfl
theorem sgnAll_at : ∀ (ps : List Nat) (Y : Spr) {a : Nat}, a < Y.length → atS (sgnAll ps Y) a = ng (par ps a) (atS Y a)
  | [], Y, a, h => by simp [sgnAll, par, ng]
  | p :: ps, Y, a, h => by
    have e := sgnAll_at ps (turnL Y p 4) (a := a) (by rw [turnL_len]; exact h)
    show atS (sgnAll ps (turnL Y p 4)) a = _
    rw [e, atS_turn h, Am.tn_four]
    have e2 : (if a / 2 ^ p % 2 = 1 then (atS Y a).neg else atS Y a) = ng (bt p a) (atS Y a) := by
      unfold ng bt
      by_cases hb : a / 2 ^ p % 2 = 1 <;> simp [hb]
    rw [e2, ng_ng, Bool.xor_comm]
    rfl
theorem bt_fl {p n a : Nat} (h : p < n) : bt p (fl n a) = bt p a := by
  obtain ⟨m, rfl⟩ : ∃ m, n = p + 1 + m := ⟨n - p - 1, by omega⟩
  have hp := Nat.two_pow_pos p
  have e : 2 ^ (p + 1 + m) = 2 ^ p * (2 * 2 ^ m) := by rw [Nat.pow_add, Nat.pow_succ]; grind
  unfold bt fl
  split
  · rename_i hb
    have h2 : (a - 2 ^ (p + 1 + m)) / 2 ^ p = a / 2 ^ p - 2 * 2 ^ m := by rw [e, Nat.sub_mul_div]
    have h3 : 2 ^ (p + 1 + m) ≤ a := by
      have h3 : 1 ≤ a / 2 ^ (p + 1 + m) := by
        generalize a / 2 ^ (p + 1 + m) = z at hb
        omega
      have h4 : 2 ^ (p + 1 + m) * 1 ≤ 2 ^ (p + 1 + m) * (a / 2 ^ (p + 1 + m)) := Nat.mul_le_mul_left _ h3
      have h5 := Nat.mul_div_le a (2 ^ (p + 1 + m))
      omega
    have h4 : 2 * 2 ^ m ≤ a / 2 ^ p := by
      rw [Nat.le_div_iff_mul_le hp, Nat.mul_comm, ← e]
      exact h3
    rw [h2]
    congr 1
    generalize a / 2 ^ p = z at *
    rw [eq_iff_iff]
    omega
  · have h2 : (a + 2 ^ (p + 1 + m)) / 2 ^ p = a / 2 ^ p + 2 * 2 ^ m := by rw [e, Nat.add_mul_div_left _ _ hp]
    rw [h2]
    congr 1
    generalize a / 2 ^ p = z at *
    rw [eq_iff_iff]
    omega
theorem par_fl {n a : Nat} : ∀ {ps : List Nat}, (∀ p ∈ ps, p < n) → par ps (fl n a) = par ps a
  | [], _ => rfl
  | p :: ps, h => by
    show (bt p (fl n a) ^^ par ps (fl n a)) = (bt p a ^^ par ps a)
    rw [bt_fl (h p List.mem_cons_self), par_fl fun q hq => h q (List.mem_cons_of_mem _ hq)]
theorem bt_self (n a : Nat) : bt n (fl n a) = !bt n a := by
  unfold bt
  rw [fl_bit]
  have := Nat.mod_lt (a / 2 ^ n) (by decide : 0 < 2)
  generalize a / 2 ^ n % 2 = z at *
  have : z = 0 ∨ z = 1 := by omega
  rcases this with rfl | rfl <;> rfl
theorem dbl_at {xs : Spr} {n a : Nat} (w : xs.length = 2 ^ n) : atS (xs ++ xs) a = if a < 2 ^ n then atS xs a else atS xs (a - 2 ^ n) := by
  unfold atS
  rw [List.getD_eq_getElem?_getD, List.getD_eq_getElem?_getD, List.getD_eq_getElem?_getD]
  split
  · rw [List.getElem?_append_left (by omega)]
  · rw [List.getElem?_append_right (by omega), w]
theorem dbl_fl {xs : Spr} {n a : Nat} (w : xs.length = 2 ^ n) (ha : a < 2 ^ (n + 1)) : atS (xs ++ xs) (fl n a) = atS (xs ++ xs) a := by
  have hp := Nat.two_pow_pos n
  rw [Nat.pow_succ] at ha
  rw [dbl_at w, dbl_at w]
  unfold fl
  by_cases h : a < 2 ^ n
  · rw [Nat.div_eq_of_lt h, if_neg (show ¬ 0 % 2 = 1 by decide), if_neg (show ¬ a + 2 ^ n < 2 ^ n by omega), if_pos h, Nat.add_sub_cancel]
  · have e : a / 2 ^ n = 1 := by
      rw [Nat.div_eq_iff hp]
      omega
    rw [e, if_pos (show 1 % 2 = 1 by decide), if_pos (show a - 2 ^ n < 2 ^ n by omega), if_neg h]
theorem signs_exch {xs : Spr} {n : Nat} {ps : List Nat} (w : xs.length = 2 ^ n) (h : ∀ p ∈ ps, p < n) : sgnAll ps (tieAll n ps (xs ++ xs)) = exchL (tieAll n ps (xs ++ xs)) n := by
  have hl : (xs ++ xs).length = 2 ^ (n + 1) := by rw [List.length_append, w, Nat.pow_succ]; omega
  apply spr_ext
  · rw [sgnAll_len, exchL_len]
  · intro a ha
    rw [sgnAll_len, tieAll_len] at ha
    have ha2 : fl n a < (xs ++ xs).length := by rw [hl]; exact fl_lt (Nat.lt_succ_self n) (by rw [← hl]; exact ha)
    rw [sgnAll_at _ _ (by rw [tieAll_len]; exact ha), exch_at (by rw [tieAll_len]; exact ha), tieAll_at _ _ _ ha, tieAll_at _ _ _ ha2, ng_ng, bt_self, par_fl h, dbl_fl w (by rw [← hl]; exact ha)]
    congr 1
    cases bt n a <;> cases par ps a <;> rfl
theorem s_congr {xs ys : Spr} (hl : xs.length = ys.length) (h : ∀ a, a < xs.length → (atS xs a).l1 = (atS ys a).l1 ∧ (atS xs a).l2 = (atS ys a).l2) : s1 xs = s1 ys ∧ s2 xs = s2 ys := by
  unfold s1 s2
  rw [sum_map Am.l1, sum_map Am.l1, sum_map Am.l2, sum_map Am.l2, ← hl]
  exact ⟨sumR_congr fun i hi => (h i hi).1, sumR_congr fun i hi => (h i hi).2⟩
theorem ng_l (b : Bool) (x : Am) : (ng b x).l1 = x.l1 ∧ (ng b x).l2 = x.l2 := by
  cases b
  · exact ⟨rfl, rfl⟩
  · simp only [ng, if_true, Am.neg, Am.l1, Am.l2]
    grind
theorem ng_nz (b : Bool) (x : Am) : (ng b x).nz = x.nz := by
  cases b
  · rfl
  · exact Am.neg_nz x
theorem W_of {xs ys : Spr} {n : Nat} (w : xs.W n) (hl : ys.length = xs.length) (h : ∀ a, a < xs.length → (atS ys a).nz = (atS xs a).nz) : ys.W n := by
  refine ⟨hl.trans w.len, w.few, any_nz.mpr ?_⟩
  obtain ⟨i, hi, e⟩ := any_nz.mp w.nz
  exact ⟨i, by omega, by rw [h i hi]; exact e⟩
theorem dbl_W {xs : Spr} {n : Nat} (w : xs.W n) (l : n < 12) : Spr.W (n + 1) (xs ++ xs) := by
  refine ⟨by rw [List.length_append, w.len, Nat.pow_succ]; omega, by omega, ?_⟩
  rw [List.map_append, List.any_append, w.nz]
  rfl
theorem tieAll_W {xs : Spr} {n : Nat} {ps : List Nat} (w : xs.W n) (l : n < 12) : (tieAll n ps (xs ++ xs)).W (n + 1) :=
  W_of (dbl_W w l) (tieAll_len _ _ _) fun a ha => by rw [tieAll_at _ _ _ ha, ng_nz]
theorem sgnAll_W {Y : Spr} {n : Nat} (w : Y.W n) (ps : List Nat) : (sgnAll ps Y).W n :=
  W_of w (sgnAll_len _ _) fun a ha => by rw [sgnAll_at _ _ ha, ng_nz]
theorem SB.tieAll {n m : Nat} : ∀ {ps : List Nat} {Y : Spr}, SB m Y → SB m (Law.tieAll n ps Y)
  | [], _, h => h
  | p :: ps, Y, h => SB.tieAll (ps := ps) (h.tie p n)
theorem SB.sgnAll {m : Nat} : ∀ {ps : List Nat} {Y : Spr}, SB m Y → SB m (Law.sgnAll ps Y)
  | [], _, h => h
  | p :: ps, Y, h => SB.sgnAll (ps := ps) (h.turn p 4)
theorem SB.dbl {m : Nat} {xs : Spr} (h : SB m xs) : SB m (xs ++ xs) := fun x hx => by
  rcases List.mem_append.mp hx with hx | hx <;> exact h x hx
theorem sgn_s (ps : List Nat) (Y : Spr) : s1 (sgnAll ps Y) = s1 Y ∧ s2 (sgnAll ps Y) = s2 Y :=
  s_congr (sgnAll_len _ _) fun a ha => by
    rw [sgnAll_at _ _ (by rw [sgnAll_len] at ha; exact ha)]
    exact ng_l _ _
theorem tie_s (n : Nat) (ps : List Nat) (Y : Spr) : s1 (tieAll n ps Y) = s1 Y ∧ s2 (tieAll n ps Y) = s2 Y :=
  s_congr (tieAll_len _ _ _) fun a ha => by
    rw [tieAll_at _ _ _ (by rw [tieAll_len] at ha; exact ha)]
    exact ng_l _ _
theorem s_app (xs ys : Spr) : s1 (xs ++ ys) = s1 xs + s1 ys ∧ s2 (xs ++ ys) = s2 xs + s2 ys := by
  simp [s1, s2]
theorem tieAll_snoc (n : Nat) (p : Nat) : ∀ (ps : List Nat) (Y : Spr), tieAll n (ps ++ [p]) Y = tieL (tieAll n ps Y) p n
  | [], Y => rfl
  | q :: ps, Y => tieAll_snoc n p ps _
theorem sgnAll_snoc (p : Nat) : ∀ (ps : List Nat) (Y : Spr), sgnAll (ps ++ [p]) Y = turnL (sgnAll ps Y) p 4
  | [], Y => rfl
  | q :: ps, Y => sgnAll_snoc p ps _
theorem tieL_comm (Y : Spr) (p q : Nat) : tieL Y p q = tieL Y q p := by
  unfold tieL
  apply List.map_congr_left
  intro a _
  rw [Bool.and_comm]
/-- an even place tied to p: looks at p are even -/
theorem look_tied {xs : Spr} {n p : Nat} (w : xs.length = 2 ^ n) (hp : p < n) (k : Nat) : lookL (tieL (xs ++ xs) p n) p k = lookL xs p k ++ lookL xs p (k + 4) := by
  have hl : (xs ++ xs).length = 2 ^ (n + 1) := by rw [List.length_append, w, Nat.pow_succ]; omega
  have hlt : (tieL (xs ++ xs) p n).length = 2 ^ (n + 1) := by rw [tieL_len, hl]
  have hp2 := Nat.two_pow_pos p
  obtain ⟨m, rfl⟩ : ∃ m, n = m + 1 := ⟨n - 1, by omega⟩
  have h2 : 2 ^ (m + 1) / 2 = 2 ^ m := by rw [Nat.pow_succ, Nat.mul_div_cancel _ (by decide)]
  have h3 : 2 ^ (m + 1 + 1) / 2 = 2 ^ (m + 1) := by rw [Nat.pow_succ, Nat.mul_div_cancel _ (by decide)]
  apply spr_ext
  · rw [List.length_append, lookL_len, lookL_len, lookL_len, hlt, w, h2, h3, Nat.pow_succ]
    omega
  · intro a ha
    rw [lookL_len, hlt, h3] at ha
    have ix : ∀ a, ixL p a / 2 ^ p % 2 = 0 ∧ (ixL p a + 2 ^ p) / 2 ^ p % 2 = 1 := ixL_bit p
    have e1 : atS (lookL (tieL (xs ++ xs) p (m + 1)) p k) a = (atS (tieL (xs ++ xs) p (m + 1)) (ixL p a)).add (Am.tn k (atS (tieL (xs ++ xs) p (m + 1)) (ixL p a + 2 ^ p))) := atS_look (by rw [hlt, h3]; exact ha)
    have b1 := ixL_lt (n := m + 1 + 1) (p := p) (a := a) (by omega) (by rw [h3]; exact ha)
    have b0 : ixL p a < 2 ^ (m + 1 + 1) := Nat.lt_of_le_of_lt (Nat.le_add_right _ _) b1
    rw [e1, tie_at (by rw [hl]; exact b0), tie_at (by rw [hl]; exact b1)]
    have c0 : bt p (ixL p a) = false := by unfold bt; rw [(ix a).1]; rfl
    have c1 : bt p (ixL p a + 2 ^ p) = true := by unfold bt; rw [(ix a).2]; rfl
    rw [c0, c1, Bool.false_and, Bool.true_and, if_neg (by decide)]
    by_cases h : a < 2 ^ m
    · -- the first half
      have d1 := ixL_lt (n := m + 1) (p := p) (a := a) hp (by rw [h2]; exact h)
      have d0 : ixL p a < 2 ^ (m + 1) := Nat.lt_of_le_of_lt (Nat.le_add_right _ _) d1
      have c2 : bt (m + 1) (ixL p a + 2 ^ p) = false := by unfold bt; rw [Nat.div_eq_of_lt d1]; rfl
      rw [c2, if_neg (by decide), dbl_at w, if_pos d0, dbl_at w, if_pos d1]
      have : atS (lookL xs p k ++ lookL xs p (k + 4)) a = atS (lookL xs p k) a := by
        unfold atS
        rw [List.getD_eq_getElem?_getD, List.getD_eq_getElem?_getD, List.getElem?_append_left (by rw [lookL_len, w, h2]; exact h)]
      rw [this, atS_look (by rw [w, h2]; exact h)]
    · -- the second
      obtain ⟨b, rfl⟩ : ∃ b, a = 2 ^ m + b := ⟨a - 2 ^ m, by omega⟩
      rw [Nat.pow_succ] at ha
      have hb : b < 2 ^ m := by omega
      have d1 := ixL_lt (n := m + 1) (p := p) (a := b) hp (by rw [h2]; exact hb)
      have d0 : ixL p b < 2 ^ (m + 1) := Nat.lt_of_le_of_lt (Nat.le_add_right _ _) d1
      have ei : ixL p (2 ^ m + b) = 2 ^ (m + 1) + ixL p b := by
        obtain ⟨r, rfl⟩ : ∃ r, m = p + r := ⟨m - p, by omega⟩
        have e5 : 2 ^ (p + r) + b = 2 ^ p * 2 ^ r + b := by rw [Nat.pow_add]
        unfold ixL
        rw [e5, Nat.mul_add_mod, ← e5, Nat.pow_succ]
        have := Nat.mod_le b (2 ^ p)
        omega
      have c2 : bt (m + 1) (ixL p (2 ^ m + b) + 2 ^ p) = true := by
        unfold bt
        rw [ei, Nat.add_assoc, Nat.add_div_left _ (Nat.two_pow_pos _), Nat.div_eq_of_lt d1]
        rfl
      rw [c2, if_pos rfl, ei, dbl_at w, if_neg (by omega), dbl_at w, if_neg (by omega), Nat.add_sub_cancel_left, show 2 ^ (m + 1) + ixL p b + 2 ^ p - 2 ^ (m + 1) = ixL p b + 2 ^ p by omega]
      have : atS (lookL xs p k ++ lookL xs p (k + 4)) (2 ^ m + b) = atS (lookL xs p (k + 4)) b := by
        unfold atS
        rw [List.getD_eq_getElem?_getD, List.getD_eq_getElem?_getD, List.getElem?_append_right (by rw [lookL_len, w, h2]; omega), lookL_len, w, h2, Nat.add_sub_cancel_left]
      rw [this, atS_look (by rw [w, h2]; exact hb)]
      congr 1
      rw [← Am.tn_four, Am.tn_tn, ← Am.tn_tn _ k 4, Am.tn_tn, Nat.add_comm 4 k]
/-! ### done twice -/
theorem mapIdx_sT (xs : Spr) (F : Nat → Am → Am) : (xs.mapIdx fun k x => (F k x).t) = sT ((List.range xs.length).map fun k => F k (atS xs k)) := by
  apply List.ext_getElem
  · simp [sT]
  · intro a h1 h2
    have ha : a < xs.length := by simpa using h1
    simp only [List.getElem_mapIdx, sT, List.getElem_map, List.getElem_range]
    rw [atS_some (List.getElem?_eq_getElem ha)]
theorem turn4 (xs : Spr) (p : Nat) : turnL xs p 4 = (List.range xs.length).map fun a => ng (bt p a) (atS xs a) := by
  unfold turnL
  apply List.map_congr_left
  intro a _
  unfold ng bt
  rw [Am.tn_four]
  by_cases h : a / 2 ^ p % 2 = 1 <;> simp [h]
theorem sign_sign (xs : Spr) (p : Nat) : turnL (turnL xs p 4) p 4 = xs := by
  apply spr_ext
  · rw [turnL_len, turnL_len]
  · intro a ha
    rw [turnL_len, turnL_len] at ha
    rw [turn4, mk_at (xs := xs) (by rw [turnL_len]; exact ha), turn4, mk_at (xs := xs) ha, ng_ng, Bool.xor_self]
    rfl
theorem fl_fl (p a : Nat) : fl p (fl p a) = a := by
  have h := fl_bit p a
  have hm := Nat.mod_lt (a / 2 ^ p) (by decide : 0 < 2)
  have hp := Nat.two_pow_pos p
  by_cases hb : a / 2 ^ p % 2 = 1
  · have e : fl p a = a - 2 ^ p := by unfold fl; rw [if_pos hb]
    have h2 : 2 ^ p ≤ a := by
      have h3 : 1 ≤ a / 2 ^ p := by
        generalize a / 2 ^ p = z at hb
        omega
      have h4 : 2 ^ p * 1 ≤ 2 ^ p * (a / 2 ^ p) := Nat.mul_le_mul_left _ h3
      have h5 := Nat.mul_div_le a (2 ^ p)
      omega
    rw [hb] at h
    have e2 : fl p (fl p a) = fl p a + 2 ^ p := by
      generalize fl p a = y at *
      unfold fl
      rw [if_neg (by rw [h]; decide)]
    rw [e2, e]
    omega
  · have hb0 : a / 2 ^ p % 2 = 0 := by omega
    have e : fl p a = a + 2 ^ p := by unfold fl; rw [if_neg hb]
    rw [hb0] at h
    have e2 : fl p (fl p a) = fl p a - 2 ^ p := by
      generalize fl p a = y at *
      unfold fl
      rw [if_pos h]
    rw [e2, e]
    omega
theorem exch_exch {xs : Spr} {n p : Nat} (w : xs.length = 2 ^ n) (hp : p < n) : exchL (exchL xs p) p = xs := by
  apply spr_ext
  · rw [exchL_len, exchL_len]
  · intro a ha
    rw [exchL_len, exchL_len] at ha
    have h2 : fl p a < xs.length := by rw [w]; exact fl_lt hp (by rw [← w]; exact ha)
    rw [exch_at (by rw [exchL_len]; exact ha), exch_at h2, fl_fl]
theorem tie_at' {xs : Spr} {p q a : Nat} (h : a < xs.length) : atS (tieL xs p q) a = ng (bt p a && bt q a) (atS xs a) := tie_at h
theorem tie_tie (xs : Spr) (p q : Nat) : tieL (tieL xs p q) q p = xs := by
  apply spr_ext
  · rw [tieL_len, tieL_len]
  · intro a ha
    rw [tieL_len, tieL_len] at ha
    rw [tie_at' (by rw [tieL_len]; exact ha), tie_at' ha, ng_ng, Bool.and_comm, Bool.xor_self]
    rfl
theorem tie_s' (xs : Spr) (p q : Nat) : s1 (tieL xs p q) = s1 xs ∧ s2 (tieL xs p q) = s2 xs :=
  s_congr (tieL_len _ _ _) fun a ha => by
    rw [tie_at' (by rw [tieL_len] at ha; exact ha)]
    exact ng_l _ _
theorem Spr.W.tie {n : Nat} {xs : Spr} (w : xs.W n) (p q : Nat) : (tieL xs p q).W n :=
  W_of w (tieL_len _ _ _) fun a ha => by rw [tie_at' ha, ng_nz]
theorem Spr.W.exch {n p : Nat} {xs : Spr} (w : xs.W n) (hp : p < n) : (exchL xs p).W n := by
  refine ⟨by rw [exchL_len]; exact w.len, w.few, any_nz.mpr ?_⟩
  obtain ⟨i, hi, e⟩ := any_nz.mp w.nz
  have h2 : fl p i < xs.length := by rw [w.len]; exact fl_lt hp (by rw [← w.len]; exact hi)
  refine ⟨fl p i, by rw [exchL_len]; exact h2, ?_⟩
  rw [exch_at h2, fl_fl]
  exact e
def Am.dbl (x : Am) : Am := x.add x
theorem mix_at {xs : Spr} {p a : Nat} (h : a < xs.length) : atS (mixL xs p) a = if bt p a = true then (atS xs (fl p a)).add (atS xs a).neg else (atS xs a).add (atS xs (fl p a)) := mk_at (xs := xs) h
theorem mix_mix {xs : Spr} {n p : Nat} (w : xs.length = 2 ^ n) (hp : p < n) : mixL (mixL xs p) p = xs.map Am.dbl := by
  apply spr_ext
  · rw [mixL_len, mixL_len, List.length_map]
  · intro a ha
    rw [mixL_len, mixL_len] at ha
    have h2 : fl p a < xs.length := by rw [w]; exact fl_lt hp (by rw [← w]; exact ha)
    have em : atS (xs.map Am.dbl) a = (atS xs a).dbl := by
      apply atS_some
      rw [List.getElem?_map, List.getElem?_eq_getElem ha, atS_some (List.getElem?_eq_getElem ha)]
      rfl
    rw [mix_at (by rw [mixL_len]; exact ha), mix_at ha, mix_at h2, fl_fl, em, bt_self]
    cases bt p a
    · simp only [Bool.not_false, if_true, Bool.false_eq_true, if_false]
      apply Am.ext' <;> simp only [Am.add, Am.neg, Am.dbl] <;> omega
    · simp only [Bool.not_true, Bool.false_eq_true, if_false, if_true]
      apply Am.ext' <;> simp only [Am.add, Am.neg, Am.dbl] <;> omega
theorem Spr.W.mix {n p : Nat} {xs : Spr} (w : xs.W n) (hp : p < n) : (mixL xs p).W n := by
  refine ⟨by rw [mixL_len]; exact w.len, w.few, ?_⟩
  cases h : ((mixL xs p).map Am.nz).any id with
  | true => rfl
  | false =>
    exfalso
    have hz : ∀ a, a < xs.length → atS (mixL xs p) a = ⟨0, 0, 0, 0⟩ := fun a ha => by
      have h1 : ¬ (atS (mixL xs p) a).nz = true := fun e => by
        have := any_nz.mpr ⟨a, by rw [mixL_len]; exact ha, e⟩
        rw [h] at this
        cases this
      rw [Am.nz_iff] at h1
      exact Classical.not_not.mp h1
    obtain ⟨i, hi, e⟩ := any_nz.mp w.nz
    rw [Am.nz_iff] at e
    apply e
    have h2 : fl p i < xs.length := by rw [w.len]; exact fl_lt hp (by rw [← w.len]; exact hi)
    have em : atS (xs.map Am.dbl) i = (atS xs i).dbl := by
      apply atS_some
      rw [List.getElem?_map, List.getElem?_eq_getElem hi, atS_some (List.getElem?_eq_getElem hi)]
      rfl
    rw [← mix_mix w.len hp, mix_at (by rw [mixL_len]; exact hi), hz i hi, hz _ h2] at em
    have e0 : (atS xs i).dbl = ⟨0, 0, 0, 0⟩ := by
      rw [← em]
      split <;> rfl
    unfold Am.dbl Am.add at e0
    injection e0 with x1 x2 x3 x4
    exact Am.ext' (by simp only; omega) (by simp only; omega) (by simp only; omega) (by simp only; omega)
theorem mix_s {xs : Spr} {n p : Nat} (w : xs.length = 2 ^ n) (hp : p < n) : s1 (mixL xs p) = 2 * s1 xs ∧ s2 (mixL xs p) = 2 * s2 xs := by
  have e : ∀ (g : Nat → Int) m, 2 * sumR g m = sumR (fun i => 2 * g i) m := fun g m => by
    induction m with
    | zero => rfl
    | succ m ih => rw [sumR_s, sumR_s, ← ih]; omega
  have val : ∀ a, a < 2 ^ n / 2 → atS (mixL xs p) (ixL p a) = (atS xs (ixL p a)).add (Am.tn 0 (atS xs (ixL p a + 2 ^ p))) ∧ atS (mixL xs p) (ixL p a + 2 ^ p) = (atS xs (ixL p a)).add (Am.tn (0 + 4) (atS xs (ixL p a + 2 ^ p))) := fun a ha => by
    have hx := ixL_lt hp ha
    rw [← w] at hx
    have hx2 : ixL p a < xs.length := Nat.lt_of_le_of_lt (Nat.le_add_right _ _) hx
    obtain ⟨b0, b1⟩ := ixL_bit p a
    have f0 : fl p (ixL p a) = ixL p a + 2 ^ p := by unfold fl; rw [if_neg (by rw [b0]; decide)]
    have f1 : fl p (ixL p a + 2 ^ p) = ixL p a := by rw [← f0, fl_fl]
    have c0 : bt p (ixL p a) = false := by unfold bt; rw [b0]; rfl
    have c1 : bt p (ixL p a + 2 ^ p) = true := by unfold bt; rw [b1]; rfl
    refine ⟨?_, ?_⟩
    · rw [mix_at hx2, c0, f0]
      rfl
    · rw [mix_at hx, c1, f1, if_pos rfl, Nat.zero_add, Am.tn_four]
  unfold s1 s2
  rw [sum_map Am.l1, sum_map Am.l1, sum_map Am.l2, sum_map Am.l2, mixL_len, w, ← sum_pairs _ hp, ← sum_pairs (fun i => (atS xs i).l1) hp, ← sum_pairs (fun i => (atS (mixL xs p) i).l2) hp, ← sum_pairs (fun i => (atS xs i).l2) hp, e, e]
  constructor
  · apply sumR_congr
    intro a ha
    rw [(val a ha).1, (val a ha).2, par1]
    omega
  · apply sumR_congr
    intro a ha
    rw [(val a ha).1, (val a ha).2, par2]
    omega
theorem SB.mix {n : Nat} {xs : Spr} (h : SB n xs) (p : Nat) : SB (n + 1) (mixL xs p) := SB.mk fun a => by
  split
  · exact (h.at _).add (h.at _).neg
  · exact (h.at _).add (h.at _)
theorem SpD.cell {cs : Sto} {n : Nat} {xs : Spr} (h : lstAt cs n = some (sT xs)) : SpD cs (.cell n) xs := ⟨sT xs, by rw [seqOf_cell]; exact h, Alls.t xs⟩
theorem repr_t {n : Nat} {xs : Spr} (h : SB n xs) (l : xs.length ≤ 1600) (hn : n ≤ 1920 := by decide) (cs : Sto) : reprD cs (.tup (sT xs)) = some (True, shD (.tup (sT xs))) := reprD_ok (k := 2) (by simp only [DB]; exact DBL_sT h) hn (by decide) (by simp only [dwt, dwts_sT]; omega)
theorem repr_l {n : Nat} {xs : Spr} (h : SB n xs) (l : xs.length ≤ 1600) (hn : n ≤ 1920 := by decide) (cs : Sto) : reprD cs (.lst (sT xs)) = some (True, shD (.lst (sT xs))) := reprD_ok (k := 2) (by simp only [DB]; exact DBL_sT h) hn (by decide) (by simp only [dwt, dwts_sT]; omega)
/-- sums by bits, the two ways -/
theorem lay_sum (a : Nat) : ∀ (l : List (Nat × Nat)), ((l.map fun p => a / 2 ^ p.2 % 2 * 2 ^ p.1).sum) = ((l.filter fun p => bt p.2 a).map fun p => 2 ^ p.1).sum
  | [] => rfl
  | p :: l => by
    rw [List.map_cons, List.sum_cons, lay_sum a l, List.filter_cons]
    unfold bt
    have hm := Nat.mod_lt (a / 2 ^ p.2) (by decide : 0 < 2)
    by_cases h : a / 2 ^ p.2 % 2 = 1
    · simp [h]
    · have h0 : a / 2 ^ p.2 % 2 = 0 := by omega
      simp [h0]
theorem sT_app (xs ys : Spr) : sT xs ++ sT ys = sT (xs ++ ys) := by simp [sT]
/-- the rest of the order, drawn one by one -/
theorem perm_pop {ls os : List Nat} {m r : Nat} (h : (os ++ ls).Perm (List.range m)) (hr : r < ls.length) : ((os ++ [ls[r]]) ++ ls.eraseIdx r).Perm (List.range m) := by
  refine List.Perm.trans ?_ h
  rw [List.append_assoc]
  refine List.Perm.append_left os ?_
  show (ls[r] :: ls.eraseIdx r).Perm ls
  have go : ∀ (l : List Nat) (r : Nat) (h : r < l.length), (l[r] :: l.eraseIdx r).Perm l := by
    intro l
    induction l with
    | nil => intro r h; simp at h
    | cons x l ih =>
      intro r h
      cases r with
      | zero => exact List.Perm.refl _
      | succ r =>
        have h' : r < l.length := by simpa using h
        exact (List.Perm.swap x l[r] (l.eraseIdx r)).trans (List.Perm.cons x (ih r h'))
  exact go ls r hr
theorem nT_app (a b : List Nat) : nT a ++ nT b = nT (a ++ b) := by simp [nT]
theorem nT_erase : ∀ (ls : List Nat) (r : Nat), (nT ls).eraseIdx r = nT (ls.eraseIdx r)
  | [], r => rfl
  | x :: ls, 0 => rfl
  | x :: ls, r + 1 => by
    show D.int x :: (nT ls).eraseIdx r = D.int x :: nT (ls.eraseIdx r)
    rw [nT_erase ls r]
theorem svn_app2 {i n : Nat} {cs : Sto} {c e : CO} (h : SvN i n cs) : SvN i n (cs ++ [c] ++ [e]) := svn_app (svn_app h)
theorem lstAt_app1s {cs : Sto} {a : CO} {b : List D} : lstAt (cs ++ [a] ++ [.lst b]) (cs.length + 1) = some b := by
  have := lstAt_app (cs := cs ++ [a]) b
  rwa [app_len] at this
theorem set_app1s {cs : Sto} {a b e : CO} : (cs ++ [a] ++ [b]).set (cs.length + 1) e = cs ++ [a] ++ [e] := by
  have := set_app (cs := cs ++ [a]) (c := b) (c' := e)
  rwa [app_len] at this
theorem mv_apps {i n : Nat} : ∀ {tail cs S : Sto}, i < cs.length → Mv i n (cs ++ tail) S → ∃ cs2, S = cs2 ++ tail ∧ Mv i n cs cs2
  | [], cs, S, hi, h => ⟨S, by simp, by simpa using h⟩
  | c :: tl, cs, S, hi, h => by
    obtain ⟨S1, e1, m1⟩ := mv_apps (i := i) (tail := tl) (cs := cs ++ [c]) (S := S) (by rw [app_len]; omega) (by simpa using h)
    obtain ⟨S2, e2, m2⟩ := mv_app hi m1
    exact ⟨S2, by rw [e1, e2]; simp, m2⟩
theorem mv_app2 {i n : Nat} {cs S : Sto} {c e : CO} (hi : i < cs.length) (h : Mv i n (cs ++ [c] ++ [e]) S) : ∃ cs2, S = cs2 ++ [c] ++ [e] ∧ Mv i n cs cs2 := by
  have h' : Mv i n (cs ++ [c, e]) S := by simpa using h
  obtain ⟨S2, e1, m⟩ := mv_apps hi h'
  exact ⟨S2, by rw [e1]; simp, m⟩
theorem svn_apps {i n : Nat} {cs tail : Sto} (h : SvN i n cs) : SvN i n (cs ++ tail) := by
  have hl := svn_lt h
  obtain ⟨ns, k, r, e, h⟩ := h
  exact ⟨ns, k, r, by rw [List.getElem?_append_left hl]; exact e, h⟩
/-! ### deeds -/
inductive Wd where
  | turn | mix | no | sign | under | swap | both
  deriving DecidableEq
def Wd.s : Wd → Str
  | .turn => "turn"
  | .mix => "mix"
  | .no => "not"
  | .sign => "sign"
  | .under => "under"
  | .swap => "swap"
  | .both => "both"
/-- how many wires -/
def Wd.n : Wd → Nat
  | .turn => 1
  | .mix => 1
  | .no => 1
  | .sign => 2
  | .under => 2
  | .swap => 2
  | .both => 3
structure Deed where
  w : Wd
  ws : List Nat
  t : Nat
def Deed.tl (x : Deed) : List D := if x.w = .turn then [.int x.t] else []
def Deed.ds (x : Deed) : List D := .str x.w.s :: (nT x.ws ++ x.tl)
def Deed.d (x : Deed) : D := .tup x.ds
structure Deed.ok (x : Deed) (n : Nat) : Prop where
  len : x.ws.length = x.w.n
  nd : x.ws.Nodup
  lt : ∀ a ∈ x.ws, a < n
  t : if x.w = .turn then 1 ≤ x.t ∧ x.t ≤ 7 else x.t = 0
def dL (xs : List Deed) : List D := xs.map Deed.d
def dsD (ds : List Deed) : Bool → D
  | true => .tup (dL ds)
  | false => .lst (dL ds)
theorem wd_turn (w : Wd) : decide (w.s = "turn") = decide (w = .turn) := by cases w <;> decide
theorem wd_mix (w : Wd) : decide (w.s = "mix") = decide (w = .mix) := by cases w <;> decide
theorem wd_sign (w : Wd) : decide (w.s = "sign") = decide (w = .sign) := by cases w <;> decide
theorem wd_not (w : Wd) : decide (w.s = "not") = decide (w = .no) := by cases w <;> decide
theorem wd_swap (w : Wd) : decide (w.s = "swap") = decide (w = .swap) := by cases w <;> decide
theorem wd_under (w : Wd) : decide (w.s = "under") = decide (w = .under) := by cases w <;> decide
theorem wd_both (w : Wd) : decide (w.s = "both") = decide (w = .both) := by cases w <;> decide
theorem wd_none (w : Wd) : (w.n = 0) = False := eq_false (by cases w <;> decide)
theorem Wd.n_le (w : Wd) : 1 ≤ w.n ∧ w.n ≤ 3 := by cases w <;> decide
theorem word_get (w : Wd) : ([("turn", 1), ("mix", 1), ("sign", 2), ("not", 1), ("under", 2), ("swap", 2), ("both", 3)] : List (Str × Int)).lookup w.s = some (w.n : Int) := by cases w <;> decide
theorem word_getD (w : Wd) : (getD [(.inr "sign", D.int 2), (.inr "under", .int 2), (.inr "swap", .int 2), (.inr "both", .int 3)] (.inr w.s)).getD (.int 1) = .int (w.n : Int) := by cases w <;> rfl
theorem kB_str_str : kitB "str" "str" = some true := by decide +kernel
theorem isi_str1 (x : Str) (cs : Sto) : isiD cs [.str x, .ty "str"] = some true := kB_str_str
theorem stayNT (ns : List Nat) : stay (.lst (nT ns)) = some (nT ns) := (rfl)
theorem nT_len (ns : List Nat) : (nT ns).length = ns.length := by simp [nT]
theorem Deed.ds_len {x : Deed} {n : Nat} (h : x.ok n) : x.ds.length = 1 + x.w.n + (if x.w = .turn then 1 else 0) := by
  unfold Deed.ds Deed.tl
  rw [List.length_cons, List.length_append, nT_len, h.len]
  split <;> simp <;> omega
theorem Deed.its {x : Deed} {n : Nat} (h : x.ok n) : cutD x.ds (some 1) (some (1 + (x.w.n : Int))) = nT x.ws := by
  rw [cutD_mid _ (by decide) (by omega), show (1 : Int).toNat = 1 from rfl, show ((1 : Int) + x.w.n).toNat = 1 + x.w.n by omega]
  unfold Deed.ds
  rw [List.drop_succ_cons, List.drop_zero, show 1 + x.w.n - 1 = x.w.n by omega, ← h.len, ← nT_len, List.take_left']
  rfl
theorem nums_nT (ns : List Nat) : nums (nT ns) = some (ns.map fun n : Nat => (n : Int)) := by rw [nT_ints, nums_map]
theorem nodup_cast {ns : List Nat} (h : ns.Nodup) : (ns.map fun n : Nat => (n : Int)).Nodup := by
  refine List.Pairwise.map _ (fun a b hab e => hab ?_) h
  omega
/-- a program -/
def progD (C : Addr) (n : Nat) (xs : List Deed) : D := .obj C [("wires", .int n), ("deeds", .tup (dL xs))]
theorem lk_wires (x y : D) : List.lookup ("wires" : Str) ([("wires", x), ("deeds", y)] : List (Str × D)) = some x := rfl
theorem lk_deeds (x y : D) : List.lookup ("deeds" : Str) ([("wires", x), ("deeds", y)] : List (Str × D)) = some y := rfl
theorem bt_int (a p : Nat) : decide ((a : Int) / 2 ^ p % 2 = 1) = bt p a := by
  unfold bt
  rw [← p2, ← Int.natCast_ediv]
  by_cases h : a / 2 ^ p % 2 = 1
  · rw [decide_eq_true h, decide_eq_true (by omega)]
  · rw [decide_eq_false h, decide_eq_false (by omega)]
theorem okT_nT {m : Nat} : ∀ ns : List Nat, okDs m (nT ns)
  | [] => trivial
  | n :: ns => ⟨trivial, okT_nT ns⟩
theorem okD_deed (m : Nat) (x : Deed) : okD m x.d := by
  unfold Deed.d Deed.ds Deed.tl
  simp only [okD, okDs, true_and]
  have app : ∀ {a b : List D}, okDs m a → okDs m b → okDs m (a ++ b) := by
    intro a
    induction a with
    | nil => intro b _ hb; exact hb
    | cons d a ih => intro b ha hb; exact ⟨ha.1, ih ha.2 hb⟩
  refine app (okT_nT x.ws) ?_
  split
  · exact ⟨trivial, trivial⟩
  · trivial
theorem okDs_deeds (m : Nat) : ∀ xs : List Deed, okDs m (dL xs)
  | [] => trivial
  | x :: xs => ⟨okD_deed m x, okDs_deeds m xs⟩
theorem bls_tr {α : Type} : ∀ xs : List α, bls (xs.map fun _ => D.bl true) = some (xs.map fun _ => true)
  | [] => rfl
  | x :: xs => by rw [List.map_cons, List.map_cons]; simp only [bls, bls_tr xs]
theorem all_tr {α : Type} : ∀ xs : List α, ((xs.map fun _ => true).all id) = true
  | [] => rfl
  | x :: xs => by rw [List.map_cons, List.all_cons, all_tr xs]; rfl
theorem anyI_nT (cs : Sto) (ns : List Nat) : anyI cs (.tup (nT ns)) = some (ns.map fun n : Nat => (n : Int)) := nums_nT ns
/-! ### what deeds do -/
theorem fl_xor : ∀ (p a : Nat), fl p a = a ^^^ 2 ^ p
  | 0, a => by
    have h1 : ((a ^^^ 1) % 2 = 1) ↔ ¬ ((a % 2 = 1) ↔ (1 % 2 = 1)) := Nat.xor_mod_two_eq_one
    have h2 : (a ^^^ 1) / 2 = a / 2 := by rw [Nat.xor_div_two]; simp
    unfold fl
    rw [Nat.pow_zero, Nat.div_one]
    split <;> omega
  | p + 1, a => by
    have ih := fl_xor p (a / 2)
    have e0 : 2 ^ (p + 1) = 2 * 2 ^ p := by rw [Nat.pow_succ, Nat.mul_comm]
    have h1 : ((a ^^^ 2 ^ (p + 1)) % 2 = 1) ↔ ¬ ((a % 2 = 1) ↔ (2 ^ (p + 1) % 2 = 1)) := Nat.xor_mod_two_eq_one
    have h2 : (a ^^^ 2 ^ (p + 1)) / 2 = fl p (a / 2) := by
      rw [Nat.xor_div_two, ih, e0, Nat.mul_div_cancel_left _ (by decide)]
    have e1 : a / 2 ^ (p + 1) = a / 2 / 2 ^ p := by rw [Nat.div_div_eq_div_mul, e0]
    have hp := Nat.two_pow_pos p
    unfold fl at h2 ⊢
    rw [e1]
    split
    · rename_i hb
      rw [if_pos hb] at h2
      have : 2 ^ p ≤ a / 2 := by
        have hne : 1 ≤ a / 2 / 2 ^ p := Nat.pos_of_ne_zero fun z => by
          rw [z] at hb
          exact absurd hb (by decide)
        have := (Nat.le_div_iff_mul_le hp).mp hne
        omega
      omega
    · rename_i hb
      rw [if_neg hb] at h2
      omega
theorem sum_bit : ∀ (l : List Nat) (k : Nat), l.Nodup → (l.map fun o => 2 ^ o).sum.testBit k = decide (k ∈ l)
  | [], k, _ => by simp
  | o :: l, k, h => by
    obtain ⟨h1, h2⟩ := List.nodup_cons.mp h
    have e : (l.map fun o => 2 ^ o).sum.testBit o = false := by
      rw [sum_bit l o h2]
      exact decide_eq_false h1
    rw [List.map_cons, List.sum_cons, Nat.add_comm]
    have eo : (l.map fun o => 2 ^ o).sum + 2 ^ o = fl o (l.map fun o => 2 ^ o).sum := by
      unfold fl
      have hb : ¬ ((l.map fun o => 2 ^ o).sum / 2 ^ o % 2 = 1) := by
        intro hb
        have : bt o (l.map fun o => 2 ^ o).sum = true := decide_eq_true hb
        rw [bt_test, e] at this
        cases this
      rw [if_neg hb]
    have ex : fl o (l.map fun o => 2 ^ o).sum = (l.map fun o => 2 ^ o).sum ^^^ 2 ^ o := fl_xor _ _
    rw [eo, ex, Nat.testBit_xor, sum_bit l k h2, Nat.testBit_two_pow]
    by_cases hk : k = o
    · subst hk
      simp [h1]
    · have : ¬ o = k := fun z => hk z.symm
      simp [hk, this]
theorem mask_all {ws : List Nat} (h : ws.Nodup) (a : Nat) : (a &&& (ws.map fun o => 2 ^ o).sum = (ws.map fun o => 2 ^ o).sum) ↔ (ws.all fun w => bt w a) = true := by
  rw [List.all_eq_true]
  constructor
  · intro e w hw
    have q : (a &&& (ws.map fun o => 2 ^ o).sum).testBit w = (ws.map fun o => 2 ^ o).sum.testBit w := by rw [e]
    rw [Nat.testBit_and, sum_bit ws w h, decide_eq_true hw, Bool.and_true] at q
    rw [bt_test]
    exact q
  · intro q
    apply Nat.eq_of_testBit_eq
    intro k
    rw [Nat.testBit_and, sum_bit ws k h]
    by_cases hk : k ∈ ws
    · have := q k hk
      rw [bt_test] at this
      simp [hk, this]
    · simp [hk]
theorem nodup_len_le : ∀ {n : Nat} {l : List Nat}, l.Nodup → (∀ x ∈ l, x < n) → l.length ≤ n
  | 0, l, _, h => by
    cases l with
    | nil => exact Nat.le_refl _
    | cons a l => exact absurd (h a List.mem_cons_self) (Nat.not_lt_zero _)
  | n + 1, l, hn, h => by
    have q := nodup_len_le (n := n) (l := l.erase n) (hn.erase n) fun x hx => by
      have := (List.Nodup.mem_erase_iff hn).mp hx
      have := h x this.2
      omega
    by_cases hm : n ∈ l
    · rw [List.length_erase_of_mem hm] at q
      omega
    · rw [List.erase_of_not_mem hm] at q
      omega
theorem nums_pow (ws : List Nat) : nums (ws.map fun a : Nat => D.int ((2 ^ a : Nat) : Int)) = some (ws.map fun a : Nat => ((2 ^ a : Nat) : Int)) := by
  have : (ws.map fun a : Nat => D.int ((2 ^ a : Nat) : Int)) = (ws.map fun a : Nat => ((2 ^ a : Nat) : Int)).map D.int := by rw [List.map_map]; rfl
  rw [this, nums_map]
theorem sum_pow (ws : List Nat) : (ws.map fun a : Nat => ((2 ^ a : Nat) : Int)).sum = (((ws.map fun o => 2 ^ o).sum : Nat) : Int) := by
  rw [← nat_sum, List.map_map]
  rfl
def exwL (xs : Spr) (ws : List Nat) (p : Nat) : Spr := (List.range xs.length).map fun a => if (ws.all fun w => bt w a) = true then atS xs (fl p a) else atS xs a
theorem exwL_len (xs : Spr) (ws : List Nat) (p : Nat) : (exwL xs ws p).length = xs.length := by simp [exwL]
theorem mapIdx_T {xs : Spr} {F : Nat → Am → D} {G : Nat → Am} (h : ∀ k x, xs[k]? = some x → F k x = (G k).t) : xs.mapIdx F = sT ((List.range xs.length).map G) := by
  apply List.ext_getElem?
  intro k
  rw [List.getElem?_mapIdx, sT, List.getElem?_map, List.getElem?_map]
  by_cases hk : k < xs.length
  · rw [List.getElem?_range hk, List.getElem?_eq_getElem hk]
    simp only [Option.map_some]
    rw [h k _ (List.getElem?_eq_getElem hk)]
  · rw [List.getElem?_eq_none (by omega), List.getElem?_eq_none (by simp; omega)]
    rfl
/-- the order with a and b exchanged -/
def swO (n a b : Nat) : List Nat := ((List.range n).set a b).set b a
def Deed.i (x : Deed) (k : Nat) : Nat := x.ws.getD k 0
/-- what a deed leaves of a spread of n places -/
def Deed.run (n : Nat) (x : Deed) (xs : Spr) : Spr := match x.w with
  | .turn => turnL xs (x.i 0) x.t
  | .mix => mixL xs (x.i 0)
  | .sign => tieL xs (x.i 0) (x.i 1)
  | .no => exchL xs (x.i 0)
  | .swap => layL xs (swO n (x.i 0) (x.i 1))
  | .under => exwL xs [x.i 0] (x.i 1)
  | .both => exwL xs [x.i 0, x.i 1] (x.i 2)
/-- one behind another -/
def runL (n : Nat) (ds : List Deed) (xs : Spr) : Spr := ds.foldl (fun s x => x.run n s) xs
theorem cut1 (d : D) (ds : List D) : cutD (d :: ds) (some 1) none = ds := by rw [cutD_from _ (by decide)]; rfl
theorem bft : (false == true) = false := rfl
theorem btf : (true == false) = false := rfl
theorem cutL1 (a : D) : cutD [a] none (some (-1)) = [] := rfl
theorem atL1 (a : D) : atI [a] (-1) = some a := rfl
theorem cutL2 (a b : D) : cutD [a, b] none (some (-1)) = [a] := rfl
theorem cutL3 (a b c : D) : cutD [a, b, c] none (some (-1)) = [a, b] := rfl
theorem atL2 (a b : D) : atI [a, b] (-1) = some b := rfl
theorem atL3 (a b c : D) : atI [a, b, c] (-1) = some c := rfl
theorem len1 {ws : List Nat} (h : ws.length = 1) : ∃ a, ws = [a] := List.length_eq_one_iff.mp h
theorem len2 {ws : List Nat} (h : ws.length = 2) : ∃ a b, ws = [a, b] := by
  match ws, h with
  | [a, b], _ => exact ⟨a, b, rfl⟩
theorem len3 {ws : List Nat} (h : ws.length = 3) : ∃ a b c, ws = [a, b, c] := by
  match ws, h with
  | [a, b, c], _ => exact ⟨a, b, c, rfl⟩
/-- the seven kinds -/
theorem Deed.cases {n : Nat} {P : Deed → Prop} (x : Deed) (h : x.ok n) (h1 : ∀ a t, a < n → 1 ≤ t → t ≤ 7 → P ⟨.turn, [a], t⟩) (h2 : ∀ a, a < n → P ⟨.mix, [a], 0⟩) (h3 : ∀ a, a < n → P ⟨.no, [a], 0⟩)
    (h4 : ∀ a b, a < n → b < n → a ≠ b → P ⟨.sign, [a, b], 0⟩) (h5 : ∀ a b, a < n → b < n → a ≠ b → P ⟨.under, [a, b], 0⟩) (h6 : ∀ a b, a < n → b < n → a ≠ b → P ⟨.swap, [a, b], 0⟩)
    (h7 : ∀ a b c, a < n → b < n → c < n → a ≠ b → a ≠ c → b ≠ c → P ⟨.both, [a, b, c], 0⟩) : P x := by
  obtain ⟨w, ws, t⟩ := x
  obtain ⟨hl, hn, hw, ht⟩ := h
  cases w with
  | turn =>
    obtain ⟨a, rfl⟩ := len1 hl
    rw [if_pos rfl] at ht
    exact h1 a t (hw a (by simp)) ht.1 ht.2
  | mix =>
    obtain ⟨a, rfl⟩ := len1 hl
    have ht' : t = 0 := ht
    subst ht'
    exact h2 a (hw a (by simp))
  | no =>
    obtain ⟨a, rfl⟩ := len1 hl
    have ht' : t = 0 := ht
    subst ht'
    exact h3 a (hw a (by simp))
  | sign =>
    obtain ⟨a, b, rfl⟩ := len2 hl
    have ht' : t = 0 := ht
    subst ht'
    exact h4 a b (hw a (by simp)) (hw b (by simp)) (by intro e; subst e; simp at hn)
  | under =>
    obtain ⟨a, b, rfl⟩ := len2 hl
    have ht' : t = 0 := ht
    subst ht'
    exact h5 a b (hw a (by simp)) (hw b (by simp)) (by intro e; subst e; simp at hn)
  | swap =>
    obtain ⟨a, b, rfl⟩ := len2 hl
    have ht' : t = 0 := ht
    subst ht'
    exact h6 a b (hw a (by simp)) (hw b (by simp)) (by intro e; subst e; simp at hn)
  | both =>
    obtain ⟨a, b, c, rfl⟩ := len3 hl
    have ht' : t = 0 := ht
    subst ht'
    exact h7 a b c (hw a (by simp)) (hw b (by simp)) (hw c (by simp)) (by intro e; subst e; simp at hn) (by intro e; subst e; simp at hn) (by intro e; subst e; simp at hn)
theorem Deed.alts {n : Nat} {x : Deed} (h : x.ok n) : (∃ a t, x = ⟨.turn, [a], t⟩ ∧ a < n ∧ 1 ≤ t ∧ t ≤ 7) ∨ (∃ a, x = ⟨.mix, [a], 0⟩ ∧ a < n) ∨ (∃ a, x = ⟨.no, [a], 0⟩ ∧ a < n) ∨ (∃ a b, x = ⟨.sign, [a, b], 0⟩ ∧ a < n ∧ b < n ∧ a ≠ b) ∨
    (∃ a b, x = ⟨.under, [a, b], 0⟩ ∧ a < n ∧ b < n ∧ a ≠ b) ∨ (∃ a b, x = ⟨.swap, [a, b], 0⟩ ∧ a < n ∧ b < n ∧ a ≠ b) ∨ (∃ a b c, x = ⟨.both, [a, b, c], 0⟩ ∧ a < n ∧ b < n ∧ c < n ∧ a ≠ b ∧ a ≠ c ∧ b ≠ c) :=
  Deed.cases (P := fun x => (∃ a t, x = ⟨.turn, [a], t⟩ ∧ a < n ∧ 1 ≤ t ∧ t ≤ 7) ∨ (∃ a, x = ⟨.mix, [a], 0⟩ ∧ a < n) ∨ (∃ a, x = ⟨.no, [a], 0⟩ ∧ a < n) ∨ (∃ a b, x = ⟨.sign, [a, b], 0⟩ ∧ a < n ∧ b < n ∧ a ≠ b) ∨
    (∃ a b, x = ⟨.under, [a, b], 0⟩ ∧ a < n ∧ b < n ∧ a ≠ b) ∨ (∃ a b, x = ⟨.swap, [a, b], 0⟩ ∧ a < n ∧ b < n ∧ a ≠ b) ∨ (∃ a b c, x = ⟨.both, [a, b, c], 0⟩ ∧ a < n ∧ b < n ∧ c < n ∧ a ≠ b ∧ a ≠ c ∧ b ≠ c)) x h
    (fun a t h1 h2 h3 => .inl ⟨a, t, rfl, h1, h2, h3⟩) (fun a h1 => .inr (.inl ⟨a, rfl, h1⟩)) (fun a h1 => .inr (.inr (.inl ⟨a, rfl, h1⟩))) (fun a b h1 h2 h3 => .inr (.inr (.inr (.inl ⟨a, b, rfl, h1, h2, h3⟩))))
    (fun a b h1 h2 h3 => .inr (.inr (.inr (.inr (.inl ⟨a, b, rfl, h1, h2, h3⟩))))) (fun a b h1 h2 h3 => .inr (.inr (.inr (.inr (.inr (.inl ⟨a, b, rfl, h1, h2, h3⟩)))))) (fun a b c h1 h2 h3 h4 h5 h6 => .inr (.inr (.inr (.inr (.inr (.inr ⟨a, b, c, rfl, h1, h2, h3, h4, h5, h6⟩))))))
/-! ### deeds leave something; deeds of multiples -/
theorem nz_map {xs : Spr} {f : Nat → Am} (h : (xs.map Am.nz).any id = true) (hf : ∀ a, a < xs.length → (atS xs a).nz = true → ∃ b, b < xs.length ∧ (f b).nz = true) : (((List.range xs.length).map f).map Am.nz).any id = true := by
  obtain ⟨a, ha, e⟩ := any_nz.mp h
  obtain ⟨b, hb, e2⟩ := hf a ha e
  refine any_nz.mpr ⟨b, by simpa using hb, ?_⟩
  rw [mk_at (xs := xs) hb]
  exact e2
theorem bt_flne {p k : Nat} (h : k ≠ p) (a : Nat) : bt k (fl p a) = bt k a := by
  rw [bt_test, bt_test, fl_xor, Nat.testBit_xor, Nat.testBit_two_pow]
  have : decide (p = k) = false := decide_eq_false (Ne.symm h)
  rw [this, Bool.xor_false]
def swp (a b k : Nat) : Nat := if k = a then b else if k = b then a else k
theorem swp_swp (a b k : Nat) : swp a b (swp a b k) = k := by
  unfold swp
  repeat' split
  all_goals omega
theorem swO_get {n a b i : Nat} (ha : a < n) (hb : b < n) (hi : i < n) : (swO n a b)[i]? = some (swp a b i) := by
  unfold swO swp
  rw [List.getElem?_set, List.getElem?_set, List.length_set, List.length_range, List.getElem?_range hi]
  by_cases h1 : b = i
  · rw [if_pos h1, if_pos hb]
    by_cases h2 : i = a
    · rw [if_pos h2]; congr 1; omega
    · rw [if_neg h2, if_pos h1.symm]
  · rw [if_neg h1]
    by_cases h2 : a = i
    · rw [if_pos h2, if_pos ha, if_pos h2.symm]
    · rw [if_neg h2, if_neg (fun e => h2 e.symm), if_neg (fun e => h1 e.symm)]
theorem swO_len (n a b : Nat) : (swO n a b).length = n := by simp [swO]
theorem swO_nd (n a b : Nat) (ha : a < n) (hb : b < n) : (swO n a b).Nodup := by
  unfold swO
  refine List.pairwise_iff_getElem.mpr fun i j hi hj hij => ?_
  rw [List.length_set, List.length_set, List.length_range] at hi hj
  simp only [List.getElem_set, List.getElem_range]
  repeat' split
  all_goals omega
theorem swO_lt {n a b : Nat} (ha : a < n) (hb : b < n) : ∀ o ∈ swO n a b, o < n := by
  intro o ho
  unfold swO at ho
  rcases List.mem_or_eq_of_mem_set ho with h | h
  · rcases List.mem_or_eq_of_mem_set h with h | h
    · exact List.mem_range.mp h
    · omega
  · omega
/-- which bits a laid number has -/
theorem layIx_bit {os : List Nat} (h : os.Nodup) (a k : Nat) : ((layIx os a).testBit k = true) ↔ (∃ i : Nat, os[i]? = some k ∧ bt i a = true) := by
  unfold layIx
  have e : ((os.zipIdx.filter fun p => bt p.2 a).map fun p => 2 ^ p.1) = ((os.zipIdx.filter fun p => bt p.2 a).map fun p => p.1).map fun o => 2 ^ o := by rw [List.map_map]; rfl
  have hz : (os.zipIdx.map fun p => p.1) = os := by
    have := List.zipIdx_map_fst 0 os
    exact this
  have nd : ((os.zipIdx.filter fun p => bt p.2 a).map fun p => p.1).Nodup := by
    have s : ((os.zipIdx.filter fun p => bt p.2 a).map fun p => p.1).Sublist (os.zipIdx.map fun p => p.1) := List.Sublist.map _ List.filter_sublist
    rw [hz] at s
    exact h.sublist s
  rw [e, sum_bit _ k nd, decide_eq_true_eq, List.mem_map]
  constructor
  · rintro ⟨⟨o, i⟩, hm, rfl⟩
    rw [List.mem_filter, List.mem_zipIdx_iff_getElem?] at hm
    exact ⟨i, hm.1, hm.2⟩
  · rintro ⟨i, hi, hb⟩
    exact ⟨(k, i), by rw [List.mem_filter, List.mem_zipIdx_iff_getElem?]; exact ⟨hi, hb⟩, rfl⟩
theorem sw_bit {n a b k : Nat} (ha : a < n) (hb : b < n) (hk : k < n) (i : Nat) : bt k (layIx (swO n a b) i) = bt (swp a b k) i := by
  have hL := layIx_bit (swO_nd n a b ha hb) i k
  rw [bt_test k]
  have hs : swp a b k < n := by unfold swp; split <;> (try split) <;> omega
  by_cases hbit : bt (swp a b k) i = true
  · rw [hbit]
    exact hL.mpr ⟨swp a b k, by rw [swO_get ha hb hs, swp_swp], hbit⟩
  · have : bt (swp a b k) i = false := by simpa using hbit
    rw [this]
    cases ht : (layIx (swO n a b) i).testBit k with
    | false => rfl
    | true =>
    exfalso
    obtain ⟨j, hj, hb2⟩ := hL.mp ht
    have hjn : j < n := by
      have := (List.getElem?_eq_some_iff.mp hj).1
      rwa [swO_len] at this
    rw [swO_get ha hb hjn] at hj
    have : swp a b j = k := Option.some.inj hj
    rw [← this, swp_swp] at hbit
    exact hbit hb2
theorem lt_bits {n x y : Nat} (hx : x < 2 ^ n) (hy : y < 2 ^ n) (h : ∀ k, k < n → bt k x = bt k y) : x = y := by
  apply Nat.eq_of_testBit_eq
  intro k
  by_cases hk : k < n
  · have := h k hk
    rwa [bt_test, bt_test] at this
  · rw [Nat.testBit_lt_two_pow (Nat.lt_of_lt_of_le hx (Nat.pow_le_pow_right (by decide) (by omega))), Nat.testBit_lt_two_pow (Nat.lt_of_lt_of_le hy (Nat.pow_le_pow_right (by decide) (by omega)))]
theorem sw_sw {n a b x : Nat} (ha : a < n) (hb : b < n) (hx : x < 2 ^ n) : layIx (swO n a b) (layIx (swO n a b) x) = x := by
  have l : ∀ y, layIx (swO n a b) y < 2 ^ n := fun y => layIx_lt (swO_nd n a b ha hb) (swO_lt ha hb)
  refine lt_bits (l _) hx fun k hk => ?_
  have hs : swp a b k < n := by unfold swp; split <;> (try split) <;> omega
  rw [sw_bit ha hb hk, sw_bit ha hb hs, swp_swp]
theorem exw_nz {xs : Spr} {n p : Nat} {ws : List Nat} (w : xs.W n) (hp : p < n) (hw : ∀ a ∈ ws, a ≠ p) : ((exwL xs ws p).map Am.nz).any id = true := by
  refine nz_map w.nz fun a ha e => ?_
  have hc : ∀ x, (ws.all fun w => bt w (fl p x)) = (ws.all fun w => bt w x) := fun x => by
    have : ∀ l : List Nat, (∀ a ∈ l, a ≠ p) → (l.all fun w => bt w (fl p x)) = (l.all fun w => bt w x) := by
      intro l
      induction l with
      | nil => intro _; rfl
      | cons y l ih =>
        intro h
        rw [List.all_cons, List.all_cons, bt_flne (h y List.mem_cons_self), ih fun a ha => h a (List.mem_cons_of_mem _ ha)]
    exact this ws hw
  have hf : fl p a < xs.length := by rw [w.len] at ha ⊢; exact fl_lt hp ha
  by_cases h : (ws.all fun w => bt w a) = true
  · exact ⟨fl p a, hf, by rw [hc, if_pos h, fl_fl]; exact e⟩
  · exact ⟨a, ha, by rw [if_neg h]; exact e⟩
theorem Deed.run_W {n : Nat} {x : Deed} {xs : Spr} (hx : x.ok n) (w : xs.W n) : (x.run n xs).W n := by
  rcases Deed.alts hx with ⟨a, t, rfl, h1, h2, h3⟩ | ⟨a, rfl, h1⟩ | ⟨a, rfl, h1⟩ | ⟨a, b, rfl, h1, h2, h3⟩ | ⟨a, b, rfl, h1, h2, h3⟩ | ⟨a, b, rfl, h1, h2, h3⟩ | ⟨a, b, c, rfl, h1, h2, h3, h4, h5, h6⟩
  all_goals simp only [Deed.run, Deed.i, List.getD_cons_zero, List.getD_cons_succ]
  · exact w.turn _ _
  · exact w.mix h1
  · exact w.exch h1
  · exact w.tie _ _
  · exact ⟨by rw [exwL_len, w.len], w.few, exw_nz w h2 (by intro z hz; rw [List.mem_singleton.mp hz]; exact h3)⟩
  · refine ⟨by rw [layL_len, w.len], w.few, nz_map w.nz fun i hi e => ⟨layIx (swO n a b) i, by rw [w.len]; exact layIx_lt (swO_nd n a b h1 h2) (swO_lt h1 h2), by rw [sw_sw h1 h2 (by rw [← w.len]; exact hi)]; exact e⟩⟩
  · refine ⟨by rw [exwL_len, w.len], w.few, exw_nz w h3 (by
      intro z hz
      simp only [List.mem_cons, List.not_mem_nil, or_false] at hz
      rcases hz with rfl | rfl
      · exact h5
      · exact h6)⟩
theorem SB.run {n m : Nat} {x : Deed} {xs : Spr} (b : SB m xs) : SB (m + 1) (x.run n xs) := by
  have b1 : SB (m + 1) xs := fun y hy => (b y hy).mono (by omega)
  unfold Deed.run
  cases x.w with
  | turn =>
    exact SB.mk fun i => by
      split
      · exact (b1.at i).tn _
      · exact b1.at i
  | mix =>
    exact SB.mk fun i => by
      split
      · exact (b.at _).add (b.at _).neg
      · exact (b.at _).add (b.at _)
  | sign => exact b1.tie _ _
  | no => exact b1.exch _
  | under =>
    exact SB.mk fun i => by
      split <;> exact b1.at _
  | swap => exact SB.mk fun i => b1.at _
  | both =>
    exact SB.mk fun i => by
      split <;> exact b1.at _
theorem runL_ok {n : Nat} : ∀ {ds : List Deed} {xs : Spr} {m : Nat}, (∀ x ∈ ds, x.ok n) → xs.W n → SB m xs → (runL n ds xs).W n ∧ SB (m + ds.length) (runL n ds xs)
  | [], xs, m, _, w, b => ⟨w, b⟩
  | x :: ds, xs, m, h, w, b => by
    have q := runL_ok (ds := ds) (xs := x.run n xs) (m := m + 1) (fun y hy => h y (List.mem_cons_of_mem _ hy)) (Deed.run_W (h x List.mem_cons_self) w) b.run
    refine ⟨q.1, ?_⟩
    rw [List.length_cons, show m + (ds.length + 1) = m + 1 + ds.length by omega]
    exact q.2
theorem map_mul {n : Nat} {f g : Nat → Am} {b : Am} (h : ∀ a, f a = (g a).mul b) : (List.range n).map f = mulL ((List.range n).map g) b := by
  unfold mulL
  rw [List.map_map]
  exact List.map_congr_left fun a _ => h a
theorem Am.neg_mul (x y : Am) : x.neg.mul y = (x.mul y).neg := by
  apply Am.ext' <;> simp only [Am.mul, Am.neg] <;> grind
theorem run_mul (n : Nat) (x : Deed) (xs : Spr) (b : Am) : x.run n (mulL xs b) = mulL (x.run n xs) b := by
  unfold Deed.run
  cases x.w with
  | turn =>
    unfold turnL
    rw [mulL_len]
    refine map_mul fun a => ?_
    rw [atS_mul]
    split
    · rw [Am.tn_mul]
    · rfl
  | mix =>
    unfold mixL
    rw [mulL_len]
    refine map_mul fun a => ?_
    rw [atS_mul, atS_mul]
    split
    · rw [Am.add_mul, Am.neg_mul]
    · rw [Am.add_mul]
  | sign =>
    unfold tieL
    rw [mulL_len]
    refine map_mul fun a => ?_
    rw [atS_mul]
    split
    · rw [Am.neg_mul]
    · rfl
  | no =>
    unfold exchL
    rw [mulL_len]
    refine map_mul fun a => ?_
    rw [atS_mul]
  | swap =>
    unfold layL
    rw [mulL_len]
    refine map_mul fun a => ?_
    rw [atS_mul]
  | under =>
    unfold exwL
    rw [mulL_len]
    refine map_mul fun a => ?_
    rw [atS_mul, atS_mul]
    split <;> rfl
  | both =>
    unfold exwL
    rw [mulL_len]
    refine map_mul fun a => ?_
    rw [atS_mul, atS_mul]
    split <;> rfl
theorem runL_mul (n : Nat) (b : Am) : ∀ (ds : List Deed) (xs : Spr), runL n ds (mulL xs b) = mulL (runL n ds xs) b
  | [], _ => rfl
  | x :: ds, xs => by
    show runL n ds (x.run n (mulL xs b)) = mulL (runL n ds (x.run n xs)) b
    rw [run_mul]
    exact runL_mul n b ds _
theorem run_len (n : Nat) (x : Deed) (xs : Spr) : (x.run n xs).length = xs.length := by
  unfold Deed.run
  cases x.w <;> first | exact turnL_len _ _ _ | exact mixL_len _ _ | exact tieL_len _ _ _ | exact exchL_len _ _ | exact layL_len _ _ | exact exwL_len _ _ _
/-- from where an amount comes -/
def Deed.fr (x : Deed) (k : Nat) : Nat := match x.w with
  | .swap => if bt (x.i 0) k = bt (x.i 1) k then k else fl (x.i 1) (fl (x.i 0) k)
  | .no => fl (x.i 0) k
  | .under => if bt (x.i 0) k = true then fl (x.i 1) k else k
  | .both => if (bt (x.i 0) k && bt (x.i 1) k) = true then fl (x.i 2) k else k
  | _ => k
theorem sw_fr {n a b k : Nat} (ha : a < n) (hb : b < n) (hab : a ≠ b) (hk : k < 2 ^ n) : layIx (swO n a b) k = if bt a k = bt b k then k else fl b (fl a k) := by
  have hr : (if bt a k = bt b k then k else fl b (fl a k)) < 2 ^ n := by
    split
    · exact hk
    · exact fl_lt hb (fl_lt ha hk)
  refine lt_bits (layIx_lt (swO_nd n a b ha hb) (swO_lt ha hb)) hr fun j hj => ?_
  rw [sw_bit ha hb hj]
  unfold swp
  by_cases e : bt a k = bt b k
  · rw [if_pos e]
    split
    · rename_i h; subst h; exact e.symm
    · split
      · rename_i h; subst h; exact e
      · rfl
  · rw [if_neg e]
    by_cases h1 : j = a
    · subst h1
      rw [if_pos rfl, bt_flne hab, bt_self]
      cases h2 : bt j k <;> cases h3 : bt b k <;> simp_all
    · rw [if_neg h1]
      by_cases h2 : j = b
      · subst h2
        rw [if_pos rfl, bt_self, bt_flne h1]
        cases h2 : bt a k <;> cases h3 : bt j k <;> simp_all
      · rw [if_neg h2, bt_flne h2, bt_flne h1]
/-- the amount at a place behind a deed -/
def Deed.at (x : Deed) (xs : Spr) (k : Nat) : Am := match x.w with
  | .turn => if bt (x.i 0) k = true then Am.tn x.t (atS xs k) else atS xs k
  | .sign => if (bt (x.i 0) k && bt (x.i 1) k) = true then (atS xs k).neg else atS xs k
  | .mix => if bt (x.i 0) k = true then (atS xs (fl (x.i 0) k)).add (atS xs k).neg else (atS xs k).add (atS xs (fl (x.i 0) k))
  | _ => atS xs (x.fr k)
theorem Deed.run_get {n k : Nat} {x : Deed} {xs : Spr} (hx : x.ok n) (w : xs.length = 2 ^ n) (hk : k < xs.length) : (x.run n xs)[k]? = some (x.at xs k) := by
  have g : ∀ f : Nat → Am, ((List.range xs.length).map f)[k]? = some (f k) := fun f => by rw [List.getElem?_map, List.getElem?_range hk]; rfl
  rcases Deed.alts hx with ⟨a, t, rfl, h1, h2, h3⟩ | ⟨a, rfl, h1⟩ | ⟨a, rfl, h1⟩ | ⟨a, b, rfl, h1, h2, h3⟩ | ⟨a, b, rfl, h1, h2, h3⟩ | ⟨a, b, rfl, h1, h2, h3⟩ | ⟨a, b, c, rfl, h1, h2, h3, h4, h5, h6⟩
  all_goals simp only [Deed.run, Deed.at, Deed.fr, Deed.i, List.getD_cons_zero, List.getD_cons_succ]
  · rw [turnL, g]
    by_cases hb : k / 2 ^ a % 2 = 1
    · have : bt a k = true := decide_eq_true hb
      rw [if_pos hb, if_pos this]
    · have : ¬ bt a k = true := fun z => hb (of_decide_eq_true z)
      rw [if_neg hb, if_neg this]
  · rw [mixL, g]
  · rw [exchL, g]
  · rw [tieL, g]
  · rw [exwL, g]
    simp only [List.all_cons, List.all_nil, Bool.and_true]
    split <;> rfl
  · rw [layL, g, sw_fr h1 h2 h3 (by rw [← w]; exact hk)]
  · rw [exwL, g]
    simp only [List.all_cons, List.all_nil, Bool.and_true]
    split <;> rfl
theorem Deed.fr_lt {n k : Nat} {x : Deed} (hx : x.ok n) (hk : k < 2 ^ n) : x.fr k < 2 ^ n := by
  rcases Deed.alts hx with ⟨a, t, rfl, h1, h2, h3⟩ | ⟨a, rfl, h1⟩ | ⟨a, rfl, h1⟩ | ⟨a, b, rfl, h1, h2, h3⟩ | ⟨a, b, rfl, h1, h2, h3⟩ | ⟨a, b, rfl, h1, h2, h3⟩ | ⟨a, b, c, rfl, h1, h2, h3, h4, h5, h6⟩
  all_goals simp only [Deed.fr, Deed.i, List.getD_cons_zero, List.getD_cons_succ]
  · exact hk
  · exact hk
  · exact fl_lt h1 hk
  · exact hk
  · split
    · exact fl_lt h2 hk
    · exact hk
  · split
    · exact hk
    · exact fl_lt h2 (fl_lt h1 hk)
  · split
    · exact fl_lt h3 hk
    · exact hk
structure DdI where
  xs : Spr
  n : Nat
  x : Deed
theorem Am.B.dv {n : Nat} {x : Am} (h : x.B n) (g : Int) : (x.dv g).B n := by
  have q : ∀ u : Int, Bd n u → Bd n (u / g) := fun u hu => Nat.lt_of_le_of_lt (Int.natAbs_ediv_le_natAbs u g) hu
  exact ⟨q _ h.a, q _ h.b, q _ h.c, q _ h.d⟩
theorem fzL_B {n : Nat} {xs : Spr} (h : SB n xs) (h2 : (xs.map Am.nz).any id = true) : (fzL xs).B n := by
  obtain ⟨f1, _, _⟩ := fz_mem h2
  exact h _ f1
theorem SB.plain {n : Nat} {xs : Spr} (h : SB n xs) (h2 : (xs.map Am.nz).any id = true) : SB (4 * n + 9) (plainL xs) := fun y hy => by
  unfold plainL byL at hy
  obtain ⟨z, hz, rfl⟩ := List.mem_map.mp hy
  obtain ⟨x, hx, rfl⟩ := List.mem_map.mp hz
  exact ((((h x hx).mul (fzL_B h h2).oth)).mono (by omega)).dv _
theorem RX.ints {n : Nat} {ns : List Int} (h : ∀ i ∈ ns, Bd n i) (hn : n ≤ 1920) (h0 : 1 ≤ n) : RXL (n + 1) ((n + 1) * ns.length) 0 (ns.map .int) := by
  have := RXL.all (m := n + 1) (w := n) (k := 0) (ds := ns.map .int) fun d hd => by
    obtain ⟨i, hi, rfl⟩ := List.mem_map.mp hd
    exact RX.int (h i hi) (Nat.le_refl _) (Nat.le_refl _) hn h0
  rwa [List.length_map] at this
theorem RX.ads {n : Nat} {x : Am} (h : x.B n) (hn : n ≤ 1920) (h0 : 1 ≤ n) : RXL (n + 1) ((n + 1) * 4) 0 x.ds := RX.ints (ns := [x.a, x.b, x.c, x.d]) (by
  intro i hi
  simp only [List.mem_cons, List.not_mem_nil, or_false] at hi
  rcases hi with rfl | rfl | rfl | rfl
  · exact h.a
  · exact h.b
  · exact h.c
  · exact h.d) hn h0
theorem RX.spr {n : Nat} {xs : Spr} (h : SB n xs) (hn : n ≤ 1920) (h0 : 1 ≤ n) : RXL (n + 1) (((n + 1) * 4 + 1) * xs.length) 1 (sT xs) := by
  have := RXL.all (m := n + 1) (w := (n + 1) * 4) (k := 1) (ds := sT xs) fun d hd => by
    obtain ⟨x, hx, rfl⟩ := List.mem_map.mp hd
    exact RX.tup (RX.ads (h x hx) hn h0)
  rwa [sT, List.length_map] at this
/-- a spread as lists -/
def sL (xs : Spr) : List D := xs.map fun x => .lst x.ds
theorem RX.sprL {n : Nat} {xs : Spr} (h : SB n xs) (hn : n ≤ 1920) (h0 : 1 ≤ n) : RXL (n + 1) (((n + 1) * 4 + 1) * xs.length) 1 (sL xs) := by
  have := RXL.all (m := n + 1) (w := (n + 1) * 4) (k := 1) (ds := sL xs) fun d hd => by
    obtain ⟨x, hx, rfl⟩ := List.mem_map.mp hd
    exact RX.lst (RX.ads (h x hx) hn h0)
  rwa [sL, List.length_map] at this
theorem rx_t {n l : Nat} {xs : Spr} (h : SB n xs) (hl : xs.length ≤ l) (h7 : 7 ≤ n) (hn : n ≤ 1920) (hw : (n + 1 + 2) * (((n + 1) * 4 + 1) * l) + (n + 1) ≤ 16000000) (cs : Sto) : reprX cs (.tup (sT xs)) = some (True, shX (.tup (sT xs))) :=
  reprX_ok (RX.tup ((RX.spr h hn (by omega)).mono (Nat.mul_le_mul_left _ hl) (Nat.le_refl _))) (by omega) hw (by decide)
theorem rx_l {n l : Nat} {xs : Spr} (h : SB n xs) (hl : xs.length ≤ l) (h7 : 7 ≤ n) (hn : n ≤ 1920) (hw : (n + 1 + 2) * (((n + 1) * 4 + 1) * l) + (n + 1) ≤ 16000000) (cs : Sto) : reprX cs (.lst (sL xs)) = some (True, shX (.lst (sL xs))) :=
  reprX_ok (RX.lst ((RX.sprL h hn (by omega)).mono (Nat.mul_le_mul_left _ hl) (Nat.le_refl _))) (by omega) hw (by decide)
theorem alls_L {cs : Sto} : ∀ xs : Spr, Alls cs (sL xs) xs
  | [] => trivial
  | x :: xs => ⟨rfl, alls_L xs⟩
theorem RX.wd (v : Wd) : RX 8 5 0 (.str v.s) := by
  cases v
  · exact RX.str (chars_small "turn") (by decide)
  · exact RX.str (chars_small "mix") (by decide)
  · exact RX.str (chars_small "not") (by decide)
  · exact RX.str (chars_small "sign") (by decide)
  · exact RX.str (chars_small "under") (by decide)
  · exact RX.str (chars_small "swap") (by decide)
  · exact RX.str (chars_small "both") (by decide)
theorem Deed.rx {x : Deed} {n : Nat} (h : x.ok n) (hn : n ≤ 100) : RX 8 35 1 x.d := by
  have b7 : ∀ a : Nat, a < 128 → RX 8 7 0 (.int a) := fun a ha => RX.int (n := 7) (by unfold Bd; rw [Int.natAbs_natCast]; exact ha) (by decide) (by decide) (by decide) (by decide)
  have hl := Deed.ds_len h
  have hw := x.w.n_le
  have ht := h.t
  have hl2 : x.ds.length ≤ 4 := by
    rw [hl]
    by_cases hb : x.w = .turn
    · rw [if_pos hb, hb]
      decide
    · rw [if_neg hb]
      omega
  have := RXL.all (m := 8) (w := 7) (k := 0) (ds := x.ds) fun d hd => by
    unfold Deed.ds Deed.tl at hd
    rcases List.mem_cons.mp hd with rfl | hd
    · exact (RX.wd x.w).mono (by decide) (Nat.le_refl _)
    · rcases List.mem_append.mp hd with hd | hd
      · obtain ⟨a, ha, rfl⟩ := List.mem_map.mp hd
        have := h.lt a ha
        exact b7 a (by omega)
      · by_cases hb : x.w = .turn
        · rw [if_pos hb] at hd ht
          rw [List.mem_singleton.mp hd]
          exact b7 x.t (by omega)
        · rw [if_neg hb] at hd
          cases hd
  exact (RX.tup this).mono (by omega) (Nat.le_refl _)
theorem rx_deeds {n : Nat} {xs : List Deed} (h : ∀ x ∈ xs, x.ok n) (hn : n ≤ 100) (hl : xs.length ≤ 200) (cs : Sto) : reprX cs (.tup (dL xs)) = some (True, shX (.tup (dL xs))) := by
  have := RXL.all (m := 8) (w := 35) (k := 1) (ds := dL xs) fun d hd => by
    obtain ⟨x, hx, rfl⟩ := List.mem_map.mp hd
    exact Deed.rx (h x hx) hn
  rw [dL, List.length_map] at this
  exact reprX_ok (RX.tup (this.mono (w' := 36 * 200) (by omega) (Nat.le_refl _))) (by decide) (by decide) (by decide)
/-! ### deeds as maps of numbered amounts -/
def two : Am := ⟨2, 0, 0, 0⟩
def one1 : Am := ⟨1, 0, 0, 0⟩
def Deed.af (x : Deed) (F : Nat → Am) (k : Nat) : Am := match x.w with
  | .turn => if bt (x.i 0) k = true then Am.tn x.t (F k) else F k
  | .sign => if (bt (x.i 0) k && bt (x.i 1) k) = true then (F k).neg else F k
  | .mix => if bt (x.i 0) k = true then (F (fl (x.i 0) k)).add (F k).neg else (F k).add (F (fl (x.i 0) k))
  | _ => F (x.fr k)
def afL (ds : List Deed) (F : Nat → Am) : Nat → Am := ds.foldl (fun F x => x.af F) F
theorem afL_cons (x : Deed) (ds : List Deed) (F : Nat → Am) : afL (x :: ds) F = afL ds (x.af F) := rfl
theorem afL_nil (F : Nat → Am) : afL [] F = F := rfl
theorem fl_comm (p q a : Nat) : fl p (fl q a) = fl q (fl p a) := by
  rw [fl_xor, fl_xor, fl_xor, fl_xor, Nat.xor_assoc, Nat.xor_assoc, Nat.xor_comm (2 ^ q)]
theorem run_af {n k : Nat} {x : Deed} {xs : Spr} (hx : x.ok n) (w : xs.length = 2 ^ n) (hk : k < 2 ^ n) : atS (x.run n xs) k = x.af (atS xs) k := by
  have := Deed.run_get hx w (k := k) (by omega)
  rw [atS_some this]
  rfl
theorem af_congr {n : Nat} {x : Deed} {F G : Nat → Am} (hx : x.ok n) (h : ∀ k, k < 2 ^ n → F k = G k) (k : Nat) (hk : k < 2 ^ n) : x.af F k = x.af G k := by
  rcases Deed.alts hx with ⟨a, t, rfl, h1, h2, h3⟩ | ⟨a, rfl, h1⟩ | ⟨a, rfl, h1⟩ | ⟨a, b, rfl, h1, h2, h3⟩ | ⟨a, b, rfl, h1, h2, h3⟩ | ⟨a, b, rfl, h1, h2, h3⟩ | ⟨a, b, c, rfl, h1, h2, h3, h4, h5, h6⟩
  all_goals have hf := Deed.fr_lt hx hk
  all_goals simp only [Deed.af, Deed.i, List.getD_cons_zero, List.getD_cons_succ]
  · rw [h k hk]
  · rw [h k hk, h _ (fl_lt h1 hk)]
  · exact h _ hf
  · rw [h k hk]
  · exact h _ hf
  · exact h _ hf
  · exact h _ hf
theorem runL_af {n : Nat} : ∀ {ds : List Deed} {xs : Spr} {F : Nat → Am}, (∀ x ∈ ds, x.ok n) → xs.length = 2 ^ n → (∀ k, k < 2 ^ n → atS xs k = F k) → ∀ k, k < 2 ^ n → atS (runL n ds xs) k = afL ds F k
  | [], xs, F, _, _, h => h
  | x :: ds, xs, F, ho, w, h => by
    have hx := ho x List.mem_cons_self
    exact runL_af (ds := ds) (xs := x.run n xs) (F := x.af F) (fun y hy => ho y (List.mem_cons_of_mem _ hy)) (by rw [run_len, w]) fun k hk => by
      rw [run_af hx w hk]
      exact af_congr hx h k hk
theorem af_mix_t {p k : Nat} {F : Nat → Am} (h : bt p k = true) : Deed.af ⟨.mix, [p], 0⟩ F k = (F (fl p k)).add (F k).neg := by
  simp only [Deed.af, Deed.i, List.getD_cons_zero, h, if_true, reduceIte]
theorem af_mix_f {p k : Nat} {F : Nat → Am} (h : bt p k = false) : Deed.af ⟨.mix, [p], 0⟩ F k = (F k).add (F (fl p k)) := by
  simp only [Deed.af, Deed.i, List.getD_cons_zero, h, Bool.false_eq_true, if_false, reduceIte]
theorem af_turn_t {p k t : Nat} {F : Nat → Am} (h : bt p k = true) : Deed.af ⟨.turn, [p], t⟩ F k = Am.tn t (F k) := by
  simp only [Deed.af, Deed.i, List.getD_cons_zero, h, if_true, reduceIte]
theorem af_turn_f {p k t : Nat} {F : Nat → Am} (h : bt p k = false) : Deed.af ⟨.turn, [p], t⟩ F k = F k := by
  simp only [Deed.af, Deed.i, List.getD_cons_zero, h, Bool.false_eq_true, if_false, reduceIte]
theorem af_under_t {p q k : Nat} {F : Nat → Am} (h : bt p k = true) : Deed.af ⟨.under, [p, q], 0⟩ F k = F (fl q k) := by
  simp only [Deed.af, Deed.fr, Deed.i, List.getD_cons_zero, List.getD_cons_succ, h, if_true, reduceIte]
theorem af_under_f {p q k : Nat} {F : Nat → Am} (h : bt p k = false) : Deed.af ⟨.under, [p, q], 0⟩ F k = F k := by
  simp only [Deed.af, Deed.fr, Deed.i, List.getD_cons_zero, List.getD_cons_succ, h, Bool.false_eq_true, if_false, reduceIte]
theorem Am.tn17 (x : Am) : Am.tn 1 (Am.tn 7 x) = x := by
  apply Am.ext' <;> simp only [Am.tn, Am.tn1] <;> omega
theorem runL_len' (n : Nat) : ∀ (ds : List Deed) (xs : Spr), (runL n ds xs).length = xs.length
  | [], _ => rfl
  | x :: ds, xs => by
    show (runL n ds (x.run n xs)).length = _
    rw [runL_len' n ds, run_len]
theorem mulL_mulL (xs : Spr) (a b : Am) : mulL (mulL xs a) b = mulL xs (a.mul b) := by
  unfold mulL
  rw [List.map_map]
  exact List.map_congr_left fun x _ => Am.mul_assoc x a b
theorem runL_app (n : Nat) (a b : List Deed) (xs : Spr) : runL n (a ++ b) xs = runL n b (runL n a xs) := by
  unfold runL
  rw [List.foldl_append]
theorem mulL_app (xs ys : Spr) (b : Am) : mulL (xs ++ ys) b = mulL xs b ++ mulL ys b := by
  unfold mulL
  rw [List.map_append]
/-! ### k16: lengths -/
theorem perm_sum {l l' : List Int} (h : l.Perm l') : l.sum = l'.sum := by
  induction h with
  | nil => rfl
  | cons x _ ih => rw [List.sum_cons, List.sum_cons, ih]
  | swap x y l => rw [List.sum_cons, List.sum_cons, List.sum_cons, List.sum_cons]; omega
  | trans _ _ h1 h2 => rw [h1, h2]
theorem inv_perm {N : Nat} {f : Nat → Nat} (h1 : ∀ k, k < N → f k < N) (h2 : ∀ k, k < N → f (f k) = k) : ((List.range N).map f).Perm (List.range N) := by
  have nd : ((List.range N).map f).Nodup := by
    refine List.pairwise_iff_getElem.mpr fun i j hi hj hij e => ?_
    rw [List.length_map, List.length_range] at hi hj
    simp only [List.getElem_map, List.getElem_range] at e
    have a := h2 i hi
    rw [e, h2 j hj] at a
    omega
  refine (List.perm_ext_iff_of_nodup nd List.nodup_range).mpr fun a => ?_
  rw [List.mem_map, List.mem_range]
  constructor
  · rintro ⟨k, hk, rfl⟩
    exact h1 k (List.mem_range.mp hk)
  · intro ha
    exact ⟨f a, List.mem_range.mpr (h1 a ha), h2 a ha⟩
theorem sumR_inv {N : Nat} {f : Nat → Nat} (g : Nat → Int) (h1 : ∀ k, k < N → f k < N) (h2 : ∀ k, k < N → f (f k) = k) : sumR (fun i => g (f i)) N = sumR g N := by
  unfold sumR
  have := perm_sum ((inv_perm h1 h2).map g)
  rw [List.map_map] at this
  exact this
theorem fr_fr {n k : Nat} {x : Deed} (hx : x.ok n) : x.fr (x.fr k) = k := by
  rcases Deed.alts hx with ⟨a, t, rfl, h1, h2, h3⟩ | ⟨a, rfl, h1⟩ | ⟨a, rfl, h1⟩ | ⟨a, b, rfl, h1, h2, h3⟩ | ⟨a, b, rfl, h1, h2, h3⟩ | ⟨a, b, rfl, h1, h2, h3⟩ | ⟨a, b, c, rfl, h1, h2, h3, h4, h5, h6⟩
  all_goals simp only [Deed.fr, Deed.i, List.getD_cons_zero, List.getD_cons_succ]
  · exact fl_fl a k
  · cases ha : bt a k
    · simp only [ha, Bool.false_eq_true, if_false, reduceIte]
    · simp only [ha, bt_flne h3, fl_fl, if_true, reduceIte]
  · by_cases e : bt a k = bt b k
    · rw [if_pos e, if_pos e]
    · rw [if_neg e]
      have e2 : ¬ bt a (fl b (fl a k)) = bt b (fl b (fl a k)) := by
        rw [bt_self, bt_flne h3, bt_self, bt_flne (Ne.symm h3)]
        cases ha : bt a k <;> cases hb : bt b k <;> simp_all
      rw [if_neg e2, fl_comm a b, fl_fl, fl_fl]
  · cases ha : bt a k <;> cases hb : bt b k
    all_goals simp only [ha, hb, bt_flne h5, bt_flne h6, fl_fl, Bool.and_true, Bool.and_false, Bool.false_eq_true, if_true, if_false, reduceIte]
theorem run_lsum {n : Nat} {x : Deed} {xs : Spr} (g : Am → Int) (gt : ∀ (k : Nat) (a : Am), g (Am.tn k a) = g a) (hx : x.ok n) (w : xs.length = 2 ^ n) (hm : x.w ≠ .mix) : ((x.run n xs).map g).sum = (xs.map g).sum := by
  have gn : ∀ a : Am, g a.neg = g a := fun a => by rw [← Am.tn_four, gt]
  rw [sum_map, sum_map, run_len, w]
  have e1 : ∀ k, k < 2 ^ n → g (atS (x.run n xs) k) = g (x.af (atS xs) k) := fun k hk => by rw [run_af hx w hk]
  rw [sumR_congr e1]
  have fin : (∀ k, x.af (atS xs) k = atS xs (x.fr k)) → sumR (fun i => g (x.af (atS xs) i)) (2 ^ n) = sumR (fun i => g (atS xs i)) (2 ^ n) := fun h => by
    have e2 : (fun i => g (x.af (atS xs) i)) = fun i => g (atS xs (x.fr i)) := funext fun i => by rw [h]
    rw [e2]
    exact sumR_inv (fun i => g (atS xs i)) (fun k hk => Deed.fr_lt hx hk) (fun k _ => fr_fr hx)
  rcases Deed.alts hx with ⟨a, t, rfl, h1, h2, h3⟩ | ⟨a, rfl, h1⟩ | ⟨a, rfl, h1⟩ | ⟨a, b, rfl, h1, h2, h3⟩ | ⟨a, b, rfl, h1, h2, h3⟩ | ⟨a, b, rfl, h1, h2, h3⟩ | ⟨a, b, c, rfl, h1, h2, h3, h4, h5, h6⟩
  · refine sumR_congr fun k _ => ?_
    simp only [Deed.af]
    split
    · exact gt _ _
    · rfl
  · exact absurd rfl hm
  · exact fin fun _ => rfl
  · refine sumR_congr fun k _ => ?_
    simp only [Deed.af]
    split
    · exact gn _
    · rfl
  · exact fin fun _ => rfl
  · exact fin fun _ => rfl
  · exact fin fun _ => rfl
def mixN (ds : List Deed) : Nat := (ds.filter fun x => decide (x.w = .mix)).length
theorem run_s {n : Nat} {x : Deed} {xs : Spr} (hx : x.ok n) (w : xs.length = 2 ^ n) : s1 (x.run n xs) = 2 ^ mixN [x] * s1 xs ∧ s2 (x.run n xs) = 2 ^ mixN [x] * s2 xs := by
  by_cases hm : x.w = .mix
  · have e : mixN [x] = 1 := by simp [mixN, hm]
    rw [e]
    rcases Deed.alts hx with ⟨a, t, rfl, h1, h2, h3⟩ | ⟨a, rfl, h1⟩ | ⟨a, rfl, h1⟩ | ⟨a, b, rfl, h1, h2, h3⟩ | ⟨a, b, rfl, h1, h2, h3⟩ | ⟨a, b, rfl, h1, h2, h3⟩ | ⟨a, b, c, rfl, h1, h2, h3, h4, h5, h6⟩
    · cases hm
    · exact mix_s w h1
    all_goals cases hm
  · have e : mixN [x] = 0 := by simp [mixN, hm]
    rw [e]
    have h1 := run_lsum Am.l1 (fun k a => Am.l1_tn a k) hx w hm
    have h2 := run_lsum Am.l2 (fun k a => Am.l2_tn a k) hx w hm
    unfold s1 s2
    rw [h1, h2]
    simp
theorem runL_s {n : Nat} : ∀ {ds : List Deed} {xs : Spr}, (∀ x ∈ ds, x.ok n) → xs.length = 2 ^ n → s1 (runL n ds xs) = 2 ^ mixN ds * s1 xs ∧ s2 (runL n ds xs) = 2 ^ mixN ds * s2 xs
  | [], xs, _, _ => by
    constructor
    · show s1 xs = 2 ^ 0 * s1 xs
      simp
    · show s2 xs = 2 ^ 0 * s2 xs
      simp
  | x :: ds, xs, h, w => by
    have hx := h x List.mem_cons_self
    obtain ⟨i1, i2⟩ := runL_s (ds := ds) (xs := x.run n xs) (fun y hy => h y (List.mem_cons_of_mem _ hy)) (by rw [run_len, w])
    obtain ⟨j1, j2⟩ := run_s hx w
    have e : mixN (x :: ds) = mixN ds + mixN [x] := by
      unfold mixN
      rw [List.filter_cons]
      by_cases hm : x.w = .mix <;> simp [hm]
    have go : runL n (x :: ds) xs = runL n ds (x.run n xs) := rfl
    rw [go, i1, i2, j1, j2, e, Int.pow_add]
    constructor <;> rw [Int.mul_assoc]
/-! ### undone -/
def Deed.inv (x : Deed) : Deed := if x.w = .turn then ⟨.turn, x.ws, 8 - x.t⟩ else x
def Deed.invS (x : Deed) : Am := if x.w = .mix then two else one1
theorem inv_ok {n : Nat} {x : Deed} (hx : x.ok n) : x.inv.ok n := by
  rcases Deed.alts hx with ⟨a, t, rfl, h1, h2, h3⟩ | ⟨a, rfl, h1⟩ | ⟨a, rfl, h1⟩ | ⟨a, b, rfl, h1, h2, h3⟩ | ⟨a, b, rfl, h1, h2, h3⟩ | ⟨a, b, rfl, h1, h2, h3⟩ | ⟨a, b, c, rfl, h1, h2, h3, h4, h5, h6⟩
  · refine ⟨rfl, by simp [Deed.inv], by simpa [Deed.inv] using h1, ?_⟩
    show 1 ≤ 8 - t ∧ 8 - t ≤ 7
    omega
  all_goals exact hx
theorem neg_neg' (x : Am) : x.neg.neg = x := by
  apply Am.ext' <;> simp only [Am.neg] <;> omega
theorem inv_af {n : Nat} {x : Deed} (hx : x.ok n) (F : Nat → Am) (k : Nat) : x.inv.af (x.af F) k = (F k).mul x.invS := by
  rcases Deed.alts hx with ⟨a, t, rfl, h1, h2, h3⟩ | ⟨a, rfl, h1⟩ | ⟨a, rfl, h1⟩ | ⟨a, b, rfl, h1, h2, h3⟩ | ⟨a, b, rfl, h1, h2, h3⟩ | ⟨a, b, rfl, h1, h2, h3⟩ | ⟨a, b, c, rfl, h1, h2, h3, h4, h5, h6⟩
  · show Deed.af ⟨.turn, [a], 8 - t⟩ (Deed.af ⟨.turn, [a], t⟩ F) k = (F k).mul one1
    rw [show (F k).mul one1 = F k from Am.mul_one' _]
    cases ha : bt a k
    · rw [af_turn_f ha, af_turn_f ha]
    · rw [af_turn_t ha, af_turn_t ha, Am.tn_tn, show t + (8 - t) = 8 by omega, ← Am.tn_mod _ 8 (by decide)]
      rfl
  · show Deed.af ⟨.mix, [a], 0⟩ (Deed.af ⟨.mix, [a], 0⟩ F) k = (F k).mul two
    cases ha : bt a k
    · have hb : bt a (fl a k) = true := by rw [bt_self, ha]; rfl
      rw [af_mix_f ha, af_mix_f ha, af_mix_t hb, fl_fl]
      apply Am.ext' <;> simp only [Am.add, Am.neg, Am.mul, two] <;> grind
    · have hb : bt a (fl a k) = false := by rw [bt_self, ha]; rfl
      rw [af_mix_t ha, af_mix_t ha, af_mix_f hb, fl_fl]
      apply Am.ext' <;> simp only [Am.add, Am.neg, Am.mul, two] <;> grind
  · exact (congrArg F (fr_fr hx)).trans (Am.mul_one' _).symm
  · show Deed.af ⟨.sign, [a, b], 0⟩ (Deed.af ⟨.sign, [a, b], 0⟩ F) k = (F k).mul one1
    rw [show (F k).mul one1 = F k from Am.mul_one' _]
    simp only [Deed.af]
    split
    · exact neg_neg' _
    · rfl
  · exact (congrArg F (fr_fr hx)).trans (Am.mul_one' _).symm
  · exact (congrArg F (fr_fr hx)).trans (Am.mul_one' _).symm
  · exact (congrArg F (fr_fr hx)).trans (Am.mul_one' _).symm
theorem inv_run {n : Nat} {x : Deed} {xs : Spr} (hx : x.ok n) (w : xs.length = 2 ^ n) : x.inv.run n (x.run n xs) = mulL xs x.invS := by
  refine spr_ext (by rw [run_len, run_len, mulL_len]) fun k hk => ?_
  rw [run_len, run_len, w] at hk
  rw [run_af (inv_ok hx) (by rw [run_len, w]) hk, atS_mul, ← inv_af hx]
  exact af_congr (inv_ok hx) (fun j hj => run_af hx w hj) k hk
def undoneD (ds : List Deed) : List Deed := ds.reverse.map Deed.inv
def invC : List Deed → Am
  | [] => one1
  | x :: ds => (invC ds).mul x.invS
theorem undone_run {n : Nat} : ∀ {ds : List Deed} {xs : Spr}, (∀ x ∈ ds, x.ok n) → xs.length = 2 ^ n → runL n (undoneD ds) (runL n ds xs) = mulL xs (invC ds)
  | [], xs, _, _ => by
    show xs = mulL xs one1
    unfold mulL
    have e : xs.map (fun x => x.mul one1) = xs.map id := List.map_congr_left fun x _ => Am.mul_one' x
    rw [e, List.map_id]
  | x :: ds, xs, h, w => by
    have hx := h x List.mem_cons_self
    have e : undoneD (x :: ds) = undoneD ds ++ [x.inv] := by
      unfold undoneD
      rw [List.reverse_cons, List.map_append]
      rfl
    have go : runL n (x :: ds) xs = runL n ds (x.run n xs) := rfl
    have g2 : ∀ zs : Spr, runL n [x.inv] zs = x.inv.run n zs := fun _ => rfl
    rw [e, go, runL_app, undone_run (fun y hy => h y (List.mem_cons_of_mem _ hy)) (by rw [run_len, w]), g2, run_mul, inv_run hx w, mulL_mulL, Am.mul_comm]
    rfl
theorem undone_ok {n : Nat} {ds : List Deed} (h : ∀ x ∈ ds, x.ok n) : ∀ x ∈ undoneD ds, x.ok n := fun x hx => by
  obtain ⟨y, hy, rfl⟩ := List.mem_map.mp hx
  exact inv_ok (h y (List.mem_reverse.mp hy))
theorem undone_len (ds : List Deed) : (undoneD ds).length = ds.length := by
  unfold undoneD
  rw [List.length_map, List.length_reverse]
theorem invC_ne : ∀ ds : List Deed, ∃ m : Nat, invC ds = ⟨(2 ^ m : Nat), 0, 0, 0⟩
  | [] => ⟨0, rfl⟩
  | x :: ds => by
    obtain ⟨m, e⟩ := invC_ne ds
    have hs : x.invS = one1 ∨ x.invS = two := by
      unfold Deed.invS
      split
      · exact .inr rfl
      · exact .inl rfl
    rcases hs with hs | hs
    · refine ⟨m, ?_⟩
      show (invC ds).mul x.invS = _
      rw [hs, e]
      exact Am.mul_one' _
    · refine ⟨m + 1, ?_⟩
      show (invC ds).mul x.invS = _
      rw [hs, e, Nat.pow_succ, Int.natCast_mul]
      apply Am.ext' <;> simp only [Am.mul, two] <;> grind
theorem invC_nz (ds : List Deed) : invC ds ≠ ⟨0, 0, 0, 0⟩ := fun z => by
  obtain ⟨m, e⟩ := invC_ne ds
  rw [e] at z
  have hp := Nat.two_pow_pos m
  have this : ((2 ^ m : Nat) : Int) = 0 := congrArg Am.a z
  omega
theorem undone_plain {n : Nat} {ds : List Deed} {xs : Spr} (h : ∀ x ∈ ds, x.ok n) (w : xs.W n) : plainL (runL n (ds ++ undoneD ds) xs) = plainL xs := by
  rw [runL_app, undone_run h w.len, plain_mul (invC_nz ds) w.nz]
/-! ### plain forms of plain forms -/
theorem SB.any (xs : Spr) : ∃ m, SB m xs := by
  induction xs with
  | nil => exact ⟨0, fun x h => by cases h⟩
  | cons x xs ih =>
    obtain ⟨m, h⟩ := ih
    have lt : ∀ u : Int, ∃ k, Bd k u := fun u => ⟨u.natAbs, Nat.lt_two_pow_self⟩
    obtain ⟨ka, ha⟩ := lt x.a
    obtain ⟨kb, hb⟩ := lt x.b
    obtain ⟨kc, hc⟩ := lt x.c
    obtain ⟨kd, hd⟩ := lt x.d
    refine ⟨m + ka + kb + kc + kd, fun y hy => ?_⟩
    rcases List.mem_cons.mp hy with rfl | hy
    · exact ⟨ha.mono (by omega), hb.mono (by omega), hc.mono (by omega), hd.mono (by omega)⟩
    · exact (h y hy).mono (by omega)
theorem byL_mul (xs : Spr) : byL xs = mulL xs (fzL xs).oth := rfl
theorem plain_dv {xs : Spr} : mulL (plainL xs) ⟨(gS 0 (byL xs) : Nat), 0, 0, 0⟩ = byL xs := by
  unfold plainL mulL
  rw [List.map_map]
  have e : (byL xs).map ((fun x => x.mul ⟨(gS 0 (byL xs) : Nat), 0, 0, 0⟩) ∘ Am.dv (gS 0 (byL xs) : Nat)) = (byL xs).map id := by
    refine List.map_congr_left fun x hx => ?_
    obtain ⟨h1, h2, h3, h4⟩ := (gS_dvd (byL xs) 0).2 x hx
    generalize gS 0 (byL xs) = g at *
    have dm : ∀ u : Int, g ∣ u.natAbs → u / (g : Int) * (g : Int) = u := fun u hu => Int.ediv_mul_cancel (Int.dvd_natAbs.mp (Int.natCast_dvd_natCast.mpr hu))
    show (x.dv g).mul ⟨(g : Int), 0, 0, 0⟩ = x
    have f1 := dm _ h1
    have f2 := dm _ h2
    have f3 := dm _ h3
    have f4 := dm _ h4
    apply Am.ext' <;> simp only [Am.mul, Am.dv] <;> grind
  rw [e, List.map_id]
theorem oth_nz {xs : Spr} (h : (xs.map Am.nz).any id = true) : (fzL xs).oth ≠ ⟨0, 0, 0, 0⟩ := fun z => by
  obtain ⟨m, hm⟩ := SB.any xs
  have hb : SB (m + (m + m + 3 + m + 3) + 3) (byL xs) := fun y hy => by
    obtain ⟨x, hx, rfl⟩ := List.mem_map.mp hy
    exact (hm x hx).mul (fzL_B hm h).oth
  have hz : ∀ x : Am, x.mul ⟨0, 0, 0, 0⟩ = ⟨0, 0, 0, 0⟩ := fun x => by apply Am.ext' <;> simp only [Am.mul] <;> omega
  have g0 := (by_pos h hb).1
  have e : ∀ l : Spr, gS 0 (l.map fun x => x.mul ⟨0, 0, 0, 0⟩) = 0 := by
    intro l
    induction l with
    | nil => rfl
    | cons x l ih =>
      rw [List.map_cons, hz]
      exact ih
  unfold byL at g0
  rw [z, e] at g0
  exact absurd g0 (Nat.lt_irrefl _)
theorem g_nz {xs : Spr} (h : (xs.map Am.nz).any id = true) : (⟨(gS 0 (byL xs) : Nat), 0, 0, 0⟩ : Am) ≠ ⟨0, 0, 0, 0⟩ := fun z => by
  obtain ⟨m, hm⟩ := SB.any xs
  have hb : SB (m + (m + m + 3 + m + 3) + 3) (byL xs) := fun y hy => by
    obtain ⟨x, hx, rfl⟩ := List.mem_map.mp hy
    exact (hm x hx).mul (fzL_B hm h).oth
  have g0 := (by_pos h hb).1
  have this : ((gS 0 (byL xs) : Nat) : Int) = 0 := congrArg Am.a z
  omega
theorem plainL_len (xs : Spr) : (plainL xs).length = xs.length := by
  unfold plainL byL
  rw [List.length_map, List.length_map]
theorem plain_W {n : Nat} {xs : Spr} (w : xs.W n) : (plainL xs).W n := by
  refine ⟨by rw [plainL_len, w.len], w.few, ?_⟩
  have e : ((mulL (plainL xs) ⟨(gS 0 (byL xs) : Nat), 0, 0, 0⟩).map Am.nz).any id = ((byL xs).map Am.nz).any id := by rw [plain_dv]
  rw [mulL_nz (g_nz w.nz)] at e
  rw [e, byL_mul, mulL_nz (oth_nz w.nz)]
  exact w.nz
/-- what deeds leave of a plain form is like what they leave of the spread -/
theorem plain_run {n : Nat} {ds : List Deed} {xs : Spr} (h : ∀ x ∈ ds, x.ok n) (w : xs.W n) : plainL (runL n ds (plainL xs)) = plainL (runL n ds xs) := by
  obtain ⟨m, hm⟩ := SB.any xs
  obtain ⟨m2, hm2⟩ := SB.any (plainL xs)
  have w1 := (runL_ok h w hm).1
  have w2 := (runL_ok h (plain_W w) hm2).1
  rw [← plain_mul (g_nz w.nz) w2.nz, ← runL_mul, plain_dv, byL_mul, runL_mul, plain_mul (oth_nz w.nz) w1.nz]
/-! ### beside: the bits of a number, low and high -/
def lwb (n k : Nat) : Nat := k % 2 ^ n
def hgb (n k : Nat) : Nat := k / 2 ^ n
theorem bt_lw {n p k : Nat} (h : p < n) : bt p (lwb n k) = bt p k := by
  rw [bt_test, bt_test, lwb, Nat.testBit_mod_two_pow, decide_eq_true h, Bool.true_and]
theorem bt_hg (n p k : Nat) : bt p (hgb n k) = bt (p + n) k := by
  rw [bt_test, bt_test, hgb, Nat.testBit_div_two_pow]
theorem fl_lw {n p k : Nat} (h : p < n) : lwb n (fl p k) = fl p (lwb n k) := by
  unfold lwb
  rw [fl_xor, fl_xor, Nat.xor_mod_two_pow, Nat.mod_eq_of_lt (Nat.pow_lt_pow_right (by decide) h)]
theorem fl_lwh {n p k : Nat} (h : p < n) : hgb n (fl p k) = hgb n k := by
  unfold hgb
  rw [fl_xor, Nat.xor_div_two_pow, Nat.div_eq_of_lt (Nat.pow_lt_pow_right (by decide) h), Nat.xor_zero]
theorem fl_hg (n p k : Nat) : hgb n (fl (p + n) k) = fl p (hgb n k) := by
  unfold hgb
  rw [fl_xor, fl_xor, Nat.xor_div_two_pow, Nat.pow_add, Nat.mul_div_cancel _ (Nat.two_pow_pos n)]
theorem fl_hgl (n p k : Nat) : lwb n (fl (p + n) k) = lwb n k := by
  unfold lwb
  rw [fl_xor, Nat.xor_mod_two_pow, Nat.pow_add, Nat.mul_mod_left, Nat.xor_zero]
def mvW (m : Nat) (x : Deed) : Deed := ⟨x.w, x.ws.map (· + m), x.t⟩
theorem mvW_ok {m n : Nat} {x : Deed} (hx : x.ok n) : (mvW m x).ok (m + n) := by
  refine ⟨by show (x.ws.map (· + m)).length = x.w.n; rw [List.length_map, hx.len], ?_, fun a ha => ?_, hx.t⟩
  · exact List.Pairwise.map _ (fun a b hab e => hab (by omega)) hx.nd
  · obtain ⟨b, hb, rfl⟩ := List.mem_map.mp ha
    have := hx.lt b hb
    omega
theorem ok_more {m n : Nat} {x : Deed} (hx : x.ok n) : x.ok (n + m) := ⟨hx.len, hx.nd, fun a ha => Nat.lt_of_lt_of_le (hx.lt a ha) (Nat.le_add_right _ _), hx.t⟩
def tens (n : Nat) (X Y : Nat → Am) (k : Nat) : Am := (X (lwb n k)).mul (Y (hgb n k))
theorem Am.mul_neg (x y : Am) : x.mul y.neg = (x.mul y).neg := by
  rw [Am.mul_comm, Am.neg_mul, Am.mul_comm]
theorem Am.mul_add' (x y z : Am) : x.mul (y.add z) = (x.mul y).add (x.mul z) := by
  rw [Am.mul_comm, Am.add_mul, Am.mul_comm, Am.mul_comm z]
theorem Am.mul_tn (x y : Am) (k : Nat) : x.mul (Am.tn k y) = Am.tn k (x.mul y) := by
  rw [Am.mul_comm, Am.tn_mul, Am.mul_comm]
theorem af_low {n : Nat} {x : Deed} (hx : x.ok n) (X Y : Nat → Am) (k : Nat) : x.af (tens n X Y) k = tens n (x.af X) Y k := by
  unfold tens
  rcases Deed.alts hx with ⟨a, t, rfl, h1, h2, h3⟩ | ⟨a, rfl, h1⟩ | ⟨a, rfl, h1⟩ | ⟨a, b, rfl, h1, h2, h3⟩ | ⟨a, b, rfl, h1, h2, h3⟩ | ⟨a, b, rfl, h1, h2, h3⟩ | ⟨a, b, c, rfl, h1, h2, h3, h4, h5, h6⟩
  all_goals simp only [Deed.af, Deed.fr, Deed.i, List.getD_cons_zero, List.getD_cons_succ]
  · rw [bt_lw h1]
    split
    · rw [Am.tn_mul]
    · rfl
  · rw [bt_lw h1, fl_lw h1, fl_lwh h1]
    split
    · rw [Am.add_mul, Am.neg_mul]
    · rw [Am.add_mul]
  · rw [fl_lw h1, fl_lwh h1]
  · rw [bt_lw h1, bt_lw h2]
    split
    · rw [Am.neg_mul]
    · rfl
  · rw [bt_lw h1]
    split
    · rw [fl_lw h2, fl_lwh h2]
    · rfl
  · rw [bt_lw h1, bt_lw h2]
    split
    · rfl
    · rw [fl_lw h2, fl_lwh h2, fl_lw h1, fl_lwh h1]
  · rw [bt_lw h1, bt_lw h2]
    split
    · rw [fl_lw h3, fl_lwh h3]
    · rfl
theorem af_high (n : Nat) {m : Nat} {x : Deed} (hx : x.ok m) (X Y : Nat → Am) (k : Nat) : (mvW n x).af (tens n X Y) k = tens n X (x.af Y) k := by
  unfold tens
  rcases Deed.alts hx with ⟨a, t, rfl, h1, h2, h3⟩ | ⟨a, rfl, h1⟩ | ⟨a, rfl, h1⟩ | ⟨a, b, rfl, h1, h2, h3⟩ | ⟨a, b, rfl, h1, h2, h3⟩ | ⟨a, b, rfl, h1, h2, h3⟩ | ⟨a, b, c, rfl, h1, h2, h3, h4, h5, h6⟩
  all_goals simp only [mvW, Deed.af, Deed.fr, Deed.i, List.map_cons, List.map_nil, List.getD_cons_zero, List.getD_cons_succ]
  · rw [bt_hg]
    split
    · rw [Am.mul_tn]
    · rfl
  · rw [bt_hg, fl_hg, fl_hgl]
    split
    · rw [Am.mul_add', Am.mul_neg]
    · rw [Am.mul_add']
  · rw [fl_hg, fl_hgl]
  · rw [bt_hg, bt_hg]
    split
    · rw [Am.mul_neg]
    · rfl
  · rw [bt_hg]
    split
    · rw [fl_hg, fl_hgl]
    · rfl
  · rw [bt_hg, bt_hg]
    split
    · rfl
    · rw [fl_hg, fl_hgl, fl_hg, fl_hgl]
  · rw [bt_hg, bt_hg]
    split
    · rw [fl_hg, fl_hgl]
    · rfl
theorem both_at {n : Nat} {xs : Spr} (w : xs.length = 2 ^ n) : ∀ (ys : Spr) (k : Nat), k < 2 ^ n * ys.length → atS (bothL xs ys) k = tens n (atS xs) (atS ys) k
  | [], k, h => by simp at h
  | y :: ys, k, h => by
    have e : bothL xs (y :: ys) = (xs.map fun x => x.mul y) ++ bothL xs ys := by
      unfold bothL
      rw [List.flatMap_cons]
    have hp := Nat.two_pow_pos n
    unfold tens lwb hgb
    by_cases hk : k < 2 ^ n
    · rw [Nat.mod_eq_of_lt hk, Nat.div_eq_of_lt hk, e]
      have hk2 : k < xs.length := by omega
      apply atS_some
      rw [List.getElem?_append_left (by rw [List.length_map]; exact hk2), List.getElem?_map, List.getElem?_eq_getElem hk2, atS_some (List.getElem?_eq_getElem hk2)]
      rfl
    · have hk' : 2 ^ n ≤ k := by omega
      have ih := both_at w ys (k - 2 ^ n) (by rw [List.length_cons, Nat.mul_succ] at h; omega)
      have e2 : atS (bothL xs (y :: ys)) k = atS (bothL xs ys) (k - 2 ^ n) := by
        rw [e]
        unfold atS
        rw [List.getD_eq_getElem?_getD, List.getD_eq_getElem?_getD, List.getElem?_append_right (by rw [List.length_map]; omega), List.length_map, w]
      obtain ⟨j, rfl⟩ := Nat.exists_eq_add_of_le hk'
      rw [e2, ih]
      unfold tens lwb hgb
      rw [Nat.add_sub_cancel_left, Nat.add_mod_left, Nat.add_div_left _ hp]
      rfl
theorem both_len {n m : Nat} {xs ys : Spr} (w : xs.length = 2 ^ n) (v : ys.length = 2 ^ m) : (bothL xs ys).length = 2 ^ (n + m) := by
  rw [bothL_len, w, v, Nat.pow_add]
theorem both_low {n m : Nat} {x : Deed} {xs ys : Spr} (hx : x.ok n) (w : xs.length = 2 ^ n) (v : ys.length = 2 ^ m) : x.run (n + m) (bothL xs ys) = bothL (x.run n xs) ys := by
  have hl := both_len w v
  have hl2 := both_len (xs := x.run n xs) (by rw [run_len, w]) v
  refine spr_ext (by rw [run_len, hl, hl2]) fun k hk => ?_
  rw [run_len, hl] at hk
  have hp := Nat.two_pow_pos n
  have hk2 : k < 2 ^ n * ys.length := by rw [v, ← Nat.pow_add]; exact hk
  rw [run_af (ok_more hx) hl hk, both_at (by rw [run_len, w]) ys k hk2]
  rw [af_congr (G := tens n (atS xs) (atS ys)) (ok_more hx) (fun j hj => both_at w ys j (by rw [v, ← Nat.pow_add]; exact hj)) k hk, af_low hx]
  unfold tens
  rw [run_af hx w (show lwb n k < 2 ^ n from Nat.mod_lt _ hp)]
theorem both_high {n m : Nat} {x : Deed} {xs ys : Spr} (hx : x.ok m) (w : xs.length = 2 ^ n) (v : ys.length = 2 ^ m) : (mvW n x).run (n + m) (bothL xs ys) = bothL xs (x.run m ys) := by
  have hl := both_len w v
  have hl2 := both_len (ys := x.run m ys) w (by rw [run_len, v])
  refine spr_ext (by rw [run_len, hl, hl2]) fun k hk => ?_
  rw [run_len, hl] at hk
  have hp := Nat.two_pow_pos n
  have hk2 : k < 2 ^ n * (x.run m ys).length := by rw [run_len, v, ← Nat.pow_add]; exact hk
  rw [run_af (mvW_ok hx) hl hk, both_at w _ k hk2]
  rw [af_congr (G := tens n (atS xs) (atS ys)) (mvW_ok hx) (fun j hj => both_at w ys j (by rw [v, ← Nat.pow_add]; exact hj)) k hk, af_high n hx]
  unfold tens
  rw [run_af hx v (by unfold hgb; rw [Nat.div_lt_iff_lt_mul hp, ← Nat.pow_add, Nat.add_comm]; exact hk)]
theorem bothL_low {n m : Nat} : ∀ {ds : List Deed} {xs ys : Spr}, (∀ x ∈ ds, x.ok n) → xs.length = 2 ^ n → ys.length = 2 ^ m → runL (n + m) ds (bothL xs ys) = bothL (runL n ds xs) ys
  | [], _, _, _, _, _ => rfl
  | x :: ds, xs, ys, h, w, v => by
    have go : ∀ (k : Nat) (zs : Spr), runL k (x :: ds) zs = runL k ds (x.run k zs) := fun _ _ => rfl
    rw [go, go, both_low (h x List.mem_cons_self) w v, bothL_low (fun y hy => h y (List.mem_cons_of_mem _ hy)) (by rw [run_len, w]) v]
theorem bothL_high {n m : Nat} : ∀ {ds : List Deed} {xs ys : Spr}, (∀ x ∈ ds, x.ok m) → xs.length = 2 ^ n → ys.length = 2 ^ m → runL (n + m) (ds.map (mvW n)) (bothL xs ys) = bothL xs (runL m ds ys)
  | [], _, _, _, _, _ => rfl
  | x :: ds, xs, ys, h, w, v => by
    have go : ∀ (k : Nat) (x : Deed) (ds : List Deed) (zs : Spr), runL k (x :: ds) zs = runL k ds (x.run k zs) := fun _ _ _ _ => rfl
    rw [List.map_cons, go, go, both_high (h x List.mem_cons_self) w v, bothL_high (fun y hy => h y (List.mem_cons_of_mem _ hy)) w (by rw [run_len, v])]
theorem both_runs {n m : Nat} {a b : List Deed} {xs ys : Spr} (ha : ∀ x ∈ a, x.ok n) (hb : ∀ x ∈ b, x.ok m) (w : xs.length = 2 ^ n) (v : ys.length = 2 ^ m) : runL (n + m) (a ++ b.map (mvW n)) (bothL xs ys) = bothL (runL n a xs) (runL m b ys) := by
  rw [runL_app, bothL_low ha w v, bothL_high hb (by rw [runL_len', w]) v]
theorem dL_app (a b : List Deed) : dL a ++ dL b = dL (a ++ b) := by
  unfold dL
  rw [List.map_append]

local macro_rules | `(tactic| walk_at "dl") => `(tactic| simp only [↓wFld_eq, ↓wStF_eq, ↓wMkF_eq, ↓wMk_eq, ↓wMeth_eq, ↓oIsC_eq, ↓oDGet1_eq, ↓oDGet2_eq, ↓wKGet_eq, ↓wKIx_eq, ↓wSw2_eq, pairD_tup, insAt_obj, insAt_cell, isiC_obj, stF_cell, look_hit, dicAt_dic, strK_str, rcv_dic, Option.getD_some, Option.getD_none, ↓oMulC_eq, mulC_lst, ↓wStar_eq, ↓wRevT_eq, revT_tup, ↓wLcC_eq, celD_lst, ↓oIns_eq, insS_cell, ↓oStr_eq, ↓oEqE_eq, emD, List.isEmpty_map, ↓oReprX_eq, ↓wPr0_eq, ↓wPr1_eq, ↓wDic_eq, ↓wDic0_eq, ↓wChain_eq, strD, keysD, keyD, kB_non_int, kB_str_int, kB_tup_int, kB_lst_int, kB_dic_int, kB_non_lt, kB_str_lt, kB_int_lt, kB_bool_lt, kB_dic_lt, ↓wLc2_eq, ↓wLenSet_eq, ↓wLRg1_eq, ↓wCRg1_eq, ↓oListC_eq, ↓oPopAt_eq, ↓oExt_eq, popAtS_cell, extS_cell, ↓wMt_eq, ↓oApp_eq, ↓oPop_eq, ↓wBits_eq, ↓oIn_eq, ↓oAnyI_eq, appS_cell, popS_cell, rcv_list, rcv_lst, Option.isSome_some, inD_ints, inD_tints, szS_lt, anyI, ↓o1_eq, ↓oAbs_eq, ↓oAdd_eq, ↓oAll_eq, ↓oAny_eq, ↓oEq_eq, ↓oI_eq, ↓oIadd_eq, ↓oInt_eq, ↓oIsN_eq, ↓oIsi_eq, ↓oIx_eq, ↓oLen_eq, ↓oList_eq, ↓oMul_eq, ↓oRepr_eq, ↓oSl_eq, ↓oSum_eq, ↓oTru_eq, ↓oTup_eq, ↓oU_eq, ↓wAndV_eq, ↓wAnd_eq, ↓wAug_eq, ↓wB_eq, ↓wBreak_eq, ↓wC_eq, ↓wCall0_eq, ↓wCallK_eq, ↓wCall_eq, ↓wCel_eq, ↓wCons_eq, ↓wCont_eq, ↓wDrop_eq, ↓wEnum_eq, ↓wFor_eq, ↓wFrz_eq, ↓wIfS_eq, ↓wIf_eq, ↓wLc_eq, ↓wLst_eq, ↓wNext_eq, ↓wNil_eq, ↓wNotD_eq, ↓wNotV_eq, ↓wOp_eq, ↓wOrV_eq, ↓wOr_eq, ↓wPar3_eq, ↓wPar_eq, ↓wPat_eq, ↓wPn_eq, ↓wPs_eq, ↓wRetN_eq, ↓wRet_eq, ↓wRng1_eq, ↓wRng2_eq, ↓wSeqI_eq, ↓wSeq_eq, ↓wSet_eq, ↓wSl_eq, ↓wStore_eq, ↓wTruD_eq, ↓wTst_eq, ↓wTup_eq, ↓wUn_eq, ↓wVar_eq, ↓wWhile_eq, ↓wZip_eq, bindP_some, bindP_none, cond2_true, cond2_false, letE_eq, envAt_zero, envAt_none, envAt_succ, blD, wYes, wNever, cT, iD, uD, addD, iaddD, mulD, eqD_int, eqD_str, eqD_bl, isND, DL.isNon, slD, intOf, absD, blsD, numsD, bls, nums, intD, rng1, rng2, en1, zip1, zipD, enD, stay, startE, patSet, patSets, wipeE, and_t, sz_le, gP, List.filterMap_cons, List.filterMap_nil,  Int.reducePow, Int.cast_ofNat_Int, cMul_l, cMul_r, CPow_lit, CDivW_lit, eqD_ints, List.length_map,  isi_non, isit_non, isi_bl, isit_bl, isi_int, isit_int, isi_str, isit_str, isi_tup, isit_tup, isi_lst, isit_lst, isi_dic, isit_dic, lstOf_lst, truD_non, truD_bl, truD_int, truD_str, truD_tup, truD_lst, truD_dic, lstOf_cell, seqOf_lst, seqOf_tup, seqOf_cell, seqI_lst, seqI_tup, seqI_cell, lenD_str, lenD_lst, lenD_tup, lenD_cell, ixD_lst, ixD_tup, ixD_cell, truD_cell, isi_cell, isit_cell, stoD_cell, frzD_eq, lstAt_app, lstAt_0, lstAt_s, set_app, List.set_set, Option.bind_some, Option.bind_none,  List.isEmpty_cons, List.isEmpty_nil, Option.map_none, and_true, atI_zero, atI_1, atI_2, atI_3, kB_int_int, kB_int_bool, kB_bool_int, kB_bool_bool, kB_list_lt, kB_tuple_lt, Option.map_some, List.map_cons, List.map_nil, List.cons_append, List.nil_append, List.append_nil, List.length_cons, List.length_nil, List.replicate, List.getElem?_cons_zero, List.getElem?_cons_succ, List.set_cons_zero, List.set_cons_succ, Nat.reduceSub, Nat.reduceAdd, Nat.sub_zero, Nat.zero_add, Bool.not_true, Bool.not_false, Bool.false_eq_true, ite_true, ite_false, reduceIte, reduceCtorEq, Nat.reduceLeDiff, eq_self, ix0, ix1, ix2, ix3, cutD_all, decide_true, decide_false, wAll, wCl, Int.reduceAdd, Int.reduceSub, Int.reduceMul, Int.reduceNeg, Int.reduceLT, Int.reduceLE, Int.reduceEq, Int.reduceMod, Int.reduceDiv, Int.reduceToNat, Int.toNat_natCast, Nat.reduceLT, Nat.reduceEqDiff, Nat.reduceMul, seqOf_t, eqA, eqA4, ixA0, ixA1, ixA2, ixA3, eqD_t2, inD_pow, wd_turn, wd_mix, wd_sign, wd_not, wd_swap, wd_none, word_get, word_getD, kB_str_str, stayNT, lk_wires, lk_deeds])
local macro_rules | `(tactic| walk_at "dlu") => `(tactic| simp only [↓wFld_eq, ↓wStF_eq, ↓wMkF_eq, ↓wMk_eq, ↓wMeth_eq, ↓oIsC_eq, ↓oDGet1_eq, ↓oDGet2_eq, ↓wKGet_eq, ↓wKIx_eq, ↓wSw2_eq, pairD_tup, insAt_obj, insAt_cell, isiC_obj, stF_cell, look_hit, dicAt_dic, strK_str, rcv_dic, Option.getD_some, Option.getD_none, ↓oMulC_eq, mulC_lst, ↓wStar_eq, ↓wRevT_eq, revT_tup, ↓wLcC_eq, celD_lst, ↓oIns_eq, insS_cell, ↓oStr_eq, ↓oEqE_eq, emD, List.isEmpty_map, ↓oReprX_eq, ↓wPr0_eq, ↓wPr1_eq, ↓wDic_eq, ↓wDic0_eq, ↓wChain_eq, strD, keysD, keyD, kB_non_int, kB_str_int, kB_tup_int, kB_lst_int, kB_dic_int, kB_non_lt, kB_str_lt, kB_int_lt, kB_bool_lt, kB_dic_lt, ↓wLc2_eq, ↓wLenSet_eq, ↓wLRg1_eq, ↓wCRg1_eq, ↓oListC_eq, ↓oPopAt_eq, ↓oExt_eq, popAtS_cell, extS_cell, ↓wMt_eq, ↓oApp_eq, ↓oPop_eq, ↓wBits_eq, ↓oIn_eq, ↓oAnyI_eq, appS_cell, popS_cell, rcv_list, rcv_lst, Option.isSome_some, inD_ints, inD_tints, szS_lt, anyI, ↓o1_eq, ↓oAbs_eq, ↓oAdd_eq, ↓oAll_eq, ↓oAny_eq, ↓oEq_eq, ↓oI_eq, ↓oIadd_eq, ↓oInt_eq, ↓oIsN_eq, ↓oIsi_eq, ↓oIx_eq, ↓oLen_eq, ↓oList_eq, ↓oMul_eq, ↓oRepr_eq, ↓oSl_eq, ↓oSum_eq, ↓oTru_eq, ↓oTup_eq, ↓oU_eq, ↓wAndV_eq, ↓wAnd_eq, ↓wAug_eq, ↓wB_eq, ↓wBreak_eq, ↓wC_eq, ↓wCall0_eq, ↓wCallK_eq, ↓wCall_eq, ↓wCel_eq, ↓wCons_eq, ↓wCont_eq, ↓wDrop_eq, ↓wEnum_eq, ↓wFor_eq, ↓wFrz_eq, ↓wIfS_eq, ↓wIf_eq, ↓wLc_eq, ↓wLst_eq, ↓wNext_eq, ↓wNil_eq, ↓wNotD_eq, ↓wNotV_eq, ↓wOp_eq, ↓wOrV_eq, ↓wOr_eq, ↓wPar3_eq, ↓wPar_eq, ↓wPat_eq, ↓wPn_eq, ↓wPs_eq, ↓wRetN_eq, ↓wRet_eq, ↓wRng1_eq, ↓wRng2_eq, ↓wSeqI_eq, ↓wSeq_eq, ↓wSet_eq, ↓wSl_eq, ↓wStore_eq, ↓wTruD_eq, ↓wTst_eq, ↓wTup_eq, ↓wUn_eq, ↓wVar_eq, ↓wWhile_eq, ↓wZip_eq, bindP_some, bindP_none, cond2_true, cond2_false, letE_eq, envAt_zero, envAt_none, envAt_succ, blD, wYes, wNever, cT, iD, uD, addD, iaddD, mulD, eqD_int, eqD_str, eqD_bl, isND, DL.isNon, slD, intOf, absD, blsD, numsD, bls, nums, intD, rng1, rng2, en1, zip1, zipD, enD, stay, startE, patSet, patSets, wipeE, and_t, sz_le, gP, List.filterMap_cons, List.filterMap_nil,  Int.reducePow, Int.cast_ofNat_Int, cMul_l, cMul_r, CPow_lit, CDivW_lit, eqD_ints, List.length_map,  isi_non, isit_non, isi_bl, isit_bl, isi_int, isit_int, isi_str, isit_str, isi_tup, isit_tup, isi_lst, isit_lst, isi_dic, isit_dic, lstOf_lst, truD_non, truD_bl, truD_int, truD_str, truD_tup, truD_lst, truD_dic, lstOf_cell, seqOf_lst, seqOf_tup, seqOf_cell, seqI_lst, seqI_tup, seqI_cell, lenD_str, lenD_lst, lenD_tup, lenD_cell, ixD_lst, ixD_tup, ixD_cell, truD_cell, isi_cell, isit_cell, stoD_cell, frzD_eq, lstAt_app, lstAt_0, lstAt_s, set_app, List.set_set, Option.bind_some, Option.bind_none,  List.isEmpty_cons, List.isEmpty_nil, Option.map_none, and_true, atI_zero, atI_1, atI_2, atI_3, kB_int_int, kB_int_bool, kB_bool_int, kB_bool_bool, kB_list_lt, kB_tuple_lt, Option.map_some, List.map_cons, List.map_nil, List.cons_append, List.nil_append, List.append_nil, List.length_cons, List.length_nil, List.replicate, List.getElem?_cons_zero, List.getElem?_cons_succ, List.set_cons_zero, List.set_cons_succ, Nat.reduceSub, Nat.reduceAdd, Nat.sub_zero, Nat.zero_add, Bool.not_true, Bool.not_false, Bool.false_eq_true, ite_true, ite_false, reduceIte, reduceCtorEq, Nat.reduceLeDiff, eq_self, ix0, ix1, ix2, ix3, cutD_all, decide_true, decide_false, wAll, wCl, Int.reduceAdd, Int.reduceSub, Int.reduceMul, Int.reduceNeg, Int.reduceLT, Int.reduceLE, Int.reduceEq, Int.reduceMod, Int.reduceDiv, Int.reduceToNat, Int.toNat_natCast, Nat.reduceLT, Nat.reduceEqDiff, Nat.reduceMul, rngD_z, rngD_s, forP_nil, forP_cons, lcP_nil, lcP_cons, lc2P_nil, lc2P_cons, lc2Q_nil, lc2Q_cons, seqOf_t, eqA, eqA4, ixA0, ixA1, ixA2, ixA3, eqD_t2, inD_pow, wd_turn, wd_mix, wd_sign, wd_not, wd_swap, wd_none, word_get, word_getD, kB_str_str, stayNT, lk_wires, lk_deeds])
local macro_rules | `(tactic| walk_at "dlh") => `(tactic| simp only [↓wFld_eq, ↓wStF_eq, ↓wMkF_eq, ↓wMk_eq, ↓wMeth_eq, ↓oIsC_eq, ↓oDGet1_eq, ↓oDGet2_eq, ↓wKGet_eq, ↓wKIx_eq, ↓wSw2_eq, pairD_tup, insAt_obj, insAt_cell, isiC_obj, stF_cell, look_hit, dicAt_dic, strK_str, rcv_dic, Option.getD_some, Option.getD_none, ↓oMulC_eq, mulC_lst, ↓wStar_eq, ↓wRevT_eq, revT_tup, ↓wLcC_eq, celD_lst, ↓oIns_eq, insS_cell, ↓oStr_eq, ↓oEqE_eq, emD, List.isEmpty_map, ↓oReprX_eq, ↓wPr0_eq, ↓wPr1_eq, ↓wDic_eq, ↓wDic0_eq, ↓wChain_eq, strD, keysD, keyD, kB_non_int, kB_str_int, kB_tup_int, kB_lst_int, kB_dic_int, kB_non_lt, kB_str_lt, kB_int_lt, kB_bool_lt, kB_dic_lt, ↓wLc2_eq, ↓wLenSet_eq, ↓wLRg1_eq, ↓wCRg1_eq, ↓oListC_eq, ↓oPopAt_eq, ↓oExt_eq, popAtS_cell, extS_cell, ↓wMt_eq, ↓oApp_eq, ↓oPop_eq, ↓wBits_eq, ↓oIn_eq, ↓oAnyI_eq, appS_cell, popS_cell, rcv_list, rcv_lst, Option.isSome_some, inD_ints, inD_tints, szS_lt, anyI, ↓o1_eq, ↓oAbs_eq, ↓oAdd_eq, ↓oAll_eq, ↓oAny_eq, ↓oEq_eq, ↓oI_eq, ↓oIadd_eq, ↓oInt_eq, ↓oIsN_eq, ↓oIsi_eq, ↓oIx_eq, ↓oLen_eq, ↓oList_eq, ↓oMul_eq, ↓oRepr_eq, ↓oSl_eq, ↓oSum_eq, ↓oTru_eq, ↓oTup_eq, ↓oU_eq, ↓wAndV_eq, ↓wAnd_eq, ↓wAug_eq, ↓wB_eq, ↓wBreak_eq, ↓wC_eq, ↓wCall0_eq, ↓wCallK_eq, ↓wCall_eq, ↓wCel_eq, ↓wCons_eq, ↓wCont_eq, ↓wDrop_eq, ↓wEnum_eq, ↓wFor_eq, ↓wFrz_eq, ↓wIfS_eq, ↓wIf_eq, ↓wLc_eq, ↓wLst_eq, ↓wNext_eq, ↓wNil_eq, ↓wNotD_eq, ↓wNotV_eq, ↓wOp_eq, ↓wOrV_eq, ↓wOr_eq, ↓wPar3_eq, ↓wPar_eq, ↓wPat_eq, ↓wPn_eq, ↓wPs_eq, ↓wRetN_eq, ↓wRet_eq, ↓wRng1_eq, ↓wRng2_eq, ↓wSeqI_eq, ↓wSeq_eq, ↓wSet_eq, ↓wSl_eq, ↓wStore_eq, ↓wTruD_eq, ↓wTst_eq, ↓wTup_eq, ↓wUn_eq, ↓wVar_eq, ↓wWhile_eq, ↓wZip_eq, bindP_some, bindP_none, cond2_true, cond2_false, letE_eq, envAt_zero, envAt_none, envAt_succ, blD, wYes, wNever, cT, iD, uD, addD, iaddD, mulD, eqD_int, eqD_str, eqD_bl, isND, DL.isNon, slD, intOf, absD, blsD, numsD, bls, nums, intD, rng1, rng2, en1, zip1, zipD, enD, stay, startE, patSet, patSets, wipeE, and_t, sz_le, gP, List.filterMap_cons, List.filterMap_nil,  Int.reducePow, Int.cast_ofNat_Int, cMul_l, cMul_r, CPow_lit, CDivW_lit, eqD_ints, List.length_map,  isi_non, isit_non, isi_bl, isit_bl, isi_int, isit_int, isi_str, isit_str, isi_tup, isit_tup, isi_lst, isit_lst, isi_dic, isit_dic, lstOf_lst, truD_non, truD_bl, truD_int, truD_str, truD_tup, truD_lst, truD_dic, lstOf_cell, seqOf_lst, seqOf_tup, seqOf_cell, seqI_lst, seqI_tup, seqI_cell, lenD_str, lenD_lst, lenD_tup, lenD_cell, ixD_lst, ixD_tup, ixD_cell, truD_cell, isi_cell, isit_cell, stoD_cell, frzD_eq, lstAt_app, lstAt_0, lstAt_s, set_app, List.set_set, Option.bind_some, Option.bind_none,  List.isEmpty_cons, List.isEmpty_nil, Option.map_none, and_true, atI_zero, atI_1, atI_2, atI_3, kB_int_int, kB_int_bool, kB_bool_int, kB_bool_bool, kB_list_lt, kB_tuple_lt, Option.map_some, List.map_cons, List.map_nil, List.cons_append, List.nil_append, List.append_nil, List.length_cons, List.length_nil, List.replicate, List.getElem?_cons_zero, List.getElem?_cons_succ, List.set_cons_zero, List.set_cons_succ, Nat.reduceSub, Nat.reduceAdd, Nat.sub_zero, Nat.zero_add, Bool.not_true, Bool.not_false, Bool.false_eq_true, ite_true, ite_false, reduceIte, reduceCtorEq, Nat.reduceLeDiff, eq_self, ix0, ix1, ix2, ix3, cutD_all, decide_true, decide_false, wAll, wCl, Int.reduceAdd, Int.reduceSub, Int.reduceMul, Int.reduceNeg, Int.reduceLT, Int.reduceLE, Int.reduceEq, Int.reduceMod, Int.reduceDiv, Int.reduceToNat, Int.toNat_natCast, Nat.reduceLT, Nat.reduceEqDiff, Nat.reduceMul, lstAt_set, lstAt_ne, lstAt_old, set_old, ne_eq, not_false_eq_true, *, seqOf_t, eqA, eqA4, ixA0, ixA1, ixA2, ixA3, eqD_t2, inD_pow, wd_turn, wd_mix, wd_sign, wd_not, wd_swap, wd_none, word_get, word_getD, kB_str_str, stayNT, lk_wires, lk_deeds])

local macro_rules | `(tactic| walk_at "dn") => `(tactic| simp only [↓wFld_eq, ↓wStF_eq, ↓wMkF_eq, ↓wMk_eq, ↓wMeth_eq, ↓oIsC_eq, ↓oDGet1_eq, ↓oDGet2_eq, ↓wKGet_eq, ↓wKIx_eq, ↓wSw2_eq, pairD_tup, insAt_obj, insAt_cell, isiC_obj, stF_cell, look_hit, dicAt_dic, strK_str, rcv_dic, Option.getD_some, Option.getD_none, ↓oMulC_eq, mulC_lst, ↓wStar_eq, ↓wRevT_eq, revT_tup, ↓wLcC_eq, celD_lst, ↓oIns_eq, insS_cell, ↓oStr_eq, ↓oEqE_eq, emD, List.isEmpty_map, ↓oReprX_eq, ↓wPr0_eq, ↓wPr1_eq, ↓wDic_eq, ↓wDic0_eq, ↓wChain_eq, strD, keysD, keyD, kB_non_int, kB_str_int, kB_tup_int, kB_lst_int, kB_dic_int, kB_non_lt, kB_str_lt, kB_int_lt, kB_bool_lt, kB_dic_lt, ↓wLc2_eq, ↓wLenSet_eq, ↓wLRg1_eq, ↓wCRg1_eq, ↓oListC_eq, ↓oPopAt_eq, ↓oExt_eq, popAtS_cell, extS_cell, ↓wMt_eq, ↓oApp_eq, ↓oPop_eq, ↓wBits_eq, ↓oIn_eq, ↓oAnyI_eq, appS_cell, popS_cell, rcv_list, rcv_lst, Option.isSome_some, inD_ints, inD_tints, szS_lt, anyI, ↓o1_eq, ↓oAbs_eq, ↓oAdd_eq, ↓oAll_eq, ↓oAny_eq, ↓oEq_eq, ↓oI_eq, ↓oIadd_eq, ↓oInt_eq, ↓oIsN_eq, ↓oIsi_eq, ↓oIx_eq, ↓oLen_eq, ↓oList_eq, ↓oMul_eq, ↓oRepr_eq, ↓oSl_eq, ↓oSum_eq, ↓oTru_eq, ↓oTup_eq, ↓oU_eq, ↓wAndV_eq, ↓wAnd_eq, ↓wAug_eq, ↓wB_eq, ↓wBreak_eq, ↓wC_eq, ↓wCall0_eq, ↓wCallK_eq, ↓wCall_eq, ↓wCel_eq, ↓wCons_eq, ↓wCont_eq, ↓wDrop_eq, ↓wEnum_eq, ↓wFor_eq, ↓wFrz_eq, ↓wIfS_eq, ↓wIf_eq, ↓wLc_eq, ↓wLst_eq, ↓wNext_eq, ↓wNil_eq, ↓wNotD_eq, ↓wNotV_eq, ↓wOp_eq, ↓wOrV_eq, ↓wOr_eq, ↓wPar3_eq, ↓wPar_eq, ↓wPat_eq, ↓wPn_eq, ↓wPs_eq, ↓wRetN_eq, ↓wRet_eq, ↓wRng1_eq, ↓wRng2_eq, ↓wSeqI_eq, ↓wSeq_eq, ↓wSet_eq, ↓wSl_eq, ↓wStore_eq, ↓wTruD_eq, ↓wTst_eq, ↓wTup_eq, ↓wUn_eq, ↓wVar_eq, ↓wWhile_eq, ↓wZip_eq, bindP_some, bindP_none, cond2_true, cond2_false, letE_eq, envAt_zero, envAt_none, envAt_succ, blD, wYes, wNever, cT, iD, uD, addD, iaddD, mulD, eqD_int, eqD_str, eqD_bl, isND, DL.isNon, slD, intOf, absD, blsD, numsD, bls, nums, intD, rng1, rng2, en1, zip1, zipD, enD, stay, startE, patSet, patSets, wipeE, and_t, sz_le, gP, List.filterMap_cons, List.filterMap_nil,  Int.reducePow, Int.cast_ofNat_Int, cMul_l, cMul_r, CPow_lit, CDivW_lit, eqD_ints, List.length_map,  isi_non, isit_non, isi_bl, isit_bl, isi_int, isit_int, isi_str, isit_str, isi_tup, isit_tup, isi_lst, isit_lst, isi_dic, isit_dic, lstOf_lst, truD_non, truD_bl, truD_int, truD_str, truD_tup, truD_lst, truD_dic, lstOf_cell, seqOf_lst, seqOf_tup, seqOf_cell, seqI_lst, seqI_tup, seqI_cell, lenD_str, lenD_lst, lenD_tup, lenD_cell, ixD_lst, ixD_tup, ixD_cell, truD_cell, isi_cell, isit_cell, stoD_cell, frzD_eq, lstAt_app, lstAt_0, lstAt_s, set_app, List.set_set, Option.bind_some, Option.bind_none,  List.isEmpty_cons, List.isEmpty_nil, Option.map_none, and_true, atI_zero, atI_1, atI_2, atI_3, kB_int_int, kB_int_bool, kB_bool_int, kB_bool_bool, kB_list_lt, kB_tuple_lt, Option.map_some, List.map_cons, List.map_nil, List.cons_append, List.nil_append, List.append_nil, List.length_cons, List.length_nil, List.getElem?_cons_zero, List.getElem?_cons_succ, List.set_cons_zero, List.set_cons_succ, Nat.reduceSub, Nat.reduceAdd, Nat.sub_zero, Nat.zero_add, Bool.not_true, Bool.not_false, Bool.false_eq_true, ite_true, ite_false, reduceIte, reduceCtorEq, Nat.reduceLeDiff, eq_self, ix0, ix1, ix2, ix3, cutD_all, decide_true, decide_false, wAll, wCl, Int.reduceAdd, Int.reduceSub, Int.reduceMul, Int.reduceNeg, Int.reduceLT, Int.reduceLE, Int.reduceEq, Int.reduceMod, Int.reduceDiv, Int.reduceToNat, Int.toNat_natCast, Nat.reduceLT, Nat.reduceEqDiff, Nat.reduceMul, seqOf_t, eqA, eqA4, ixA0, ixA1, ixA2, ixA3, eqD_t2, inD_pow, wd_turn, wd_mix, wd_sign, wd_not, wd_swap, wd_none, word_get, word_getD, kB_str_str, stayNT, lk_wires, lk_deeds])
local macro_rules | `(tactic| walk_at "sd") => `(tactic| first | assumption | omega | rfl | decide | exact SpD.lst _ | exact SpD.tup _ | (intro _; rfl) | (rw [sizeLine_eq]; omega))
local macro_rules | `(tactic| walk_at "k") => `(tactic| refine And.intro (by walk_at "sd") ?_)
local macro_rules | `(tactic| walk_at "go") => `(tactic| (repeat (first | walk_at "dlu" | walk_at "k")))
local macro_rules | `(tactic| walk_at "gol") => `(tactic| (repeat (first | walk_at "dl" | walk_at "k")))

section
abbrev sp__law_cooper : FSpec := { ι := { ns : List Int // ns.length ≤ 63 }, args := fun ns => [.scr ns.1], pre := fun _ cs => cs = [], res := fun _ _ d cs' => d = .cell 0 ∧ ∃ ns, ns.length ≤ 60 ∧ cs' = [svc ns 0 0] }
theorem calm__law_cooper : Calm sp__law_cooper := ⟨fun _ _ _ _ h => h⟩
set_option maxHeartbeats 4000000 in
theorem ok__law_cooper (T : Txt w K mg) : FnG P w K mg base CX0 1 T.f__law_cooper T.d__law_cooper ["_law_script"] (dSp K sp__law_cooper) := by
  refine dfun T.F__law_cooper sc__law_cooper (fun _ => rfl) fun cdv A outer s H E hr => ⟨_, (dss_one (ds_ret (de_cel (da_cons (de_lc (own := [("_law_cell", 1)]) rfl sc__law_cooper.nd (di_seq (de_slice (dv 0) dp_none (dp_some de_int))) (blkOk_by (own := [("_law_cell", 1)]) (N := N__law_cooper) (sc := defScope s__law_cooper) (by decide +kernel)) (fun _ _ _ _ _ => (dg_nm 1 sc__law_cooper.nd)) (fun _ _ _ _ _ => dts_nil) (fun _ _ _ _ _ => (de_callT cd_int T.z_int (by decide +kernel) (da_cons (dv 1) da_nil)))) (da_cons de_int (da_cons de_int da_nil)))))), fun i cs hp => ?_⟩
  obtain ⟨ns, hn⟩ := i
  cases hp
  simp only [sp__law_cooper]
  walk_at "dl"
  rw [cutD_to _ (by decide), show (60 : Int).toNat = 60 from rfl, ← List.map_take]
  refine ⟨by have := sizeLine_eq; simp; omega, ?_⟩
  refine lcP_i (lc_map (fun d => d) (hW := trivial) _ _ (fun d hd => ?_) ?_)
  · obtain ⟨n, hn, rfl⟩ := List.mem_map.mp hd
    refine ⟨_, rfl, fun R h => ?_⟩
    walk_at "dl"
    exact h
  · walk_at "dl"
    refine ⟨ns.take 60, by simp; omega, ?_⟩
    simp [svc, Function.comp_def]
end
section
abbrev sp_is_integer : FSpec := { ι := Int, args := fun i => [.int i], pre := fun _ _ => True, res := fun i cs d cs' => d = .bl true ∧ cs' = cs }
theorem calm_is_integer : Calm sp_is_integer := ⟨fun _ _ _ _ h => h⟩
set_option maxHeartbeats 4000000 in
theorem ok_is_integer (T : Txt w K mg) : FnG P w K mg base CX0 1 T.f_is_integer T.d_is_integer ["value"] (dSp K sp_is_integer) := by
  refine dfun T.F_is_integer sc_is_integer (fun _ => rfl) fun cdv A outer s H E hr => ⟨_, (dss_one (ds_ret (de_and (de_callB cd_isi T.z_isinstance (by decide +kernel) (da_cons (dv 0) (da_cons (de_bltn (D.ty "int") (v := .ty "int") (by rfl) T.z_int (by decide +kernel) rfl (fun _ => rfl)) da_nil))) (de_one (de_not (de_callB cd_isi T.z_isinstance (by decide +kernel) (da_cons (dv 0) (da_cons (de_bltn (D.ty "bool") (v := .ty "bool") (by rfl) T.z_bool (by decide +kernel) rfl (fun _ => rfl)) da_nil)))))))), fun i cs hp => ?_⟩
  simp only [sp_is_integer]
  walk_at "dl"
end
section
abbrev sp_is_within : FSpec := { ι := Int × Option Int × Option Int, args := fun i => [.int i.1, oD i.2.1, oD i.2.2], pre := fun i _ => (∀ a, i.2.1 = some a → a ≤ i.1) ∧ (∀ b, i.2.2 = some b → i.1 ≤ b), res := fun i cs d cs' => d = .bl true ∧ cs' = cs }
theorem is_within_i {v a b : Int} {cs : Sto} {Q : PD} {z : Lz (sp_is_within, Q)} (h1 : a ≤ v) (h2 : v ≤ b) (q : Q (.bl true) cs) : callP sp_is_within [.int v, .int a, .int b] cs Q z := callP_i (v, some a, some b) rfl ⟨fun _ e => by cases e; exact h1, fun _ e => by cases e; exact h2⟩ fun _ _ ⟨e1, e2⟩ => by subst e1; subst e2; exact q
theorem is_within0_i {v a : Int} {cs : Sto} {Q : PD} {z : Lz (sp_is_within, Q)} (h1 : a ≤ v) (q : Q (.bl true) cs) : callP sp_is_within [.int v, .int a, .non] cs Q z := callP_i (v, some a, none) rfl ⟨fun _ e => by cases e; exact h1, fun _ e => by cases e⟩ fun _ _ ⟨e1, e2⟩ => by subst e1; subst e2; exact q
theorem calm_is_within : Calm sp_is_within := ⟨fun _ _ _ _ h => h⟩
set_option maxHeartbeats 4000000 in
theorem ok_is_within (T : Txt w K mg) : FnG P w K mg base CX0 2 T.f_is_within T.d_is_within ["value", "least", "most"] (dSp K sp_is_within) := by
  refine dfun T.F_is_within sc_is_within (fun _ => rfl) fun cdv A outer s H E hr => ⟨_, (dss_cons (ds_if (dt_not (dt_tru (de_call calm_is_integer (ok_is_integer T) (hr.mono (by decide)) T.m_is_integer T.F_is_integer.kp T.b_is_integer (da_cons (dv 0) da_nil)))) (dss_one (ds_ret de_bl)) dss_nil)
      (dss_one (ds_ret (de_and (de_or (de_cmp opd_is (dv 1) de_non) (de_one (de_cmp opd_le (dv 1) (dv 0)))) (de_one (de_or (de_cmp opd_is (dv 2) de_non) (de_one (de_cmp opd_le (dv 0) (dv 2))))))))), fun i cs hp => ?_⟩
  obtain ⟨v, lo, hi⟩ := i
  obtain ⟨h1, h2⟩ := hp
  have h1 : ∀ a, lo = some a → a ≤ v := h1
  have h2 : ∀ b, hi = some b → v ≤ b := h2
  simp only [sp_is_within] at *
  cases lo with
  | none =>
    cases hi with
    | none =>
      simp only [oD]
      walk_at "dl"
      refine callP_i v rfl trivial ?_
      rintro _ _ ⟨rfl, rfl⟩
      walk_at "dl"
    | some b =>
      simp only [oD]
      walk_at "dl"
      refine callP_i v rfl trivial ?_
      rintro _ _ ⟨rfl, rfl⟩
      walk_at "dl"
      simp only [eq_true (h2 b rfl), decide_true]
  | some a =>
    cases hi with
    | none =>
      simp only [oD]
      walk_at "dl"
      refine callP_i v rfl trivial ?_
      rintro _ _ ⟨rfl, rfl⟩
      walk_at "dl"
      simp only [eq_true (h1 a rfl), decide_true]
      walk_at "dl"
    | some b =>
      simp only [oD]
      walk_at "dl"
      refine callP_i v rfl trivial ?_
      rintro _ _ ⟨rfl, rfl⟩
      walk_at "dl"
      simp only [eq_true (h1 a rfl)]
      walk_at "dl"
      simp only [eq_true (h2 b rfl), decide_true]
end
section
local macro_rules | `(tactic| walk_at "k") => `(tactic| refine is_within_i (by omega) (by omega) ?_)
local macro_rules | `(tactic| walk_at "k") => `(tactic| refine is_within0_i (by omega) ?_)
abbrev sp_is_deed : FSpec := { ι := Deed × Nat, args := fun i => [i.1.d, .int i.2], pre := fun i cs => i.1.ok i.2 ∧ i.2 ≤ 8, res := fun i cs d cs' => d = .bl true ∧ cs' = cs }
theorem is_deed_i {x : Deed} {n : Nat} {cs : Sto} {Q : PD} {z : Lz (sp_is_deed, Q)} (h2 : x.ok n) (h3 : n ≤ 8) (q : Q (.bl true) cs) : callP sp_is_deed [x.d, .int n] cs Q z := callP_i (x, n) rfl ⟨h2, h3⟩ fun _ _ ⟨e1, e2⟩ => by subst e1; subst e2; exact q
theorem calm_is_deed : Calm sp_is_deed := ⟨fun _ _ _ _ h => h⟩
set_option maxHeartbeats 4000000 in
theorem ok_is_deed (T : Txt w K mg) : FnG P w K mg base CX0 3 T.f_is_deed T.d_is_deed ["value", "wires"] (dSp K sp_is_deed) := by
  refine dfun T.F_is_deed sc_is_deed (fun _ => rfl) fun cdv A outer s H E hr => ⟨_, (dss_cons (ds_if (dt_of (dw_or (dt_not (dt_tru (de_callB cd_isi T.z_isinstance (by decide +kernel) (da_cons (dv 0) (da_cons (de_tup (da_cons (de_bltn (D.ty "list") (v := .ty "list") (by rfl) T.z_list (by decide +kernel) rfl (fun _ => rfl)) (da_cons (de_bltn (D.ty "tuple") (v := .ty "tuple") (by rfl) T.z_tuple (by decide +kernel) rfl (fun _ => rfl)) da_nil))) da_nil))))) (dw_or (dt_cmp (opd_eq hr.r.units) (de_callB cd_len T.z_len (by decide +kernel) (da_cons (dv 0) da_nil)) de_int) (dw_or1 (dt_not (dt_tru (de_callB cd_isi T.z_isinstance (by decide +kernel) (da_cons (de_ix (dv 0) de_int) (da_cons (de_bltn (D.ty "str") (v := .ty "str") (by rfl) T.z_str (by decide +kernel) rfl (fun _ => rfl)) da_nil))))))))) (dss_one (ds_ret de_bl)) dss_nil)
      (dss_cons (ds_par (i := 3) (j := 4) rfl sc_is_deed.nd (da_cons (de_kget T.k_WIRES_IN (de_ix (dv 0) de_int) de_int) (da_cons (de_cmp (opd_eq hr.r.units) (de_ix (dv 0) de_int) de_str) da_nil)))
      (dss_cons (ds_if (dt_of (dw_or (dt_cmp (opd_eq hr.r.units) (dv 3) de_int) (dw_or1 (dt_cmp (opd_ne hr.r.units) (de_callB cd_len T.z_len (by decide +kernel) (da_cons (dv 0) da_nil)) (de_op opd_add (de_op opd_add de_int (dv 3)) (de_callT cd_int T.z_int (by decide +kernel) (da_cons (dv 4) da_nil))))))) (dss_one (ds_ret de_bl)) dss_nil)
      (dss_cons (ds_set (i := 2) sc_is_deed.nd (de_slice (dv 0) (dp_some de_int) (dp_some (de_op opd_add de_int (dv 3)))))
      (dss_cons (ds_if (dt_of (dw_or (dt_not (dt_tru (de_callB (cd_all rfl) T.z_all (by decide +kernel) (da_cons (de_lc (own := [("wire", 5)]) rfl sc_is_deed.nd (di_seq (dv 2)) (blkOk_by (own := [("wire", 5)]) (N := N_is_deed) (sc := defScope s_is_deed) (by decide +kernel)) (fun _ _ _ _ _ => (dg_nm 5 sc_is_deed.nd)) (fun _ _ _ _ _ => dts_nil) (fun _ _ _ _ _ => (de_call calm_is_within (ok_is_within T) (hr.mono (by decide)) T.m_is_within T.F_is_within.kp T.b_is_within (da_cons (dv 5) (da_cons de_int (da_cons (de_op opd_sub (dv 1) de_int) da_nil)))))) da_nil)))) (dw_or1 (dt_cmp opd_lt (de_lenSet rfl T.z_len T.z_set (dv 2)) (dv 3))))) (dss_one (ds_ret de_bl)) dss_nil)
      (dss_one (ds_ret (de_or (de_not (dv 4)) (de_one (de_call calm_is_within (ok_is_within T) (hr.mono (by decide)) T.m_is_within T.F_is_within.kp T.b_is_within (da_cons (de_ix (dv 0) de_int) (da_cons de_int (da_cons de_int da_nil))))))))))))), fun i cs hp => ?_⟩
  obtain ⟨x, n⟩ := i
  obtain ⟨h2, h3⟩ : x.ok n ∧ n ≤ 8 := hp
  have hz := Deed.ds_len h2
  have hw := x.w.n_le
  have hl : (x.ds.length : Int) = 1 + (x.w.n : Int) + (if x.w = .turn then 1 else 0) := by
    rw [hz]
    split <;> simp
  have i0 : atI x.ds 0 = some (.str x.w.s) := atI_zero _ _
  have e1 : decide ((x.ds.length : Int) = 1 + (x.w.n : Int) + (if decide (x.w = .turn) = true then 1 else 0)) = true := by
    rw [decide_eq_true_eq, hl]
    by_cases hb : x.w = .turn <;> simp [hb]
  have hne : decide ((x.ds.length : Int) = 0) = false := decide_eq_false (by rw [hz]; omega)
  have e0 : decide ((x.w.n : Int) = 0) = false := decide_eq_false (by omega)
  have ei := Deed.its h2
  have ew : ∀ a ∈ x.ws, (0 : Int) ≤ (a : Int) ∧ (a : Int) ≤ (n : Int) - 1 := fun a ha => by
    have := h2.lt a ha
    omega
  simp only [Deed.d]
  repeat (first | walk_at "dl" | simp only [i0, hne, e0, e1, ei])
  have hz1 : (nT x.ws).length ≤ sizeLine := by rw [nT_len, h2.len, sizeLine_eq]; omega
  refine ⟨hz1, lc_mp x.ws (fun a : Nat => D.int a) (fun _ => .bl true) trivial (fun a ha => ⟨_, rfl, fun R q => ?_⟩) ?_⟩
  · walk_at "dl"
    exact is_within_i (ew a ha).1 (ew a ha).2 q
  have hd : dnum (x.ws.map fun n : Nat => (n : Int)) = x.w.n := by rw [dnum_nodup (nodup_cast h2.nd), List.length_map, h2.len]
  have hd2 : decide ((x.w.n : Int) < (x.w.n : Int)) = false := decide_eq_false (by omega)
  repeat (first | walk_at "dl" | simp only [ei, bls_tr, all_tr, nums_nT, hd, hd2] | refine And.intro (by rw [h2.len]; omega : x.ws.length < 60) ?_)
  have ht := h2.t
  by_cases hb : x.w = .turn
  · rw [if_pos hb] at ht
    have i2 : atI x.ds 2 = some (.int x.t) := by
      have h1 := h2.len
      rw [hb] at h1
      obtain ⟨a, ea⟩ : ∃ a, x.ws = [a] := List.length_eq_one_iff.mp h1
      unfold Deed.ds Deed.tl
      rw [ea, if_pos hb]
      exact atI_2 _ _ _ _
    simp only [hb, decide_true]
    repeat (first | walk_at "dl" | simp only [i2])
    exact is_within_i (by omega) (by omega) ⟨rfl, rfl⟩
  · simp only [hb, decide_false]
    walk_at "dl"
    simp only [hb, decide_false, Bool.not_false, and_self]
end
section
local macro_rules | `(tactic| walk_at "k") => `(tactic| refine is_within_i (by omega) (by omega) ?_)
local macro_rules | `(tactic| walk_at "k") => `(tactic| refine is_within0_i (by omega) ?_)
abbrev sp_Program___init__ (c : Cs) : FSpec := { ι := (Nat × Nat) × List Deed × Bool, args := fun i => [.cell i.1.1, .int i.1.2, dsD i.2.1 i.2.2], pre := fun i cs => cs[i.1.1]? = some (.ins c.Program []) ∧ 1 ≤ i.1.2 ∧ i.1.2 ≤ 8 ∧ (∀ x ∈ i.2.1, x.ok i.1.2) ∧ i.2.1.length ≤ 200, res := fun i cs d cs' => d = .non ∧ cs' = cs.set i.1.1 (.ins c.Program [("wires", .int i.1.2), ("deeds", .tup (dL i.2.1))]) }
theorem okFs_prog (m n : Nat) (xs : List Deed) : okFs m [("wires", .int n), ("deeds", .tup (dL xs))] := by
  simp only [okFs, okD, and_true, true_and]
  exact okDs_deeds m xs
theorem mkProg_b {c : Cs} {n : Nat} {xs : List Deed} (t : Bool) {cs : Sto} {Q : PD} {z : Lz (sp_Program___init__ c, Q)} (h2 : 1 ≤ n) (h3 : n ≤ 8) (h4 : ∀ x ∈ xs, x.ok n) (h5 : xs.length ≤ 200) (q : Q (progD c.Program n xs) cs) :
    mkFP c.Program (sp_Program___init__ c) [.int n, dsD xs t] cs Q z := mkFP_i ((cs.length, n), xs, t) rfl ⟨by simp, h2, h3, h4, h5⟩ fun d cs' ⟨e1, e2⟩ => ⟨e1, cs, _, by rw [e2]; simp, rfl, okFs_prog _ _ _, id, q⟩
theorem mkProg_i {c : Cs} {n : Nat} {xs : List Deed} {cs : Sto} {Q : PD} {z : Lz (sp_Program___init__ c, Q)} (h2 : 1 ≤ n) (h3 : n ≤ 8) (h4 : ∀ x ∈ xs, x.ok n) (h5 : xs.length ≤ 200) (q : Q (progD c.Program n xs) cs) :
    mkFP c.Program (sp_Program___init__ c) [.int n, .lst (dL xs)] cs Q z := mkProg_b false h2 h3 h4 h5 q
theorem mkProg_t {c : Cs} {n : Nat} {xs : List Deed} {cs : Sto} {Q : PD} {z : Lz (sp_Program___init__ c, Q)} (h2 : 1 ≤ n) (h3 : n ≤ 8) (h4 : ∀ x ∈ xs, x.ok n) (h5 : xs.length ≤ 200) (q : Q (progD c.Program n xs) cs) :
    mkFP c.Program (sp_Program___init__ c) [.int n, .tup (dL xs)] cs Q z := mkProg_b true h2 h3 h4 h5 q
theorem calm_Program___init__ (c : Cs) : Calm (sp_Program___init__ c) := ⟨fun _ _ _ _ h => h⟩
set_option maxHeartbeats 4000000 in
theorem ok_Program___init__ (T : Txt w K mg) : FnG P w K mg base CX0 4 T.f_Program___init__ T.d_Program___init__ ["self", "wires", "deeds"] (dSp K (sp_Program___init__ T.cs)) := by
  refine dfun T.F_Program___init__ sc_Program___init__ (fun _ => rfl) fun cdv A outer s H E hr => ⟨_, (dss_cons (ds_if (dt_not (dt_tru (de_call calm_is_within (ok_is_within T) (hr.mono (by decide)) T.m_is_within T.F_is_within.kp T.b_is_within (da_cons (dv 1) (da_cons de_int (da_cons (T.k_MOST_WIRES.de rfl) da_nil)))))) (dss_one ds_never) dss_nil)
      (dss_cons (ds_if (dt_of (dw_or (dt_not (dt_tru (de_callB cd_isi T.z_isinstance (by decide +kernel) (da_cons (dv 2) (da_cons (de_tup (da_cons (de_bltn (D.ty "list") (v := .ty "list") (by rfl) T.z_list (by decide +kernel) rfl (fun _ => rfl)) (da_cons (de_bltn (D.ty "tuple") (v := .ty "tuple") (by rfl) T.z_tuple (by decide +kernel) rfl (fun _ => rfl)) da_nil))) da_nil))))) (dw_or1 (dt_cmp opd_gt (de_callB cd_len T.z_len (by decide +kernel) (da_cons (dv 2) da_nil)) (T.k_MOST_DEEDS.de rfl))))) (dss_one ds_never) dss_nil)
      (dss_cons (ds_if (dt_not (dt_tru (de_callB (cd_all rfl) T.z_all (by decide +kernel) (da_cons (de_lc (own := [("each", 3)]) rfl sc_Program___init__.nd (di_seq (dv 2)) (blkOk_by (own := [("each", 3)]) (N := N_Program___init__) (sc := defScope s_Program___init__) (by decide +kernel)) (fun _ _ _ _ _ => (dg_nm 3 sc_Program___init__.nd)) (fun _ _ _ _ _ => dts_nil) (fun _ _ _ _ _ => (de_call calm_is_deed (ok_is_deed T) (hr.mono (by decide)) T.m_is_deed T.F_is_deed.kp T.b_is_deed (da_cons (dv 3) (da_cons (dv 1) da_nil))))) da_nil)))) (dss_one ds_never) dss_nil)
      (dss_cons (ds_fld T.c_Program.cl T.n_Program_wires (dv 1) (dv 0))
      (dss_one (ds_fld T.c_Program.cl T.n_Program_deeds (de_callT cd_tup T.z_tuple (by decide +kernel) (da_cons (de_lc (own := [("each", 3)]) rfl sc_Program___init__.nd (di_seq (dv 2)) (blkOk_by (own := [("each", 3)]) (N := N_Program___init__) (sc := defScope s_Program___init__) (by decide +kernel)) (fun _ _ _ _ _ => (dg_nm 3 sc_Program___init__.nd)) (fun _ _ _ _ _ => dts_nil) (fun _ _ _ _ _ => (de_callT cd_tup T.z_tuple (by decide +kernel) (da_cons (dv 3) da_nil)))) da_nil)) (dv 0))))))), fun i cs hp => ?_⟩
  obtain ⟨⟨j, n⟩, xs, t⟩ := i
  obtain ⟨h1, h2, h3, h4, h5⟩ : cs[j]? = some (.ins T.cs.Program []) ∧ 1 ≤ n ∧ n ≤ 8 ∧ (∀ x ∈ xs, x.ok n) ∧ xs.length ≤ 200 := hp
  have hA := insA_get h1
  have hz : (dL xs).length ≤ sizeLine := by rw [dL, List.length_map, sizeLine_eq]; omega
  have hz2 : decide ((200 : Int) < ((dL xs).length : Int)) = false := decide_eq_false (by rw [dL, List.length_map]; omega)
  have hj : j < cs.length := (List.getElem?_eq_some_iff.mp h1).1
  have hA2 : ∀ fs, insA (cs.set j (.ins T.cs.Program fs)) j = some (T.cs.Program, fs) := fun fs => insA_get (List.getElem?_set_self hj)
  have hP : ∀ x y : D, putD "deeds" y (putD "wires" x []) = ([("wires", x), ("deeds", y)] : List (Str × D)) := fun x y => rfl
  have hL : ∀ x : D, (putD "wires" x []).length < 1000 := fun x => (by show (1 : Nat) < 1000; decide)
  cases t
  all_goals
    simp only [dsD]
    walk_at "dl"
    refine is_within_i (by omega) (by omega) ?_
    repeat (first | walk_at "dl" | simp only [hz2])
    refine ⟨hz, lc_mp xs Deed.d (fun _ => .bl true) trivial (fun x hx => ⟨_, rfl, fun R q => ?_⟩) ?_⟩
    · walk_at "dl"
      exact is_deed_i (h4 x hx) h3 q
    repeat (first | walk_at "dl" | simp only [bls_tr, all_tr, hA])
    refine ⟨hz, lc_mp xs Deed.d Deed.d trivial (fun x hx => ⟨_, rfl, fun R q => ?_⟩) ?_⟩
    · simp only [Deed.d] at q ⊢
      walk_at "dl"
      exact q
    walk_at "dl"
    simp only [hA2]
    walk_at "dl"
    rw [hP]
    exact ⟨hL _, rfl⟩
end
section
abbrev sp__law_plus : FSpec := { ι := Am × Am, args := fun i => [i.1.t, i.2.t], pre := fun _ _ => True, res := fun i cs d cs' => d = (i.1.add i.2).t ∧ cs' = cs }
theorem lplus_i {x y : Am} {cs : Sto} {Q : PD} {z : Lz (sp__law_plus, Q)} (q : Q (x.add y).t cs) : callP sp__law_plus [x.t, y.t] cs Q z := callP_i (x, y) rfl trivial fun _ _ ⟨e1, e2⟩ => by subst e1; subst e2; exact q
theorem calm__law_plus : Calm sp__law_plus := ⟨fun _ _ _ _ h => h⟩
set_option maxHeartbeats 4000000 in
theorem ok__law_plus (T : Txt w K mg) : FnG P w K mg base CX0 1 T.f__law_plus T.d__law_plus ["_law_one_here", "_law_other"] (dSp K sp__law_plus) := by
  refine dfun T.F__law_plus sc__law_plus (fun _ => rfl) fun cdv A outer s H E hr => ⟨_, (dss_one (ds_ret (de_tup (da_cons (de_op opd_add (de_ix (dv 0) de_int) (de_ix (dv 1) de_int)) (da_cons (de_op opd_add (de_ix (dv 0) de_int) (de_ix (dv 1) de_int)) (da_cons (de_op opd_add (de_ix (dv 0) de_int) (de_ix (dv 1) de_int)) (da_cons (de_op opd_add (de_ix (dv 0) de_int) (de_ix (dv 1) de_int)) da_nil))))))), fun i cs hp => ?_⟩
  obtain ⟨x, y⟩ := i
  simp only [sp__law_plus, Am.t, Am.ds]
  walk_at "dl"
  rfl
end
section
abbrev sp__law_spun : FSpec := { ι := Am × Int, args := fun i => [i.1.t, .int i.2], pre := fun i _ => 0 ≤ i.2 ∧ i.2 < 1000, res := fun i cs d cs' => d = (Am.tn (i.2 % 8).toNat i.1).t ∧ cs' = cs }
theorem lspun_i {x : Am} {n : Int} {cs : Sto} {Q : PD} {z : Lz (sp__law_spun, Q)} (b0 : 0 ≤ n) (b1 : n < 1000) (q : Q (Am.tn (n % 8).toNat x).t cs) : callP sp__law_spun [x.t, .int n] cs Q z := callP_i (x, n) rfl ⟨b0, b1⟩ fun _ _ ⟨e1, e2⟩ => by subst e1; subst e2; exact q
theorem calm__law_spun : Calm sp__law_spun := ⟨fun _ _ _ _ h => h⟩
set_option maxHeartbeats 4000000 in
theorem ok__law_spun (T : Txt w K mg) : FnG P w K mg base CX0 1 T.f__law_spun T.d__law_spun ["_law_amount", "_law_turn"] (dSp K sp__law_spun) := by
  refine dfun T.F__law_spun sc__law_spun (fun _ => rfl) fun cdv A outer s H E hr => ⟨_, (dss_cons (ds_set (i := 2) sc__law_spun.nd (dv 0))
      (dss_cons (ds_for PassesOwn.never rfl (di_range1 T.z_range (da_cons (de_op opd_mod (de_callT cd_int T.z_int (by decide +kernel) (da_cons (dv 1) da_nil)) de_int) da_nil)) (dg_nm 3 sc__law_spun.nd) (dss_one (ds_set (i := 2) sc__law_spun.nd (de_tup (da_cons (de_un und_neg (de_ix (dv 2) de_int)) (da_cons (de_ix (dv 2) de_int) (da_cons (de_ix (dv 2) de_int) (da_cons (de_ix (dv 2) de_int) da_nil))))))))
      (dss_one (ds_ret (dv 2))))), fun i cs hp => ?_⟩
  obtain ⟨x, n⟩ := i
  obtain ⟨h0, h1⟩ : 0 ≤ n ∧ n < 1000 := hp
  walk_at "dl"
  refine ⟨by omega, forP_i (for_inv (fun k env cs' => (∃ o, env = [some x.t, some (.int n), some (Am.tn k x).t, o]) ∧ cs' = cs) _ _ _ ⟨⟨_, rfl⟩, rfl⟩ (fun _ _ _ _ => trivial) ?_ ?_)⟩
  · rintro k d _ _ hd ⟨⟨o, rfl⟩, rfl⟩
    refine ⟨_, rfl, fun E' hn _ _ _ => ?_⟩
    simp only [Am.t, Am.ds]
    walk_at "dl"
    exact hn _ _ ⟨⟨_, rfl⟩, rfl⟩
  · rintro _ _ ⟨⟨o, rfl⟩, rfl⟩
    walk_at "dl"
    rw [rngD_len]
end
section
abbrev sp__law_times : FSpec := { ι := MB, args := fun i => [i.x.t, i.y.t], pre := fun i _ => i.ok, res := fun i cs d cs' => d = (i.x.mul i.y).t ∧ cs' = cs }
theorem ltimes_i {x y : Am} {n m : Nat} {cs : Sto} {Q : PD} {z : Lz (sp__law_times, Q)} (b1 : x.B n) (b2 : y.B m) (l : n + m ≤ 900000) (q : Q (x.mul y).t cs) : callP sp__law_times [x.t, y.t] cs Q z := callP_i ⟨x, y, n, m⟩ rfl ⟨b1, b2, l⟩ fun _ _ ⟨e1, e2⟩ => by subst e1; subst e2; exact q
theorem calm__law_times : Calm sp__law_times := ⟨fun _ _ _ _ h => h⟩
set_option maxHeartbeats 4000000 in
theorem ok__law_times (T : Txt w K mg) : FnG P w K mg base CX0 2 T.f__law_times T.d__law_times ["_law_one_here", "_law_other"] (dSp K sp__law_times) := by
  refine dfunT T.F__law_times sc__law_times (fun _ => rfl) fun cdv A outer s H E hr => ⟨_, (dss_cons (ds_set (i := 2) sc__law_times.nd (de_tup (da_cons de_int (da_cons de_int (da_cons de_int (da_cons de_int da_nil))))))
      (dss_cons (ds_for PassesOwn.never rfl (di_range1 T.z_range (da_cons de_int da_nil)) (dg_nm 3 sc__law_times.nd) (dss_one (ds_set (i := 2) sc__law_times.nd (de_call calm__law_plus (ok__law_plus T) (hr.mono (by decide)) T.m__law_plus T.F__law_plus.kp T.b__law_plus (da_cons (dv 2) (da_cons (de_callT cd_tup T.z_tuple (by decide +kernel) (da_cons (de_lc (own := [("_law_number", 4)]) rfl sc__law_times.nd (di_seq (de_call calm__law_spun (ok__law_spun T) (hr.mono (by decide)) T.m__law_spun T.F__law_spun.kp T.b__law_spun (da_cons (dv 1) (da_cons (dv 3) da_nil)))) (blkOk_by (own := [("_law_number", 4)]) (N := N__law_times) (sc := defScope s__law_times) (by decide +kernel)) (fun _ _ _ _ _ => (dg_nm 4 sc__law_times.nd)) (fun _ _ _ _ _ => dts_nil) (fun _ _ _ _ _ => (de_op opd_mul (de_ix (dv 0) (dv 3)) (dv 4)))) da_nil)) da_nil))))))
      (dss_one (ds_ret (dv 2))))), fun i cs hk hp => ?_⟩
  obtain ⟨x, y, n, m⟩ := i
  obtain ⟨bx, by', l⟩ : x.B n ∧ y.B m ∧ n + m ≤ 900000 := hp
  have k1 : ∀ u : Int, Bd n u → ∀ v, Bd m v → cMul u v := fun u hu v hv => hu.ok hv l
  walk_at "dlu"
  have t0 := by'.tn ((0 : Int) % 8).toNat
  refine lspun_i (x := y) (by decide) (by decide) ?_
  simp only [Am.t, Am.ds]
  repeat (first | walk_at "dlu" | refine And.intro (by first | exact k1 _ bx.a _ t0.a | exact k1 _ bx.a _ t0.b | exact k1 _ bx.a _ t0.c | exact k1 _ bx.a _ t0.d) ?_)
  refine lplus_i (x := ⟨_, _, _, _⟩) (y := ⟨_, _, _, _⟩) ?_
  walk_at "dlu"
  have t1 := by'.tn ((1 : Int) % 8).toNat
  refine lspun_i (x := y) (by decide) (by decide) ?_
  simp only [Am.t, Am.ds]
  repeat (first | walk_at "dlu" | refine And.intro (by first | exact k1 _ bx.b _ t1.a | exact k1 _ bx.b _ t1.b | exact k1 _ bx.b _ t1.c | exact k1 _ bx.b _ t1.d) ?_)
  refine lplus_i (x := ⟨_, _, _, _⟩) (y := ⟨_, _, _, _⟩) ?_
  walk_at "dlu"
  have t2 := by'.tn ((2 : Int) % 8).toNat
  refine lspun_i (x := y) (by decide) (by decide) ?_
  simp only [Am.t, Am.ds]
  repeat (first | walk_at "dlu" | refine And.intro (by first | exact k1 _ bx.c _ t2.a | exact k1 _ bx.c _ t2.b | exact k1 _ bx.c _ t2.c | exact k1 _ bx.c _ t2.d) ?_)
  refine lplus_i (x := ⟨_, _, _, _⟩) (y := ⟨_, _, _, _⟩) ?_
  walk_at "dlu"
  have t3 := by'.tn ((3 : Int) % 8).toNat
  refine lspun_i (x := y) (by decide) (by decide) ?_
  simp only [Am.t, Am.ds]
  repeat (first | walk_at "dlu" | refine And.intro (by first | exact k1 _ bx.d _ t3.a | exact k1 _ bx.d _ t3.b | exact k1 _ bx.d _ t3.c | exact k1 _ bx.d _ t3.d) ?_)
  refine lplus_i (x := ⟨_, _, _, _⟩) (y := ⟨_, _, _, _⟩) ?_
  walk_at "dlu"
  refine .inl ⟨congrArg Am.t (Am.ext' ?_ ?_ ?_ ?_), rfl⟩
  all_goals
    simp only [Am.add, Am.tn, Am.tn1, Am.mul]
    grind
end
section
abbrev sp__law_plain : FSpec := { ι := (D × Spr) × Nat × Nat, args := fun i => [i.1.1], pre := fun i cs => seqOf cs i.1.1 = some (sT i.1.2) ∧ i.1.2.W i.2.1 ∧ SB i.2.2 i.1.2 ∧ i.2.2 ≤ 1000, res := fun i cs d cs' => d = .tup (sT (plainL i.1.2)) ∧ cs' = cs }
theorem lplain_i {d : D} {xs : Spr} {n m : Nat} {cs : Sto} {Q : PD} {z : Lz (sp__law_plain, Q)} (h : seqOf cs d = some (sT xs)) (w : xs.W n) (b : SB m xs) (l : m ≤ 1000) (q : Q (.tup (sT (plainL xs))) cs) : callP sp__law_plain [d] cs Q z := callP_i ((d, xs), n, m) rfl ⟨h, w, b, l⟩ fun _ _ ⟨e1, e2⟩ => by subst e1; subst e2; exact q
theorem calm__law_plain : Calm sp__law_plain := ⟨fun _ _ _ _ h => h⟩
set_option maxHeartbeats 4000000 in
theorem ok__law_plain (T : Txt w K mg) : FnG P w K mg base CX0 3 T.f__law_plain T.d__law_plain ["_law_spread_here"] (dSp K sp__law_plain) := by
  refine dfun T.F__law_plain sc__law_plain (fun _ => rfl) fun cdv A outer s H E hr => ⟨_, (dss_cons (ds_pat (dg_tp rfl (dgs_cons (dg_nm 3 sc__law_plain.nd) (dgs_cons (dg_nm 4 sc__law_plain.nd) (dgs_cons (dg_nm 5 sc__law_plain.nd) (dgs_cons (dg_nm 6 sc__law_plain.nd) dgs_nil))))) (de_ix (de_lc (own := [("_law_amount", 2)]) rfl sc__law_plain.nd (di_seq (dv 0)) (blkOk_by (own := [("_law_amount", 2)]) (N := N__law_plain) (sc := defScope s__law_plain) (by decide +kernel)) (fun _ _ _ _ _ => (dg_nm 2 sc__law_plain.nd)) (fun _ _ _ _ _ => (dts_one (dt_tru (de_callB (cd_anyI rfl) T.z_any (by decide +kernel) (da_cons (dv 2) da_nil))))) (fun _ _ _ _ _ => (dv 2))) de_int))
      (dss_cons (ds_set (i := 1) sc__law_plain.nd (de_call calm__law_times (ok__law_times T) (hr.mono (by decide)) T.m__law_times T.F__law_times.kp T.b__law_times (da_cons (de_call calm__law_times (ok__law_times T) (hr.mono (by decide)) T.m__law_times T.F__law_times.kp T.b__law_times (da_cons (de_tup (da_cons (dv 3) (da_cons (de_un und_neg (dv 6)) (da_cons (de_un und_neg (dv 5)) (da_cons (de_un und_neg (dv 4)) da_nil))))) (da_cons (de_tup (da_cons (dv 3) (da_cons (de_un und_neg (dv 4)) (da_cons (dv 5) (da_cons (de_un und_neg (dv 6)) da_nil))))) da_nil))) (da_cons (de_tup (da_cons (dv 3) (da_cons (dv 6) (da_cons (de_un und_neg (dv 5)) (da_cons (dv 4) da_nil))))) da_nil))))
      (dss_cons (ds_pat (dg_tp rfl (dgs_cons (dg_nm 7 sc__law_plain.nd) (dgs_cons (dg_nm 8 sc__law_plain.nd) dgs_nil))) (de_tup (da_cons (de_lc (own := [("_law_amount", 2)]) rfl sc__law_plain.nd (di_seq (dv 0)) (blkOk_by (own := [("_law_amount", 2)]) (N := N__law_plain) (sc := defScope s__law_plain) (by decide +kernel)) (fun _ _ _ _ _ => (dg_nm 2 sc__law_plain.nd)) (fun _ _ _ _ _ => dts_nil) (fun _ _ _ _ _ => (de_call calm__law_times (ok__law_times T) (hr.mono (by decide)) T.m__law_times T.F__law_times.kp T.b__law_times (da_cons (dv 2) (da_cons (dv 1) da_nil))))) (da_cons de_int da_nil))))
      (dss_cons (ds_for PassesOwn.never rfl (di_seq (dv 7)) (dg_nm 2 sc__law_plain.nd) (dss_one (ds_for PassesOwn.never rfl (di_seq (dv 2)) (dg_nm 9 sc__law_plain.nd) (dss_cons (ds_par (i := 10) (j := 11) rfl sc__law_plain.nd (da_cons (dv 8) (da_cons (de_callB cd_abs T.z_abs (by decide +kernel) (da_cons (dv 9) da_nil)) da_nil)))
      (dss_cons (ds_while PassesOwn.never (dt_cmp opd_gt (dv 11) de_int) (dss_one (ds_par (i := 10) (j := 11) rfl sc__law_plain.nd (da_cons (dv 11) (da_cons (de_op opd_mod (de_callT cd_int T.z_int (by decide +kernel) (da_cons (dv 10) da_nil)) (dv 11)) da_nil)))))
      (dss_one (ds_set (i := 8) sc__law_plain.nd (dv 10))))))))
      (dss_one (ds_ret (de_callT cd_tup T.z_tuple (by decide +kernel) (da_cons (de_lc (own := [("_law_amount", 2)]) rfl sc__law_plain.nd (di_seq (dv 7)) (blkOk_by (own := [("_law_amount", 2)]) (N := N__law_plain) (sc := defScope s__law_plain) (by decide +kernel)) (fun _ _ _ _ _ => (dg_nm 2 sc__law_plain.nd)) (fun _ _ _ _ _ => dts_nil) (fun _ _ _ _ _ => (de_callT cd_tup T.z_tuple (by decide +kernel) (da_cons (de_lc (own := [("_law_number", 9)]) rfl sc__law_plain.nd (di_seq (dv 2)) (blkOk_by (own := [("_law_number", 9)]) (N := N__law_plain) (by kernel_rfl)) (fun _ _ _ _ _ => (dg_nm 9 sc__law_plain.nd)) (fun _ _ _ _ _ => dts_nil) (fun _ _ _ _ _ => (de_op opd_fdiv (dv 9) (dv 8)))) da_nil)))) da_nil)))))))), fun i cs hp => ?_⟩
  obtain ⟨⟨d, xs⟩, n, m⟩ := i
  obtain ⟨h, hw, hb, hm⟩ : seqOf cs d = some (sT xs) ∧ xs.W n ∧ SB m xs ∧ m ≤ 1000 := hp
  obtain ⟨W, hW, hWw⟩ := seqI_seq h
  have hz : (sT xs).length ≤ sizeLine := by
    have := hw.le
    rw [sT, List.length_map, sizeLine_eq]
    omega
  obtain ⟨f1, f2, f3⟩ := fz_mem hw.nz
  walk_at "dl"
  simp only [hW]
  walk_at "dl"
  refine ⟨hz, lc_sTf Am.nz Am.t hWw xs (fun x hx => ?_) ?_⟩
  · refine ⟨_, rfl, fun R q => ?_, fun _ R q => ?_⟩
    · simp only [Am.t, Am.ds] at q ⊢
      walk_at "dl"
      exact q
    · walk_at "dl"
      exact q
  have h0 : atI ((xs.filter Am.nz).map Am.t) 0 = some (fzL xs).t := by
    have := DL.atI_nat ((xs.filter Am.nz).map Am.t) 0
    rw [List.getElem?_map, f3] at this
    exact this
  walk_at "dl"
  simp only [h0]
  generalize hf : fzL xs = f at *
  simp only [Am.t, Am.ds]
  walk_at "dl"
  have bf := hb _ f1
  refine ltimes_i (x := ⟨f.a, -f.d, -f.c, -f.b⟩) (y := ⟨f.a, -f.b, f.c, -f.d⟩) (n := m) (m := m) ⟨bf.a, bf.d.neg, bf.c.neg, bf.b.neg⟩ ⟨bf.a, bf.b.neg, bf.c, bf.d.neg⟩ (by omega) ?_
  walk_at "dl"
  refine ltimes_i (y := ⟨f.a, f.d, -f.c, f.b⟩) (n := m + m + 3) (m := m) (Am.B.mul (x := ⟨f.a, -f.d, -f.c, -f.b⟩) (y := ⟨f.a, -f.b, f.c, -f.d⟩) ⟨bf.a, bf.d.neg, bf.c.neg, bf.b.neg⟩ ⟨bf.a, bf.b.neg, bf.c, bf.d.neg⟩) ⟨bf.a, bf.d, bf.c.neg, bf.b⟩ (by omega) ?_
  have eo : (Am.mul (Am.mul ⟨f.a, -f.d, -f.c, -f.b⟩ ⟨f.a, -f.b, f.c, -f.d⟩) ⟨f.a, f.d, -f.c, f.b⟩) = f.oth := by
    show (f.mir.mul ⟨f.a, -f.b, f.c, -f.d⟩).mul ⟨f.a, f.d, -f.c, f.b⟩ = (Am.mul ⟨f.a, f.d, -f.c, f.b⟩ ⟨f.a, -f.b, f.c, -f.d⟩).mul f.mir
    rw [Am.mul_assoc, Am.mul_comm _ f.mir]
    congr 1
    exact Am.mul_comm _ _
  rw [eo]
  walk_at "dl"
  simp only [hW]
  walk_at "dl"
  have hbo := bf.oth
  have hbb : SB (m + (m + m + 3 + m + 3) + 3) (byL xs) := fun y hy => by
    obtain ⟨x, hx, rfl⟩ := List.mem_map.mp hy
    rw [hf]
    exact (hb x hx).mul hbo
  refine ⟨hz, lc_sT (fun x => (x.mul f.oth).t) hWw xs (fun x hx => ?_) ?_⟩
  · refine ⟨_, rfl, fun R q => ?_⟩
    walk_at "dl"
    refine ltimes_i (hb x hx) hbo (by omega) ?_
    exact q
  have e1 : xs.map (fun x => (x.mul f.oth).t) = sT (byL xs) := by
    rw [sT, byL, List.map_map, hf]
    rfl
  simp only [e1]
  obtain ⟨g0, g1⟩ := by_pos hw.nz hbb
  have hz2 : (sT (byL xs)).length ≤ sizeLine := by
    rw [sT, List.length_map, byL, List.length_map]
    rw [sT, List.length_map] at hz
    exact hz
  have c1 : ∀ i : Int, CDivW i (gS 0 (byL xs) : Nat) := fun i => by
    refine ⟨by omega, ?_⟩
    rw [Int.natAbs_natCast]
    have : (gS 0 (byL xs)).log2 < m + (m + m + 3 + m + 3) + 3 := by
      rw [Nat.log2_lt (by omega)]
      exact g1
    omega
  have ep : plainL xs = (byL xs).map (Am.dv (gS 0 (byL xs) : Nat)) := rfl
  rw [ep]
  clear ep e1
  generalize byL xs = ys at *
  walk_at "dl"
  refine forP_i (for_inv (fun k env S => (∃ o2 o9 o10 o11, env = [some d, some f.oth.t, o2, some (.int f.a), some (.int f.b), some (.int f.c), some (.int f.d), some (.lst (sT ys)), some (.int (gS 0 (ys.take k) : Nat)), o9, o10, o11]) ∧ cs = S) _ _ _ ⟨⟨_, _, _, _, rfl⟩, rfl⟩ (fun _ _ _ _ => trivial) ?_ ?_)
  · rintro k e _ _ he ⟨⟨o2, o9, o10, o11, rfl⟩, rfl⟩
    obtain ⟨x, hx, rfl⟩ := sT_get he
    refine ⟨_, rfl, fun E' hn _ _ _ => ?_⟩
    walk_at "dl"
    refine forP_i (for_inv (fun j env S => (∃ o9 o10 o11, env = [some d, some f.oth.t, some (.tup x.ds), some (.int f.a), some (.int f.b), some (.int f.c), some (.int f.d), some (.lst (sT ys)), some (.int (gL (gS 0 (ys.take k)) ([x.a, x.b, x.c, x.d].take j) : Nat)), o9, o10, o11]) ∧ cs = S) _ _ _ ⟨⟨_, _, _, rfl⟩, rfl⟩ (fun _ _ _ _ => trivial) ?_ ?_)
    · rintro j e _ _ hj ⟨⟨o9, o10, o11, rfl⟩, rfl⟩
      obtain ⟨v, hv, rfl⟩ : ∃ v : Int, [x.a, x.b, x.c, x.d][j]? = some v ∧ e = .int v := by
        have hj' : ([x.a, x.b, x.c, x.d].map D.int)[j]? = some e := hj
        rw [List.getElem?_map] at hj'
        obtain ⟨v, h1, h2⟩ := Option.map_eq_some_iff.mp hj'
        exact ⟨v, h1, h2.symm⟩
      have hg := gL_app (gS 0 (ys.take k)) ([x.a, x.b, x.c, x.d].take j) v
      rw [← take_succ' hv] at hg
      refine ⟨_, rfl, fun E2 hn2 _ _ _ => ?_⟩
      have habs : (if v < 0 then -v else v) = ((v.natAbs : Nat) : Int) := by
        split <;> omega
      walk_at "dl"
      rw [habs]
      generalize gL (gS 0 (ys.take k)) ([x.a, x.b, x.c, x.d].take j) = g at *
      refine while_inv (fun k' env S => (∃ m : Nat, Nat.gcd m k' = Nat.gcd g v.natAbs ∧ env = [some d, some f.oth.t, some (.tup x.ds), some (.int f.a), some (.int f.b), some (.int f.c), some (.int f.d), some (.lst (sT ys)), some (.int (g : Nat)), some (.int v), some (.int (m : Nat)), some (.int (k' : Nat))]) ∧ cs = S) (k := v.natAbs) ⟨⟨g, rfl, rfl⟩, rfl⟩ ?_
      rintro k' _ _ ⟨⟨m, hm, rfl⟩, rfl⟩ E3 hx3 _ _ _
      walk_at "dl"
      refine cond2_d (fun hb => ?_) (fun hb => ?_)
      · have hk : 0 < k' := by omega
        walk_at "dlh"
        refine hx3 (m % k') _ _ (Nat.mod_lt _ hk) ⟨⟨k', by rw [← hm, Nat.gcd_comm k', ← Nat.gcd_rec, Nat.gcd_comm], ?_⟩, rfl⟩
        rw [Int.natCast_emod]
      · have hk : k' = 0 := by omega
        subst hk
        rw [Nat.gcd_zero_right] at hm
        subst hm
        walk_at "dl"
        exact hn2 _ _ ⟨⟨_, _, _, by rw [hg]⟩, rfl⟩
    · rintro _ _ ⟨⟨o9, o10, o11, rfl⟩, rfl⟩
      have hS : gS 0 (ys.take (k + 1)) = gL (gS 0 (ys.take k)) [x.a, x.b, x.c, x.d] := by rw [take_succ' hx, gS_app]
      exact hn _ _ ⟨⟨some (.tup x.ds), o9, o10, o11, by rw [hS]; rfl⟩, rfl⟩
  · rintro _ _ ⟨⟨o2, o9, o10, o11, rfl⟩, rfl⟩
    have e : ys.take (sT ys).length = ys := by rw [sT, List.length_map, List.take_length]
    rw [e]
    walk_at "dl"
    refine ⟨hz2, lc_sT (fun x => (x.dv (gS 0 ys : Nat)).t) trivial ys (fun x hx => ?_) ?_⟩
    · refine ⟨_, rfl, fun R q => ?_⟩
      simp only [Am.t, Am.ds] at q ⊢
      walk_at "dlu"
      exact ⟨c1 _, c1 _, c1 _, c1 _, q⟩
    have e2 : ys.map (fun x => (x.dv (gS 0 ys : Nat)).t) = sT (ys.map (Am.dv (gS 0 ys : Nat))) := by
      rw [sT, List.map_map]
      rfl
    simp only [e2]
    walk_at "dl"
end
section
abbrev sp__law_hoop : FSpec := { ι := LI, args := fun l => [.cell l.i, .int l.many], pre := fun l cs => SvN l.i l.n cs ∧ 0 < l.many ∧ l.many < 2 ^ 64 ∧ l.n ≤ 100000, res := fun l cs d cs' => ∃ r, d = .int r ∧ 0 ≤ r ∧ r < l.many ∧ Mv l.i (l.n + 1) cs cs' }
theorem ladle_i {j n : Nat} {m : Int} {cs : Sto} {Q : PD} {z : Lz (sp__law_hoop, Q)} (h1 : SvN j n cs) (h2 : 0 < m) (h3 : m < 2 ^ 64) (h4 : n ≤ 100000) (q : ∀ r cs', 0 ≤ r → r < m → Mv j (n + 1) cs cs' → Q (.int r) cs') : callP sp__law_hoop [.cell j, .int m] cs Q z :=
  callP_i ⟨j, m, n⟩ rfl ⟨h1, h2, h3, h4⟩ fun d cs' ⟨r, e, a, b, mv⟩ => by subst e; exact q r cs' a b mv
theorem calm__law_hoop : Calm sp__law_hoop := ⟨fun _ _ _ _ h => h⟩
set_option maxHeartbeats 4000000 in
theorem ok__law_hoop (T : Txt w K mg) : FnG P w K mg base CX0 1 T.f__law_hoop T.d__law_hoop ["_law_cooper_here", "_law_many"] (dSp K sp__law_hoop) := by
  refine dfun T.F__law_hoop sc__law_hoop (fun _ => rfl) fun cdv A outer s H E hr => ⟨_, (dss_cons (ds_if (dt_cmp opd_gt (de_ix (dv 0) de_int) de_int) (dss_cons (ds_set (i := 5) sc__law_hoop.nd (de_callT cd_int T.z_int (by decide +kernel) (da_cons (de_ix (dv 0) de_int) da_nil)))
      (dss_cons (ds_store (de_op opd_fdiv (dv 5) (dv 1)) (dv 0) de_int)
      (dss_one (ds_ret (de_op opd_mod (de_callT cd_int T.z_int (by decide +kernel) (da_cons (dv 5) da_nil)) (dv 1)))))) dss_nil)
      (dss_cons (ds_set (i := 2) sc__law_hoop.nd (de_ix (dv 0) de_int))
      (dss_cons (ds_store (de_op opd_add (dv 2) de_int) (dv 0) de_int)
      (dss_cons (ds_set (i := 3) sc__law_hoop.nd (de_op opd_add (de_op opd_mul de_int (dv 2)) de_int))
      (dss_cons (ds_if (dt_cmp (opd_ne hr.r.units) (de_ix (dv 0) de_int) (de_lst da_nil)) (dss_one (ds_set (i := 3) sc__law_hoop.nd (de_ix (de_ix (dv 0) de_int) (de_op opd_mod (de_callT cd_int T.z_int (by decide +kernel) (da_cons (dv 2) da_nil)) (de_callB cd_len T.z_len (by decide +kernel) (da_cons (de_ix (dv 0) de_int) da_nil)))))) dss_nil)
      (dss_cons (ds_if (dt_of (dw_and (dt_cmp opd_lt (dv 2) (de_callB cd_len T.z_len (by decide +kernel) (da_cons (de_ix (dv 0) de_int) da_nil))) (dw_and1 (dt_cmp opd_ge (de_callB cd_abs T.z_abs (by decide +kernel) (da_cons (dv 3) da_nil)) (de_op opd_pow de_int de_int))))) (dss_cons (ds_set (i := 5) sc__law_hoop.nd (de_op opd_add (de_op opd_mul de_int (de_op opd_sub (de_callB cd_abs T.z_abs (by decide +kernel) (da_cons (de_callT cd_int T.z_int (by decide +kernel) (da_cons (dv 3) da_nil)) da_nil)) (de_op opd_pow de_int de_int))) (de_callT cd_int T.z_int (by decide +kernel) (da_cons (de_cmp opd_lt (dv 3) de_int) da_nil))))
      (dss_cons (ds_store (de_op opd_fdiv (dv 5) (dv 1)) (dv 0) de_int)
      (dss_one (ds_ret (de_op opd_mod (de_callT cd_int T.z_int (by decide +kernel) (da_cons (dv 5) da_nil)) (dv 1)))))) dss_nil)
      (dss_cons (ds_set (i := 4) sc__law_hoop.nd (de_op opd_mod (de_callT cd_int T.z_int (by decide +kernel) (da_cons (de_op opd_pow (de_op opd_add (de_op opd_add (de_op opd_mod (de_callT cd_int T.z_int (by decide +kernel) (da_cons (dv 3) da_nil)) de_int) (de_op opd_mul de_int (dv 2))) de_int) de_int) da_nil)) de_int))
      (dss_cons (ds_set (i := 4) sc__law_hoop.nd (de_op opd_mod (de_callT cd_int T.z_int (by decide +kernel) (da_cons (de_op opd_pow (de_op opd_add (de_op opd_add (de_op opd_mul (dv 4) (de_op opd_add (de_op opd_mul de_int (dv 2)) de_int)) (de_op opd_mul (de_op opd_mul de_int (dv 2)) (dv 2))) de_int) de_int) da_nil)) de_int))
      (dss_one (ds_ret (de_op opd_mod (de_callT cd_int T.z_int (by decide +kernel) (da_cons (de_op opd_fdiv (dv 4) de_int) da_nil)) (dv 1)))))))))))), fun i cs hp => ?_⟩
  obtain ⟨j, many, n⟩ := i
  obtain ⟨⟨ns, k, r, hc, k0, k1, hl⟩, m0, m1, hn⟩ := hp
  have hj : j < cs.length := (List.getElem?_eq_some_iff.mp hc).1
  have hL : lstAt cs j = some [.lst (ns.map .int), .int k, .int r] := lstAt_get hc
  have m2 : many < 18446744073709551616 := by have m1' : many < 2 ^ 64 := m1; omega
  have k2 : k ≤ 100000 := by have hn' : n ≤ 100000 := hn; have k1' : k ≤ (n : Int) := k1; omega
  have k3 : -18446744073709551616 < k := by omega
  have k4 : k < 18446744073709551616 := by omega
  have k5 : k ≤ (n : Int) := k1
  have k6 : k ≤ (n : Int) + 1 := by omega
  have k7 : k + 1 ≤ (n : Int) + 1 := by omega
  have k8 : 0 ≤ k + 1 := by omega
  have m4 : 0 < many := m0
  have fin : ∀ x k' r' : Int, 0 ≤ k' → k' ≤ (n : Int) + 1 → ∃ y, D.int (x % many) = D.int y ∧ 0 ≤ y ∧ y < many ∧ Mv j (n + 1) cs (cs.set j (svc ns k' r')) := fun x k' r' h1 h2 =>
    ⟨_, rfl, Int.emod_nonneg _ (by omega), Int.emod_lt_of_pos _ m4, Mv.set hj h1 h2 hl⟩
  clear hc m1 hn k1 m0
  walk_at "dlh"
  refine cond2_d (fun h => ?_) (fun h => ?_)
  · walk_at "dlh"
    exact fin _ _ _ k0 k6
  walk_at "dlh"
  refine cond2_i (fun hb => ?_) (fun hb => ?_)
  case' refine_1 =>
    have hb' : ns.isEmpty = false := by simpa using hb
    obtain ⟨x, hx⟩ := atI_mod hb' k0
    have hp := len_pos hb'
  all_goals
    walk_at "dlh"
    refine cond2_d (fun h1 => ?_) (fun h1 => ?_)
  case' refine_1.refine_1 =>
    walk_at "dlh"
    refine cond2_d (fun h2 => ?_) (fun h2 => ?_)
  case' refine_2.refine_1 =>
    walk_at "dlh"
    refine cond2_d (fun h2 => ?_) (fun h2 => ?_)
  all_goals walk_at "dlh"
  all_goals first
    | exact fin _ _ _ k8 k7
    | exact ⟨mix1 (by decide) (by decide) k0 (Int.le_trans k2 (by decide)) (by decide) (by decide) (by decide) (by decide) (by decide) (by decide), cMul_mod (by decide) (by decide), mix3 (by decide) (by decide) k0 (Int.le_trans k2 (by decide)) (by decide) (by decide) (by decide) (by decide) (by decide) (by decide) (by decide) (by decide) (by decide) (by decide), fin _ _ _ k8 k7⟩
end
section
structure LO where
  i : Nat
  ds : List D
  n : Nat
abbrev sp__law_one : FSpec := { ι := LO, args := fun l => [.cell l.i, .lst l.ds], pre := fun l cs => SvN l.i l.n cs ∧ 0 < l.ds.length ∧ l.ds.length < 1000000 ∧ l.n ≤ 100000, res := fun l cs d cs' => d ∈ l.ds ∧ Mv l.i (l.n + 1) cs cs' }
theorem one_i {j n : Nat} {ds : List D} {cs : Sto} {Q : PD} {z : Lz (sp__law_one, Q)} (h1 : SvN j n cs) (h2 : 0 < ds.length) (h3 : ds.length < 1000000) (h4 : n ≤ 100000) (q : ∀ d cs', d ∈ ds → Mv j (n + 1) cs cs' → Q d cs') : callP sp__law_one [.cell j, .lst ds] cs Q z :=
  callP_i ⟨j, ds, n⟩ rfl ⟨h1, h2, h3, h4⟩ fun d cs' ⟨hd, mv⟩ => q d cs' hd mv
theorem calm__law_one : Calm sp__law_one := ⟨fun _ _ _ _ h => h⟩
set_option maxHeartbeats 4000000 in
theorem ok__law_one (T : Txt w K mg) : FnG P w K mg base CX0 2 T.f__law_one T.d__law_one ["_law_cooper_here", "_law_some"] (dSp K sp__law_one) := by
  refine dfun T.F__law_one sc__law_one (fun _ => rfl) fun cdv A outer s H E hr => ⟨_, (dss_one (ds_ret (de_ix (dv 1) (de_call calm__law_hoop (ok__law_hoop T) (hr.mono (by decide)) T.m__law_hoop T.F__law_hoop.kp T.b__law_hoop (da_cons (dv 0) (da_cons (de_callB cd_len T.z_len (by decide +kernel) (da_cons (dv 1) da_nil)) da_nil)))))), fun i cs hp => ?_⟩
  obtain ⟨j, ds, n⟩ := i
  obtain ⟨h1, h2, h3, h4⟩ := hp
  have h2' : 0 < ds.length := h2
  have h3' : ds.length < 1000000 := h3
  walk_at "dl"
  refine callP_i ⟨j, ds.length, n⟩ rfl ⟨h1, by show (0 : Int) < ds.length; omega, by show (ds.length : Int) < 2 ^ 64; omega, h4⟩ ?_
  rintro _ cs' ⟨r, rfl, r0, r1, mv⟩
  obtain ⟨m, rfl⟩ := Int.eq_ofNat_of_zero_le r0
  have hm : m < ds.length := by
    have r1' : (m : Int) < ds.length := r1
    omega
  walk_at "dl"
  simp only [DL.atI_nat, List.getElem?_eq_getElem hm]
  walk_at "dl"
  exact ⟨List.getElem_mem hm, mv⟩
end
section
abbrev sp__law_deed : FSpec := { ι := (Nat × Nat) × Nat, args := fun l => [.cell l.1.1, .int l.2], pre := fun l cs => SvN l.1.1 l.1.2 cs ∧ l.1.2 ≤ 90000 ∧ 1 ≤ l.2 ∧ l.2 ≤ 8, res := fun l cs d cs' => ∃ x : Deed, d = x.d ∧ x.ok l.2 ∧ Mv l.1.1 (l.1.2 + 5) cs cs' }
theorem ldeed_i {j n w : Nat} {cs : Sto} {Q : PD} {z : Lz (sp__law_deed, Q)} (h : SvN j n cs) (h2 : n ≤ 90000) (w1 : 1 ≤ w) (w8 : w ≤ 8) (q : ∀ (x : Deed) cs', x.ok w → Mv j (n + 5) cs cs' → Q x.d cs') : callP sp__law_deed [.cell j, .int w] cs Q z := callP_i ((j, n), w) rfl ⟨h, h2, w1, w8⟩ fun d cs' ⟨x, e1, e2, e3⟩ => by subst e1; exact q x cs' e2 e3
def WdP (w : Nat) (d : D) : Prop := ∃ v : Wd, d = .str v.s ∧ v.n ≤ w
theorem wdP_of {w : Nat} {l : List D} (h : ∀ x ∈ l, WdP w x) {d : D} (hd : d ∈ l) : WdP w d := h d hd
theorem calm__law_deed : Calm sp__law_deed := ⟨fun _ _ _ _ h => h⟩
set_option maxHeartbeats 4000000 in
theorem ok__law_deed (T : Txt w K mg) : FnG P w K mg base CX0 3 T.f__law_deed T.d__law_deed ["_law_cooper_here", "_law_wires"] (dSp K sp__law_deed) := by
  refine dfunT T.F__law_deed sc__law_deed (fun _ => rfl) fun cdv A outer s H E hr => ⟨_, (dss_cons (ds_par (i := 6) (j := 7) rfl sc__law_deed.nd (da_cons (de_celRg1 rfl T.z_list T.z_range (dv 1)) (da_cons (de_cel da_nil) da_nil)))
      (dss_cons (ds_set (i := 2) sc__law_deed.nd (de_op opd_add (de_lst (da_cons de_str (da_cons de_str (da_cons de_str (da_cons de_str (da_cons de_str da_nil)))))) (de_op opd_mul (de_lst (da_cons de_str (da_cons de_str (da_cons de_str (da_cons de_str (da_cons de_str da_nil)))))) (de_callT cd_int T.z_int (by decide +kernel) (da_cons (de_cmp opd_gt (dv 1) de_int) da_nil)))))
      (dss_cons (ds_set (i := 3) sc__law_deed.nd (de_call calm__law_one (ok__law_one T) (hr.mono (by decide)) T.m__law_one T.F__law_one.kp T.b__law_one (da_cons (dv 0) (da_cons (de_op opd_add (dv 2) (de_op opd_mul (de_lst (da_cons de_str da_nil)) (de_callT cd_int T.z_int (by decide +kernel) (da_cons (de_cmp opd_gt (dv 1) de_int) da_nil)))) da_nil))))
      (dss_cons (ds_set (i := 4) sc__law_deed.nd (de_mt (md_dget (hu_of hr.r)) PySem.F.plainAttrs_dict PySem.F.slot_dict_get PySem.F.type_dict_get (de_dic (dpr_cons de_str de_int (dpr_cons de_str de_int (dpr_cons de_str de_int (dpr_cons de_str de_int dpr_nil))))) (da_cons (dv 3) (da_cons de_int da_nil))))
      (dss_cons (ds_for PassesOwn.never rfl (di_range1 T.z_range (da_cons (dv 4) da_nil)) (dg_nm 5 sc__law_deed.nd) (dss_one (ds_expr (de_append (dv 7) (da_cons (de_mt md_popAt PySem.F.plainAttrs_list PySem.F.slot_list_pop PySem.F.type_list_pop (dv 6) (da_cons (de_call calm__law_hoop (ok__law_hoop T) (hr.mono (by decide)) T.m__law_hoop T.F__law_hoop.kp T.b__law_hoop (da_cons (dv 0) (da_cons (de_callB cd_len T.z_len (by decide +kernel) (da_cons (dv 6) da_nil)) da_nil))) da_nil)) da_nil)))))
      (dss_one (ds_ret (de_op opd_add (de_op opd_add (de_tup (da_cons (dv 3) da_nil)) (de_callT cd_tup T.z_tuple (by decide +kernel) (da_cons (dv 7) da_nil))) (de_if (dt_cmp (opd_eq hr.r.units) (dv 3) de_str) (de_tup (da_cons (de_op opd_add de_int (de_call calm__law_hoop (ok__law_hoop T) (hr.mono (by decide)) T.m__law_hoop T.F__law_hoop.kp T.b__law_hoop (da_cons (dv 0) (da_cons de_int da_nil)))) da_nil)) (de_tup da_nil)))))))))), fun i cs hk hp => ?_⟩
  obtain ⟨⟨j, n⟩, w⟩ := i
  obtain ⟨hs, hn, w1, w8⟩ : SvN j n cs ∧ n ≤ 90000 ∧ 1 ≤ w ∧ w ≤ 8 := hp
  have hj := svn_lt hs
  have hR : RgOk 0 (w : Int) = True := RgOk_nat (by omega)
  have e0 : rngD 0 w = nT (List.range w) := by
    unfold rngD nT
    refine List.map_congr_left fun i _ => ?_
    rw [Int.zero_add]
  have hlr : (nT (List.range w)).length ≤ sizeLine := by rw [nT_len, List.length_range, sizeLine_eq]; omega
  walk_at "dl"
  have hc : (1 < w ∧ 2 < w) ∨ (1 < w ∧ ¬ 2 < w) ∨ (¬ 1 < w ∧ ¬ 2 < w) := by omega
  have d1 : decide ((1 : Int) < (w : Int)) = decide (1 < w) := by
    by_cases h : 1 < w
    · rw [decide_eq_true h, decide_eq_true (by omega)]
    · rw [decide_eq_false h, decide_eq_false (by omega)]
  have d2 : decide ((2 : Int) < (w : Int)) = decide (2 < w) := by
    by_cases h : 2 < w
    · rw [decide_eq_true h, decide_eq_true (by omega)]
    · rw [decide_eq_false h, decide_eq_false (by omega)]
  rcases hc with ⟨h1, h2⟩ | ⟨h1, h2⟩ | ⟨h1, h2⟩
  all_goals
    repeat (first | walk_at "dl" | simp only [hR, e0, d1, d2, h1, h2, decide_true, decide_false, List.replicate_succ, List.replicate_zero, Int.toNat_one, Int.toNat_zero, List.flatten_cons, List.flatten_nil])
    refine one_i (n := n) (svn_app (svn_app hs)) (by simp) (by simp) (by omega) fun d cs1 hd mvS => ?_
    have hW : WdP w d := wdP_of (by
      repeat' first | exact List.forall_mem_nil _ | refine List.forall_mem_cons.mpr ⟨?_, ?_⟩
      all_goals first | exact ⟨.turn, rfl, by show 1 ≤ w; omega⟩ | exact ⟨.mix, rfl, by show 1 ≤ w; omega⟩ | exact ⟨.no, rfl, by show 1 ≤ w; omega⟩ | exact ⟨.sign, rfl, by show 2 ≤ w; omega⟩ | exact ⟨.under, rfl, by show 2 ≤ w; omega⟩ | exact ⟨.swap, rfl, by show 2 ≤ w; omega⟩ | exact ⟨.both, rfl, by show 3 ≤ w; omega⟩) hd
    obtain ⟨v, rfl, hv⟩ := hW
    obtain ⟨cs2, rfl, mv2⟩ := mv_app2 hj mvS
    have hl2 : cs.length = cs2.length := mv2.len.symm
    have hRv : RgOk 0 (v.n : Int) = True := RgOk_nat (by omega)
    have hv3 := v.n_le
    have hj2 := svn_lt mv2.sv
    repeat (first | walk_at "dl" | simp only [hRv])
    clear hd
    refine ⟨by decide, by omega, ?_⟩
    rw [app_len]
    generalize some (D.lst _) = o2
    refine forP_i (for_inv (fun k env S => ∃ (o5 : Option D) (lf fd : List Nat) (S1 : Sto), env = [some (.cell j), some (.int w), o2, some (.str v.s), some (.int v.n), o5, some (.cell cs.length), some (.cell (cs.length + 1))] ∧ S = S1 ++ [.lst (nT lf)] ++ [.lst (nT fd)] ∧ fd.length = k ∧ (fd ++ lf).Perm (List.range w) ∧ Mv j (n + 1 + k) cs S1) _ _ _ ⟨_, List.range w, [], cs2, rfl, rfl, rfl, by simp, mv2⟩ (fun _ _ _ _ => trivial) ?_ ?_)
    · rintro k e _ _ he ⟨o5, lf, fd, S1, rfl, rfl, hfd, hperm, mv4⟩
      have hk3 : k < v.n := by
        have := (List.getElem?_eq_some_iff.mp he).1
        rwa [rngD_len] at this
      have hlw := hperm.length_eq
      rw [List.length_append, List.length_range] at hlw
      have hlS : cs.length = S1.length := mv4.len.symm
      have hnl : (nT lf).length = lf.length := nT_len lf
      refine ⟨_, rfl, fun E' hn2 _ _ _ => ?_⟩
      rw [hlS]
      repeat (first | walk_at "dl" | simp only [lstAt_app2, lstAt_app1s, Option.isSome_some, hnl])
      refine ladle_i (n := n + 1 + k) (svn_app2 mv4.sv) (by omega) (by omega) (by omega) fun rl S2 r0 r1 mv5 => ?_
      obtain ⟨S3, rfl, mv3⟩ := mv_app2 (svn_lt mv4.sv) mv5
      obtain ⟨r, rfl⟩ := Int.eq_ofNat_of_zero_le r0
      have hrl : r < lf.length := by omega
      have hlen3 : S1.length = S3.length := mv3.len.symm
      have sx : seqIndex? (r : Int) lf.length = some r := by
        have := seqIx (i := (r : Int)) (n := lf.length) (by omega) (by omega)
        rwa [Int.toNat_natCast] at this
      have gx : (nT lf)[r]? = some (.int (lf[r] : Nat)) := by
        rw [nT, List.getElem?_map, List.getElem?_eq_getElem hrl]
        rfl
      have ex := nT_erase lf r
      have px := perm_pop hperm hrl
      have hbd : -9223372036854775808 ≤ (r : Int) ∧ (r : Int) < 9223372036854775808 := by omega
      rw [hlen3]
      have hsz : (nT fd).length < sizeLine := by
        rw [nT_len, sizeLine_eq]
        omega
      repeat (first | walk_at "dl" | simp only [lstAt_app2, lstAt_app1s, set_app2, set_app1s, hnl, sx, gx, ex, Option.isSome_some] | refine ⟨hbd, ?_⟩ | refine ⟨hsz, ?_⟩)
      rw [hlS, hlen3] at hn2
      refine hn2 _ _ ⟨_, lf.eraseIdx r, fd ++ [lf[r]], S3, rfl, ?_, by rw [List.length_append, hfd]; rfl, px, (mv4.trans mv3).mono (by omega)⟩
      rw [← nT_app]
      rfl
    · rintro _ _ ⟨o5, lf, fd, S1, rfl, rfl, hfd, hperm, mv4⟩
      rw [rngD_len] at hfd mv4
      have hlS : cs.length = S1.length := mv4.len.symm
      have hnd : fd.Nodup := ((hperm.nodup_iff.mpr List.nodup_range).sublist (List.sublist_append_left _ _))
      have hlt : ∀ a ∈ fd, a < w := fun a ha => List.mem_range.mp (hperm.mem_iff.mp (List.mem_append_left _ ha))
      rw [hlS]
      have hsf : (nT fd).length ≤ sizeLine := by rw [nT_len, sizeLine_eq]; omega
      repeat (first | walk_at "dl" | simp only [lstAt_app1s, hsf])
      have hsf2 : 1 + (nT fd).length ≤ sizeLine := by rw [nT_len, sizeLine_eq]; omega
      refine ⟨hsf2, cond2_d (fun hb => ?_) (fun hb => ?_)⟩
      · walk_at "dl"
        refine ladle_i (n := n + 1 + v.n) (svn_app2 mv4.sv) (by omega) (by omega) (by omega) fun rl S2 r0 r1 mv5 => ?_
        obtain ⟨S3, rfl, mv3⟩ := mv_app2 (svn_lt mv4.sv) mv5
        obtain ⟨r, rfl⟩ := Int.eq_ofNat_of_zero_le r0
        have hsf3 : (nT fd).length + 1 + 1 ≤ sizeLine := by rw [nT_len, sizeLine_eq]; omega
        repeat (first | walk_at "dl" | refine ⟨hsf3, ?_⟩)
        rw [← hlS, List.append_assoc]
        subst hb
        have e1 : D.tup (D.str (Wd.turn).s :: (nT fd ++ [D.int (1 + (r : Int))])) = Deed.d ⟨.turn, fd, 1 + r⟩ := by
          simp only [Deed.d, Deed.ds, Deed.tl, if_true]
          rw [Int.natCast_add]
          rfl
        rw [e1]
        refine trim_mv (mv4.trans mv3) hk (okD_deed _ _) ⟨_, rfl, ⟨hfd, hnd, hlt, ?_⟩, (mv4.trans mv3).mono (by have : (Wd.turn).n = 1 := rfl; omega)⟩
        rw [if_pos rfl]
        show 1 ≤ 1 + r ∧ 1 + r ≤ 7
        omega
      · have hsf3 : (nT fd).length + 1 ≤ sizeLine := by rw [nT_len, sizeLine_eq]; omega
        repeat (first | walk_at "dl" | refine ⟨hsf3, ?_⟩)
        rw [← hlS, List.append_assoc]
        have e1 : D.tup (D.str v.s :: nT fd) = Deed.d ⟨v, fd, 0⟩ := by
          simp only [Deed.d, Deed.ds, Deed.tl]
          rw [if_neg hb, List.append_nil]
        rw [e1]
        refine trim_mv mv4 hk (okD_deed _ _) ⟨_, rfl, ⟨hfd, hnd, hlt, ?_⟩, mv4.mono (by omega)⟩
        rw [if_neg hb]
end
section
abbrev sp__law_spread : FSpec := { ι := (Nat × Nat) × Nat, args := fun l => [.cell l.1.1, .int l.2], pre := fun l cs => SvN l.1.1 l.1.2 cs ∧ l.1.2 ≤ 90000 ∧ l.2 ≤ 5, res := fun l cs d cs' => ∃ xs : Spr, d = .lst (sT xs) ∧ xs.W l.2 ∧ SB 47 xs ∧ Mv l.1.1 (l.1.2 + 200) cs cs' }
theorem lspread_i {j n m : Nat} {cs : Sto} {Q : PD} {z : Lz (sp__law_spread, Q)} (h : SvN j n cs) (l : n ≤ 90000) (m2 : m ≤ 5) (q : ∀ (xs : Spr) (cs' : Sto), xs.W m → SB 47 xs → Mv j (n + 200) cs cs' → Q (.lst (sT xs)) cs') : callP sp__law_spread [.cell j, .int m] cs Q z := callP_i ((j, n), m) rfl ⟨h, l, m2⟩ fun d cs' ⟨xs, e1, e2, e3, e4⟩ => by subst e1; exact q xs cs' e2 e3 e4
theorem calm__law_spread : Calm sp__law_spread := ⟨fun _ _ _ _ h => h⟩
set_option maxHeartbeats 4000000 in
theorem ok__law_spread (T : Txt w K mg) : FnG P w K mg base CX0 3 T.f__law_spread T.d__law_spread ["_law_cooper_here", "_law_places"] (dSp K sp__law_spread) := by
  refine dfunT T.F__law_spread sc__law_spread (fun _ => rfl) fun cdv A outer s H E hr => ⟨_, (dss_cons (ds_pat (dg_tp rfl (dgs_cons (dg_nm 3 sc__law_spread.nd) (dgs_cons (dg_nm 4 sc__law_spread.nd) (dgs_cons (dg_nm 5 sc__law_spread.nd) dgs_nil)))) (de_tup (da_cons (de_cel da_nil) (da_cons (de_call calm__law_one (ok__law_one T) (hr.mono (by decide)) T.m__law_one T.F__law_one.kp T.b__law_one (da_cons (dv 0) (da_cons (de_lst (da_cons de_int (da_cons de_int (da_cons de_int (da_cons (de_op opd_pow de_int de_int) da_nil))))) da_nil))) (da_cons (de_op opd_add de_int (de_call calm__law_hoop (ok__law_hoop T) (hr.mono (by decide)) T.m__law_hoop T.F__law_hoop.kp T.b__law_hoop (da_cons (dv 0) (da_cons de_int da_nil)))) da_nil)))))
      (dss_cons (ds_for PassesOwn.never rfl (di_range1 T.z_range (da_cons (de_op opd_shl de_int (dv 1)) da_nil)) (dg_nm 2 sc__law_spread.nd) (dss_cons (ds_set (i := 6) sc__law_spread.nd (de_callT cd_tup T.z_tuple (by decide +kernel) (da_cons (de_lc (own := [("_law_place", 7)]) rfl sc__law_spread.nd (di_range1 T.z_range (da_cons de_int da_nil)) (blkOk_by (own := [("_law_place", 7)]) (N := N__law_spread) (sc := defScope s__law_spread) (by decide +kernel)) (fun _ _ _ _ _ => (dg_nm 7 sc__law_spread.nd)) (fun _ _ _ _ _ => dts_nil) (fun _ _ _ _ _ => (de_op opd_add (de_op opd_sub (de_call calm__law_hoop (ok__law_hoop T) (hr.mono (by decide)) T.m__law_hoop T.F__law_hoop.kp T.b__law_hoop (da_cons (dv 0) (da_cons (de_op opd_sub (de_op opd_mul de_int (dv 4)) de_int) da_nil))) (dv 4)) de_int))) da_nil)))
      (dss_one (ds_expr (de_append (dv 3) (da_cons (de_if (dt_cmp (opd_eq hr.r.units) (de_call calm__law_hoop (ok__law_hoop T) (hr.mono (by decide)) T.m__law_hoop T.F__law_hoop.kp T.b__law_hoop (da_cons (dv 0) (da_cons (dv 5) da_nil))) de_int) (dv 6) (de_tup (da_cons de_int (da_cons de_int (da_cons de_int (da_cons de_int da_nil)))))) da_nil))))))
      (dss_cons (ds_if (dt_not (dt_tru (de_callB (cd_any rfl) T.z_any (by decide +kernel) (da_cons (de_lc (own := [("_law_amount", 6)]) rfl sc__law_spread.nd (di_seq (dv 3)) (blkOk_by (own := [("_law_amount", 6)]) (N := N__law_spread) (sc := defScope s__law_spread) (by decide +kernel)) (fun _ _ _ _ _ => (dg_nm 6 sc__law_spread.nd)) (fun _ _ _ _ _ => dts_nil) (fun _ _ _ _ _ => (de_callB (cd_anyI rfl) T.z_any (by decide +kernel) (da_cons (dv 6) da_nil)))) da_nil)))) (dss_one (ds_store (de_tup (da_cons de_int (da_cons de_int (da_cons de_int (da_cons (de_un und_neg de_int) da_nil))))) (dv 3) (de_call calm__law_hoop (ok__law_hoop T) (hr.mono (by decide)) T.m__law_hoop T.F__law_hoop.kp T.b__law_hoop (da_cons (dv 0) (da_cons (de_callB cd_len T.z_len (by decide +kernel) (da_cons (dv 3) da_nil)) da_nil))))) dss_nil)
      (dss_frz 3 (dss_one (ds_ret (dv 3))))))), fun i cs hk hp => ?_⟩
  obtain ⟨⟨j, n⟩, m⟩ := i
  obtain ⟨h1, h2, m2⟩ : SvN j n cs ∧ n ≤ 90000 ∧ m ≤ 5 := hp
  have hj := svn_lt h1
  have c1 : CPow 1 (m : Int) = True := eq_true ⟨by omega, by omega, by decide⟩
  have hpm : 2 ^ m ≤ 32 := Nat.pow_le_pow_right (n := 2) (by decide) m2
  have hpp := Nat.two_pow_pos m
  have ep : (2 : Int) ^ m = ((2 ^ m : Nat) : Int) := (p2 m).symm
  have sb0 : SB 47 [] := fun x h => by cases h
  walk_at "dl"
  refine one_i (n := n) (svn_app h1) (by simp) (by simp) (by omega) fun d S hd mvS => ?_
  obtain ⟨cs1, rfl, mv1⟩ := mv_app hj mvS
  obtain ⟨most, rfl, q0, q1⟩ : ∃ q : Int, d = .int q ∧ 2 ≤ q ∧ q ≤ 100000000000000 := by
    simp only [List.mem_cons, List.not_mem_nil, or_false] at hd
    rcases hd with rfl | rfl | rfl | rfl
    · exact ⟨2, rfl, by decide, by decide⟩
    · exact ⟨4, rfl, by decide, by decide⟩
    · exact ⟨4, rfl, by decide, by decide⟩
    · exact ⟨100000000000000, rfl, by decide, by decide⟩
  walk_at "dl"
  refine ladle_i (n := n + 1) (svn_app mv1.sv) (by decide) (by decide) (by omega) fun fw S u0 u1 mvS => ?_
  obtain ⟨cs2, rfl, mv2⟩ := mv_app (svn_lt mv1.sv) mvS
  walk_at "dl"
  simp only [c1, Int.one_mul, ep]
  walk_at "dl"
  have z47 : Bd 47 0 := by unfold Bd; decide
  have b47 : ∀ r : Int, 0 ≤ r → r < 2 * most - 1 → Bd 47 (r - most + 1) := fun r h0 h1 => by
    unfold Bd
    omega
  have mvB := mv1.trans mv2
  refine ⟨by omega, forP_i (for_inv (fun k env S => ∃ (o2 o6 : Option D) (xs : Spr) (cs3 : Sto), env = [some (.cell j), some (.int m), o2, some (.cell cs.length), some (.int most), some (.int (1 + fw)), o6, none] ∧ S = cs3 ++ [.lst (sT xs)] ∧ xs.length = k ∧ SB 47 xs ∧ Mv j (n + 2 + 5 * k) cs cs3 ∧ k ≤ 2 ^ m) _ _ _ ⟨_, _, [], cs2, rfl, rfl, rfl, sb0, mvB, Nat.zero_le _⟩ (fun _ _ _ _ => trivial) ?_ ?_)⟩
  · rintro k d _ _ hd ⟨o2, o6, xs, cs3, rfl, rfl, hxl, hxb, mv3, _⟩
    obtain ⟨hk2, rfl⟩ := rngD_get hd
    refine ⟨_, rfl, fun E' hn _ _ _ => ?_⟩
    have hl3 := mv3.len
    have hj3 : j < cs3.length := by omega
    have sz : (sT xs).length < sizeLine := by
      rw [sT, List.length_map, sizeLine_eq]
      omega
    have fin : ∀ (o2 o6 : Option D) (x : Am) (cs7 : Sto), x.B 47 → Mv j (n + 2 + 5 * (k + 1)) cs cs7 → cs7.length = cs3.length → E'.nx [some (.cell j), some (.int m), o2, some (.cell cs3.length), some (.int most), some (.int (1 + fw)), o6, none] (cs7 ++ [.lst (sT xs ++ [x.t])]) := fun o2 o6 x cs7 hx mw hl7 =>
      hn _ _ ⟨o2, o6, xs ++ [x], cs7, by rw [hl3], by rw [sT, sT, List.map_append]; rfl, by rw [List.length_append, hxl]; rfl, fun y hy => by
        rcases List.mem_append.mp hy with hy | hy
        · exact hxb y hy
        · rw [List.mem_singleton.mp hy]; exact hx, mw, hk2⟩
    rw [← hl3]
    walk_at "dlu"
    refine ladle_i (n := n + 2 + 5 * k) (svn_app mv3.sv) (by omega) (by omega) (by omega) fun b S b0 b1 mvS => ?_
    obtain ⟨cs5, rfl, mv5⟩ := mv_app hj3 mvS
    walk_at "dlu"
    refine ladle_i (n := n + 2 + 5 * k + 1) (svn_app mv5.sv) (by omega) (by omega) (by omega) fun c S c0 c1 mvS => ?_
    obtain ⟨cs6, rfl, mv6⟩ := mv_app (svn_lt mv5.sv) mvS
    walk_at "dlu"
    refine ladle_i (n := n + 2 + 5 * k + 2) (svn_app mv6.sv) (by omega) (by omega) (by omega) fun e S e0 e1 mvS => ?_
    obtain ⟨cs7, rfl, mv7⟩ := mv_app (svn_lt mv6.sv) mvS
    walk_at "dlu"
    refine ladle_i (n := n + 2 + 5 * k + 3) (svn_app mv7.sv) (by omega) (by omega) (by omega) fun f S f0 f1 mvS => ?_
    obtain ⟨cs8, rfl, mv8⟩ := mv_app (svn_lt mv7.sv) mvS
    walk_at "dlu"
    have hl8 : cs8.length = cs3.length := by rw [mv8.len, mv7.len, mv6.len, mv5.len]
    rw [← hl8] at fin ⊢
    refine ⟨by rw [lstAt_app]; rfl, ladle_i (n := n + 2 + 5 * k + 4) (svn_app mv8.sv) (by omega) (by omega) (by omega) fun g S g0 g1 mvS => ?_⟩
    obtain ⟨cs9, rfl, mv9⟩ := mv_app (svn_lt mv8.sv) mvS
    have mw := ((((mv3.trans mv5).trans mv6).trans mv7).trans mv8).trans mv9
    have hl9 := mv9.len
    rw [← hl9] at fin ⊢
    walk_at "dlu"
    refine cond2_d (fun hu => ?_) (fun hu => ?_)
    · walk_at "dlu"
      exact ⟨sz, fin _ _ ⟨b - most + 1, c - most + 1, e - most + 1, f - most + 1⟩ cs9 ⟨b47 b b0 b1, b47 c c0 c1, b47 e e0 e1, b47 f f0 f1⟩ (mw.mono (by omega)) rfl⟩
    · walk_at "dlu"
      exact ⟨sz, fin _ _ ⟨0, 0, 0, 0⟩ cs9 ⟨z47, z47, z47, z47⟩ (mw.mono (by omega)) rfl⟩
  · rintro _ _ ⟨o2, o6, xs, cs3, rfl, rfl, hxl, hxb, mv3, _⟩
    rw [rngD_len] at hxl mv3
    have hl3 := mv3.len
    have szx : (sT xs).length ≤ sizeLine := by
      rw [sT, List.length_map, sizeLine_eq]
      omega
    rw [← hl3]
    walk_at "dl"
    refine ⟨szx, lc_sT (fun x => .bl x.nz) (show (cs3 ++ [CO.lst (sT xs)])[cs3.length]? = some (.lst (sT xs)) by simp) xs (fun x hx => ?_) ?_⟩
    · refine ⟨_, rfl, fun R q => ?_⟩
      walk_at "dl"
      simp only [Am.t, Am.ds] at q ⊢
      walk_at "dl"
      exact q
    have e1 : (xs.map fun x => D.bl x.nz) = (xs.map Am.nz).map D.bl := by rw [List.map_map]; rfl
    have hlx : (sT xs).length = xs.length := by rw [sT, List.length_map]
    have mvE : Mv j (n + 200) cs cs3 := mv3.mono (by omega)
    simp only [e1]
    repeat (first | walk_at "dl" | simp only [bls_map])
    cases hb : (xs.map Am.nz).any id with
    | true =>
      walk_at "dl"
      rw [hl3]
      exact trim_mv mvE hk (by simp only [okD]; exact okT xs) ⟨xs, rfl, ⟨hxl, by omega, hb⟩, hxb, mvE⟩
    | false =>
      repeat (first | walk_at "dl" | refine ⟨by rw [lstAt_app]; rfl, ?_⟩ | simp only [hlx])
      refine ladle_i (n := n + 2 + 5 * 2 ^ m) (svn_app mv3.sv) (by omega) (by omega) (by omega) fun r S r0 r1 mvS => ?_
      obtain ⟨cs4, rfl, mv4⟩ := mv_app (svn_lt mv3.sv) mvS
      obtain ⟨r, rfl⟩ := Int.eq_ofNat_of_zero_le r0
      have hr2 : r < xs.length := by omega
      have hl4 := mv4.len
      rw [← hl4]
      have sx : ixN (sT xs).length (r : Int) = some r := by rw [hlx]; exact ixN_nat hr2
      repeat (first | walk_at "dl" | simp only [sx])
      have e2 : (sT xs).set r (D.tup [D.int 0, D.int 1, D.int 0, D.int (-1)]) = sT (xs.set r ⟨0, 1, 0, -1⟩) := by
        rw [sT, sT, List.map_set]
        rfl
      have mvF : Mv j (n + 200) cs cs4 := (mv3.trans mv4).mono (by omega)
      rw [e2, hl4, hl3]
      refine trim_mv mvF hk (by simp only [okD]; exact okT _) ⟨_, rfl, ⟨by rw [List.length_set, hxl], by omega, ?_⟩, fun y hy => ?_, mvF⟩
      · rw [List.any_eq_true]
        refine ⟨true, ?_, rfl⟩
        exact List.mem_map.mpr ⟨⟨0, 1, 0, -1⟩, List.mem_set hr2 _, rfl⟩
      · rcases List.mem_or_eq_of_mem_set hy with h | rfl
        · exact hxb y h
        · have o1' : Bd 47 1 := by unfold Bd; decide
          have o2' : Bd 47 (-1) := by unfold Bd; decide
          exact ⟨z47, o1', z47, o2'⟩
end
section
abbrev sp__law_has : FSpec := { ι := Nat × Nat, args := fun i => [.int i.1, .int i.2], pre := fun _ _ => True, res := fun i cs d cs' => d = .bl (bt i.2 i.1) ∧ cs' = cs }
theorem lhas_i {a p : Nat} {cs : Sto} {Q : PD} {z : Lz (sp__law_has, Q)} (q : Q (.bl (bt p a)) cs) : callP sp__law_has [.int a, .int p] cs Q z := callP_i (a, p) rfl trivial fun _ _ ⟨e1, e2⟩ => by subst e1; subst e2; exact q
theorem calm__law_has : Calm sp__law_has := ⟨fun _ _ _ _ h => h⟩
set_option maxHeartbeats 4000000 in
theorem ok__law_has (T : Txt w K mg) : FnG P w K mg base CX0 1 T.f__law_has T.d__law_has ["_law_at", "_law_wire"] (dSp K sp__law_has) := by
  refine dfun T.F__law_has sc__law_has (fun _ => rfl) fun cdv A outer s H E hr => ⟨_, (dss_one (ds_ret (de_cmp (opd_eq hr.r.units) (de_op opd_mod (de_callT cd_int T.z_int (by decide +kernel) (da_cons (de_op opd_shr (dv 0) (dv 1)) da_nil)) de_int) de_int))), fun i cs hp => ?_⟩
  obtain ⟨a, p⟩ := i
  walk_at "dl"
  exact ⟨by omega, by rw [bt_int]⟩
end
section
abbrev sp__law_minus : FSpec := { ι := Am, args := fun i => [i.t], pre := fun _ _ => True, res := fun i cs d cs' => d = i.neg.t ∧ cs' = cs }
theorem lminus_i {x : Am} {cs : Sto} {Q : PD} {z : Lz (sp__law_minus, Q)} (q : Q x.neg.t cs) : callP sp__law_minus [x.t] cs Q z := callP_i x rfl trivial fun _ _ ⟨e1, e2⟩ => by subst e1; subst e2; exact q
theorem calm__law_minus : Calm sp__law_minus := ⟨fun _ _ _ _ h => h⟩
set_option maxHeartbeats 4000000 in
theorem ok__law_minus (T : Txt w K mg) : FnG P w K mg base CX0 1 T.f__law_minus T.d__law_minus ["_law_amount"] (dSp K sp__law_minus) := by
  refine dfun T.F__law_minus sc__law_minus (fun _ => rfl) fun cdv A outer s H E hr => ⟨_, (dss_one (ds_ret (de_tup (da_cons (de_un und_neg (de_ix (dv 0) de_int)) (da_cons (de_un und_neg (de_ix (dv 0) de_int)) (da_cons (de_un und_neg (de_ix (dv 0) de_int)) (da_cons (de_un und_neg (de_ix (dv 0) de_int)) da_nil))))))), fun i cs hp => ?_⟩
  simp only [sp__law_minus, Am.t, Am.ds]
  walk_at "dl"
  rfl
end
section
local macro_rules | `(tactic| walk_at "k") => `(tactic| refine lhas_i ?_)
abbrev sp__law_from : FSpec := { ι := (Nat × Deed) × Nat, args := fun i => [.int i.1.1, i.1.2.d], pre := fun i _ => i.1.2.ok i.2 ∧ i.2 ≤ 12 ∧ i.1.2.w ≠ .turn ∧ i.1.2.w ≠ .mix ∧ i.1.2.w ≠ .sign, res := fun i cs d cs' => d = .int (i.1.2.fr i.1.1 : Nat) ∧ cs' = cs }
theorem lfrom_i {k n : Nat} {x : Deed} {cs : Sto} {Q : PD} {z : Lz (sp__law_from, Q)} (h : x.ok n) (hn : n ≤ 12) (h1 : x.w ≠ .turn) (h2 : x.w ≠ .mix) (h3 : x.w ≠ .sign) (q : Q (.int (x.fr k : Nat)) cs) : callP sp__law_from [.int k, x.d] cs Q z := callP_i ((k, x), n) rfl ⟨h, hn, h1, h2, h3⟩ fun _ _ ⟨e1, e2⟩ => by subst e1; subst e2; exact q
theorem calm__law_from : Calm sp__law_from := ⟨fun _ _ _ _ h => h⟩
set_option maxHeartbeats 4000000 in
theorem ok__law_from (T : Txt w K mg) : FnG P w K mg base CX0 2 T.f__law_from T.d__law_from ["_law_at", "_law_deed_here"] (dSp K sp__law_from) := by
  refine dfun T.F__law_from sc__law_from (fun _ => rfl) fun cdv A outer s H E hr => ⟨_, (dss_cons (ds_par (i := 2) (j := 3) rfl sc__law_from.nd (da_cons (de_ix (dv 1) de_int) (da_cons (de_slice (dv 1) (dp_some de_int) dp_none) da_nil)))
      (dss_cons (ds_if (dt_cmp (opd_eq hr.r.units) (dv 2) de_str) (dss_one (ds_ret (de_if (dt_cmp (opd_eq hr.r.units) (de_call calm__law_has (ok__law_has T) (hr.mono (by decide)) T.m__law_has T.F__law_has.kp T.b__law_has (da_cons (dv 0) (da_cons (de_ix (dv 3) de_int) da_nil))) (de_call calm__law_has (ok__law_has T) (hr.mono (by decide)) T.m__law_has T.F__law_has.kp T.b__law_has (da_cons (dv 0) (da_cons (de_ix (dv 3) de_int) da_nil)))) (dv 0) (de_op opd_bxor (de_op opd_bxor (dv 0) (de_op opd_shl de_int (de_ix (dv 3) de_int))) (de_op opd_shl de_int (de_ix (dv 3) de_int)))))) dss_nil)
      (dss_one (ds_ret (de_if (dt_cmp (opd_neE hr.r.units) (de_lc (own := [("_law_wire", 4)]) rfl sc__law_from.nd (di_seq (de_slice (dv 3) dp_none (dp_some (de_un und_neg de_int)))) (blkOk_by (own := [("_law_wire", 4)]) (N := N__law_from) (sc := defScope s__law_from) (by decide +kernel)) (fun _ _ _ _ _ => (dg_nm 4 sc__law_from.nd)) (fun _ _ _ _ _ => (dts_one (dt_not (dt_tru (de_call calm__law_has (ok__law_has T) (hr.mono (by decide)) T.m__law_has T.F__law_has.kp T.b__law_has (da_cons (dv 0) (da_cons (dv 4) da_nil))))))) (fun _ _ _ _ _ => (dv 4))) (de_lst da_nil)) (dv 0) (de_op opd_bxor (dv 0) (de_op opd_shl de_int (de_ix (dv 3) (de_un und_neg de_int))))))))), fun i cs hp => ?_⟩
  obtain ⟨⟨k, x⟩, n⟩ := i
  obtain ⟨hx, hn, n1, n2, n3⟩ : x.ok n ∧ n ≤ 12 ∧ x.w ≠ .turn ∧ x.w ≠ .mix ∧ x.w ≠ .sign := hp
  have cp : ∀ m : Nat, m < n → CPow 1 (m : Int) = True := fun m hm => eq_true ⟨by omega, by omega, by decide⟩
  rcases Deed.alts hx with ⟨a, t, rfl, h1, h2, h3⟩ | ⟨a, rfl, h1⟩ | ⟨a, rfl, h1⟩ | ⟨a, b, rfl, h1, h2, h3⟩ | ⟨a, b, rfl, h1, h2, h3⟩ | ⟨a, b, rfl, h1, h2, h3⟩ | ⟨a, b, c, rfl, h1, h2, h3, h4, h5, h6⟩
  · exact absurd rfl n1
  · exact absurd rfl n2
  · simp only [Deed.d, Deed.ds, Deed.tl, nT, Deed.fr, Deed.i, List.getD_cons_zero, List.getD_cons_succ]
    repeat (first | walk_at "dlu" | walk_at "k" | simp only [cut1, cutL1, cutL2, cutL3, atL1, atL2, atL3, cp a h1, Int.one_mul, bxor_fl])
  · exact absurd rfl n3
  · simp only [Deed.d, Deed.ds, Deed.tl, nT, Deed.fr, Deed.i, List.getD_cons_zero, List.getD_cons_succ]
    cases ha : bt a k
    all_goals
      repeat (first | walk_at "dlu" | walk_at "k" | simp only [cut1, cutL2, cutL3, atL2, atL3, cp b h2, Int.one_mul, bxor_fl, ha])
  · simp only [Deed.d, Deed.ds, Deed.tl, nT, Deed.fr, Deed.i, List.getD_cons_zero, List.getD_cons_succ]
    cases ha : bt a k <;> cases hb : bt b k
    all_goals
      repeat (first | walk_at "dlu" | walk_at "k" | simp only [cut1, cutL2, cutL3, atL2, atL3, cp a h1, cp b h2, Int.one_mul, bxor_fl, ha, hb, bft, btf])
  · simp only [Deed.d, Deed.ds, Deed.tl, nT, Deed.fr, Deed.i, List.getD_cons_zero, List.getD_cons_succ]
    cases ha : bt a k <;> cases hb : bt b k
    all_goals
      repeat (first | walk_at "dlu" | walk_at "k" | simp only [cut1, cutL2, cutL3, atL2, atL3, cp c h3, Int.one_mul, bxor_fl, ha, hb])
    all_goals rfl
end
section
local macro_rules | `(tactic| walk_at "k") => `(tactic| refine lhas_i ?_)
abbrev sp__law_done : FSpec := { ι := DdI, args := fun i => [.lst (sT i.xs), i.x.d], pre := fun i _ => i.xs.length = 2 ^ i.n ∧ i.n ≤ 12 ∧ i.x.ok i.n, res := fun i cs d cs' => d = .lst (sT (i.x.run i.n i.xs)) ∧ cs' = cs }
theorem ldone_i {xs : Spr} {n : Nat} {x : Deed} {cs : Sto} {Q : PD} {z : Lz (sp__law_done, Q)} (w : xs.length = 2 ^ n) (hn : n ≤ 12) (h : x.ok n) (q : Q (.lst (sT (x.run n xs))) cs) : callP sp__law_done [.lst (sT xs), x.d] cs Q z := callP_i ⟨xs, n, x⟩ rfl ⟨w, hn, h⟩ fun _ _ ⟨e1, e2⟩ => by subst e1; subst e2; exact q
theorem calm__law_done : Calm sp__law_done := ⟨fun _ _ _ _ h => h⟩
set_option maxHeartbeats 4000000 in
theorem ok__law_done (T : Txt w K mg) : FnG P w K mg base CX0 3 T.f__law_done T.d__law_done ["_law_spread_here", "_law_deed_here"] (dSp K sp__law_done) := by
  refine dfunT T.F__law_done sc__law_done (fun _ => rfl) fun cdv A outer s H E hr => ⟨_, (dss_cons (ds_par3 (i := 2) (j := 3) (k := 4) rfl sc__law_done.nd (da_cons (de_ix (dv 1) de_int) (da_cons (de_slice (dv 1) (dp_some de_int) dp_none) (da_cons (de_cel da_nil) da_nil))))
      (dss_cons (ds_for PassesOwn.never rfl (di_enum T.z_enumerate (da_cons (dv 0) da_nil)) (dg_tp rfl (dgs_cons (dg_nm 5 sc__law_done.nd) (dgs_cons (dg_nm 6 sc__law_done.nd) dgs_nil))) (dss_one (ds_if (dt_cmp (opd_eq hr.r.units) (dv 2) de_str) (dss_one (ds_expr (de_append (dv 4) (da_cons (de_if (dt_tru (de_call calm__law_has (ok__law_has T) (hr.mono (by decide)) T.m__law_has T.F__law_has.kp T.b__law_has (da_cons (dv 5) (da_cons (de_ix (dv 3) de_int) da_nil)))) (de_call calm__law_spun (ok__law_spun T) (hr.mono (by decide)) T.m__law_spun T.F__law_spun.kp T.b__law_spun (da_cons (dv 6) (da_cons (de_ix (dv 3) de_int) da_nil))) (dv 6)) da_nil)))) (dss_one (ds_if (dt_cmp (opd_eq hr.r.units) (dv 2) de_str) (dss_one (ds_expr (de_append (dv 4) (da_cons (de_if (dt_of (dw_and (dt_tru (de_call calm__law_has (ok__law_has T) (hr.mono (by decide)) T.m__law_has T.F__law_has.kp T.b__law_has (da_cons (dv 5) (da_cons (de_ix (dv 3) de_int) da_nil)))) (dw_and1 (dt_tru (de_call calm__law_has (ok__law_has T) (hr.mono (by decide)) T.m__law_has T.F__law_has.kp T.b__law_has (da_cons (dv 5) (da_cons (de_ix (dv 3) de_int) da_nil))))))) (de_call calm__law_minus (ok__law_minus T) (hr.mono (by decide)) T.m__law_minus T.F__law_minus.kp T.b__law_minus (da_cons (dv 6) da_nil)) (dv 6)) da_nil)))) (dss_one (ds_if (dt_cmp (opd_eq hr.r.units) (dv 2) de_str) (dss_cons (ds_set (i := 7) sc__law_done.nd (de_ix (dv 0) (de_op opd_bxor (dv 5) (de_op opd_shl de_int (de_ix (dv 3) de_int)))))
      (dss_one (ds_expr (de_append (dv 4) (da_cons (de_if (dt_tru (de_call calm__law_has (ok__law_has T) (hr.mono (by decide)) T.m__law_has T.F__law_has.kp T.b__law_has (da_cons (dv 5) (da_cons (de_ix (dv 3) de_int) da_nil)))) (de_call calm__law_plus (ok__law_plus T) (hr.mono (by decide)) T.m__law_plus T.F__law_plus.kp T.b__law_plus (da_cons (dv 7) (da_cons (de_call calm__law_minus (ok__law_minus T) (hr.mono (by decide)) T.m__law_minus T.F__law_minus.kp T.b__law_minus (da_cons (dv 6) da_nil)) da_nil))) (de_call calm__law_plus (ok__law_plus T) (hr.mono (by decide)) T.m__law_plus T.F__law_plus.kp T.b__law_plus (da_cons (dv 6) (da_cons (dv 7) da_nil)))) da_nil))))) (dss_one (ds_expr (de_append (dv 4) (da_cons (de_ix (dv 0) (de_call calm__law_from (ok__law_from T) (hr.mono (by decide)) T.m__law_from T.F__law_from.kp T.b__law_from (da_cons (dv 5) (da_cons (dv 1) da_nil)))) da_nil)))))))))))
      (dss_frz 4 (dss_one (ds_ret (dv 4)))))), fun i cs hk hp => ?_⟩
  obtain ⟨xs, n, x⟩ := i
  obtain ⟨w, hn, hx⟩ : xs.length = 2 ^ n ∧ n ≤ 12 ∧ x.ok n := hp
  have hle : xs.length ≤ 4096 := by
    rw [w]
    exact Nat.pow_le_pow_right (n := 2) (by decide) hn
  have hzs : ∀ k, k < xs.length → (sT ((x.run n xs).take k)).length < sizeLine := fun k hk => by
    rw [sT, List.length_map, List.length_take, sizeLine_eq]
    omega
  have cp : ∀ m : Nat, m < n → CPow 1 (m : Int) = True := fun m hm => eq_true ⟨by omega, by omega, by decide⟩
  have hl' : (sT xs).length = xs.length := by rw [sT, List.length_map]
  have hg : ∀ k, k < xs.length → (x.run n xs)[k]? = some (x.at xs k) := fun k hk => Deed.run_get hx w hk
  have hfl : ∀ p k, p < n → k < xs.length → fl p k < xs.length := fun p k h1 h2 => by rw [w] at h2 ⊢; exact fl_lt h1 h2
  have hfr : ∀ k, k < xs.length → x.fr k < xs.length := fun k h2 => by rw [w] at h2 ⊢; exact Deed.fr_lt hx h2
  have i0 : atI x.ds 0 = some (.str x.w.s) := atI_zero _ _
  have c0 : cutD x.ds (some 1) none = nT x.ws ++ x.tl := cut1 _ _
  have hze : (enD 0 (sT xs)).length = xs.length := by rw [enD_len, hl']
  simp only [Deed.d]
  repeat (first | walk_at "dl" | simp only [i0, c0])
  refine forP_i (for_inv (fun k env S => (∃ o5 o6 o7 : Option D, env = [some (.lst (sT xs)), some (.tup x.ds), some (.str x.w.s), some (.tup (nT x.ws ++ x.tl)), some (.cell cs.length), o5, o6, o7]) ∧ S = cs ++ [.lst (sT ((x.run n xs).take k))]) _ _ _ ⟨⟨_, _, _, rfl⟩, rfl⟩ (fun _ _ _ _ => trivial) ?_ ?_)
  · rintro k e _ _ he ⟨⟨o5, o6, o7, rfl⟩, rfl⟩
    obtain ⟨y, h1, rfl⟩ := enD_get _ _ _ _ he
    obtain ⟨z, hz, rfl⟩ := sT_get h1
    have hk : k < xs.length := (List.getElem?_eq_some_iff.mp hz).1
    have ez : z = atS xs k := (atS_some hz).symm
    have es := sT_take (hg k hk)
    have hsz := hzs k hk
    rw [Nat.zero_add]
    refine ⟨_, rfl, fun E' hn2 _ _ _ => ?_⟩
    have fin : ∀ o7 : Option D, E'.nx [some (.lst (sT xs)), some (.tup x.ds), some (.str x.w.s), some (.tup (nT x.ws ++ x.tl)), some (.cell cs.length), some (.int k), some (.tup z.ds), o7] (cs ++ [.lst (sT ((x.run n xs).take k) ++ [(x.at xs k).t])]) := fun o7 => hn2 _ _ ⟨⟨_, _, _, rfl⟩, by rw [es]⟩
    clear hn2 es
    generalize (x.run n xs).take k = ys at *
    have zt : D.tup z.ds = z.t := rfl
    rw [zt] at fin ⊢
    rw [ez] at fin ⊢
    rcases Deed.alts hx with ⟨a, t, rfl, h1, h2, h3⟩ | ⟨a, rfl, h1⟩ | ⟨a, rfl, h1⟩ | ⟨a, b, rfl, h1, h2, h3⟩ | ⟨a, b, rfl, h1, h2, h3⟩ | ⟨a, b, rfl, h1, h2, h3⟩ | ⟨a, b, c, rfl, h1, h2, h3, h4, h5, h6⟩
    all_goals simp only [Deed.tl, nT, List.map_cons, List.map_nil, List.cons_append, List.nil_append, List.append_nil, if_true, reduceIte, reduceCtorEq, Deed.at, Deed.i, List.getD_cons_zero, List.getD_cons_succ] at fin ⊢
    · cases hb : bt a k
      all_goals
        simp only [hb, Bool.false_eq_true, if_false, if_true, reduceIte] at fin
        repeat (first | walk_at "dl" | walk_at "k" | simp only [hb])
      · exact fin _
      · refine lspun_i (x := atS xs k) (by omega) (by omega) ?_
        rw [show (((t : Nat) : Int) % 8).toNat = t by omega]
        repeat (first | walk_at "dl" | walk_at "k")
        exact fin _
    · have hf := hfl a k h1 hk
      cases hb : bt a k
      all_goals
        simp only [hb, Bool.false_eq_true, if_false, if_true, reduceIte] at fin
        repeat (first | walk_at "dl" | walk_at "k" | simp only [hb, cp a h1, Int.one_mul, bxor_fl, atS_get hf])
      · refine lplus_i ?_
        repeat (first | walk_at "dl" | walk_at "k")
        exact fin _
      · refine lminus_i ?_
        repeat (first | walk_at "dl" | walk_at "k")
        refine lplus_i ?_
        repeat (first | walk_at "dl" | walk_at "k")
        exact fin _
    · have hf := hfr k hk
      repeat (first | walk_at "dl" | walk_at "k")
      refine lfrom_i hx hn (by simp) (by simp) (by simp) ?_
      repeat (first | walk_at "dl" | walk_at "k" | simp only [atS_get hf])
      exact fin _
    · cases ha : bt a k <;> cases hb : bt b k
      all_goals
        simp only [ha, hb, Bool.and_true, Bool.and_false, Bool.false_eq_true, if_false, if_true, reduceIte] at fin
        repeat (first | walk_at "dl" | walk_at "k" | simp only [ha, hb])
      · exact fin _
      · exact fin _
      · exact fin _
      · refine lminus_i ?_
        repeat (first | walk_at "dl" | walk_at "k")
        exact fin _
    · have hf := hfr k hk
      repeat (first | walk_at "dl" | walk_at "k")
      refine lfrom_i hx hn (by simp) (by simp) (by simp) ?_
      repeat (first | walk_at "dl" | walk_at "k" | simp only [atS_get hf])
      exact fin _
    · have hf := hfr k hk
      repeat (first | walk_at "dl" | walk_at "k")
      refine lfrom_i hx hn (by simp) (by simp) (by simp) ?_
      repeat (first | walk_at "dl" | walk_at "k" | simp only [atS_get hf])
      exact fin _
    · have hf := hfr k hk
      repeat (first | walk_at "dl" | walk_at "k")
      refine lfrom_i hx hn (by simp) (by simp) (by simp) ?_
      repeat (first | walk_at "dl" | walk_at "k" | simp only [atS_get hf])
      exact fin _
  · rintro _ _ ⟨⟨o5, o6, o7, rfl⟩, rfl⟩
    rw [hze, List.take_of_length_le (by rw [run_len]; exact Nat.le_refl _)]
    walk_at "dl"
    exact trim_app hk (by simp only [okD]; exact okT _) ⟨rfl, rfl⟩
end
section
structure LbI where
  xs : Spr
  n : Nat
  ds : List Deed
  t : Bool
abbrev sp__law_behind : FSpec := { ι := LbI, args := fun i => [.lst (sT i.xs), dsD i.ds i.t], pre := fun i _ => i.xs.length = 2 ^ i.n ∧ i.n ≤ 12 ∧ ∀ x ∈ i.ds, x.ok i.n, res := fun i cs d cs' => d = .lst (sT (runL i.n i.ds i.xs)) ∧ cs' = cs }
theorem lbehind_i {xs : Spr} {n : Nat} {ds : List Deed} {cs : Sto} {Q : PD} {z : Lz (sp__law_behind, Q)} (w : xs.length = 2 ^ n) (hn : n ≤ 12) (h : ∀ x ∈ ds, x.ok n) (q : Q (.lst (sT (runL n ds xs))) cs) : callP sp__law_behind [.lst (sT xs), .lst (dL ds)] cs Q z := callP_i ⟨xs, n, ds, false⟩ rfl ⟨w, hn, h⟩ fun _ _ ⟨e1, e2⟩ => by subst e1; subst e2; exact q
theorem lbehind_t {xs : Spr} {n : Nat} {ds : List Deed} {cs : Sto} {Q : PD} {z : Lz (sp__law_behind, Q)} (w : xs.length = 2 ^ n) (hn : n ≤ 12) (h : ∀ x ∈ ds, x.ok n) (q : Q (.lst (sT (runL n ds xs))) cs) : callP sp__law_behind [.lst (sT xs), .tup (dL ds)] cs Q z := callP_i ⟨xs, n, ds, true⟩ rfl ⟨w, hn, h⟩ fun _ _ ⟨e1, e2⟩ => by subst e1; subst e2; exact q
theorem runL_len (n : Nat) : ∀ (ds : List Deed) (xs : Spr), (runL n ds xs).length = xs.length
  | [], _ => rfl
  | x :: ds, xs => by
    show (runL n ds (x.run n xs)).length = _
    rw [runL_len n ds, run_len]
theorem runL_snoc2 (n : Nat) (ds : List Deed) (x : Deed) (xs : Spr) : runL n (ds ++ [x]) xs = x.run n (runL n ds xs) := by
  unfold runL
  rw [List.foldl_append]
  rfl
theorem calm__law_behind : Calm sp__law_behind := ⟨fun _ _ _ _ h => h⟩
set_option maxHeartbeats 4000000 in
theorem ok__law_behind (T : Txt w K mg) : FnG P w K mg base CX0 4 T.f__law_behind T.d__law_behind ["_law_spread_here", "_law_deeds"] (dSp K sp__law_behind) := by
  refine dfun T.F__law_behind sc__law_behind (fun _ => rfl) fun cdv A outer s H E hr => ⟨_, (dss_cons (ds_for PassesOwn.never rfl (di_seq (dv 1)) (dg_nm 2 sc__law_behind.nd) (dss_one (ds_set (i := 0) sc__law_behind.nd (de_call calm__law_done (ok__law_done T) (hr.mono (by decide)) T.m__law_done T.F__law_done.kp T.b__law_done (da_cons (dv 0) (da_cons (dv 2) da_nil))))))
      (dss_one (ds_ret (dv 0)))), fun i cs hp => ?_⟩
  obtain ⟨xs, n, ds, t⟩ := i
  obtain ⟨w, hn, h⟩ : xs.length = 2 ^ n ∧ n ≤ 12 ∧ ∀ x ∈ ds, x.ok n := hp
  have hq : ∀ cs : Sto, seqI cs (dsD ds t) = some (dL ds, wAll) := fun cs => by cases t <;> rfl
  repeat (first | walk_at "dl" | simp only [hq])
  refine forP_i (for_inv (fun k env S => (∃ o : Option D, env = [some (.lst (sT (runL n (ds.take k) xs))), some (dsD ds t), o]) ∧ cs = S) _ _ _ ⟨⟨_, rfl⟩, rfl⟩ (fun _ _ _ _ => trivial) ?_ ?_)
  · rintro k d _ _ hd ⟨⟨o, rfl⟩, rfl⟩
    rw [dL, List.getElem?_map] at hd
    obtain ⟨x, hx, rfl⟩ := Option.map_eq_some_iff.mp hd
    refine ⟨_, rfl, fun E' hn2 _ _ _ => ?_⟩
    walk_at "dl"
    refine ldone_i (n := n) (by rw [runL_len, w]) hn (h x (List.mem_of_getElem? hx)) ?_
    rw [← runL_snoc2, ← take_succ' hx]
    exact hn2 _ _ ⟨⟨_, rfl⟩, rfl⟩
  · rintro _ _ ⟨⟨o, rfl⟩, rfl⟩
    have hl : (dL ds).length = ds.length := by rw [dL, List.length_map]
    rw [hl, List.take_length]
    walk_at "dl"
end
section
structure BoI where
  xs : Spr
  ys : Spr
  n : Nat
  m : Nat
abbrev sp__law_both_of : FSpec := { ι := BoI, args := fun i => [.lst (sT i.xs), .lst (sT i.ys)], pre := fun i _ => SB i.n i.xs ∧ SB i.m i.ys ∧ i.n + i.m ≤ 900000 ∧ i.xs.length ≤ 64 ∧ i.ys.length ≤ 64, res := fun i cs d cs' => d = .lst (sT (bothL i.xs i.ys)) ∧ cs' = cs }
theorem lboth_i {xs ys : Spr} {n m : Nat} {cs : Sto} {Q : PD} {z : Lz (sp__law_both_of, Q)} (b1 : SB n xs) (b2 : SB m ys) (l : n + m ≤ 900000) (h1 : xs.length ≤ 64) (h2 : ys.length ≤ 64) (q : Q (.lst (sT (bothL xs ys))) cs) : callP sp__law_both_of [.lst (sT xs), .lst (sT ys)] cs Q z := callP_i ⟨xs, ys, n, m⟩ rfl ⟨b1, b2, l, h1, h2⟩ fun _ _ ⟨e1, e2⟩ => by subst e1; subst e2; exact q
theorem bothL_snoc (xs ys : Spr) (y : Am) : bothL xs (ys ++ [y]) = bothL xs ys ++ xs.map fun x => x.mul y := by
  unfold bothL
  rw [List.flatMap_append]
  simp
theorem calm__law_both_of : Calm sp__law_both_of := ⟨fun _ _ _ _ h => h⟩
set_option maxHeartbeats 4000000 in
theorem ok__law_both_of (T : Txt w K mg) : FnG P w K mg base CX0 3 T.f__law_both_of T.d__law_both_of ["_law_one_here", "_law_other"] (dSp K sp__law_both_of) := by
  refine dfunT T.F__law_both_of sc__law_both_of (fun _ => rfl) fun cdv A outer s H E hr => ⟨_, (dss_cons (ds_set (i := 2) sc__law_both_of.nd (de_cel da_nil))
      (dss_cons (ds_for PassesOwn.never rfl (di_seq (dv 1)) (dg_nm 3 sc__law_both_of.nd) (dss_one (ds_expr (de_mt md_extend PySem.F.plainAttrs_list PySem.F.slot_list_extend PySem.F.type_list_extend (dv 2) (da_cons (de_lc (own := [("_law_mine", 4)]) rfl sc__law_both_of.nd (di_seq (dv 0)) (blkOk_by (own := [("_law_mine", 4)]) (N := N__law_both_of) (sc := defScope s__law_both_of) (by decide +kernel)) (fun _ _ _ _ _ => (dg_nm 4 sc__law_both_of.nd)) (fun _ _ _ _ _ => dts_nil) (fun _ _ _ _ _ => (de_call calm__law_times (ok__law_times T) (hr.mono (by decide)) T.m__law_times T.F__law_times.kp T.b__law_times (da_cons (dv 4) (da_cons (dv 3) da_nil))))) da_nil)))))
      (dss_frz 2 (dss_one (ds_ret (dv 2)))))), fun i cs hk hp => ?_⟩
  obtain ⟨xs, ys, n, m⟩ := i
  obtain ⟨b1, b2, l, h1, h2⟩ : SB n xs ∧ SB m ys ∧ n + m ≤ 900000 ∧ xs.length ≤ 64 ∧ ys.length ≤ 64 := hp
  have hzx : (sT xs).length ≤ sizeLine := by rw [sT, List.length_map, sizeLine_eq]; omega
  walk_at "dl"
  refine forP_i (for_inv (fun k env S => (∃ o3 : Option D, env = [some (.lst (sT xs)), some (.lst (sT ys)), some (.cell cs.length), o3, none]) ∧ S = cs ++ [.lst (sT (bothL xs (ys.take k)))]) _ _ _ ⟨⟨_, rfl⟩, rfl⟩ (fun _ _ _ _ => trivial) ?_ ?_)
  · rintro k e _ _ he ⟨⟨o3, rfl⟩, rfl⟩
    obtain ⟨y, hy, rfl⟩ := sT_get he
    have hk : k < ys.length := (List.getElem?_eq_some_iff.mp hy).1
    have hyb := b2 y (List.mem_of_getElem? hy)
    have hsz : (sT (bothL xs (ys.take k))).length + (sT (xs.map fun x => x.mul y)).length ≤ sizeLine := by
      have h3 : xs.length * k ≤ 64 * 64 := Nat.mul_le_mul h1 (by omega)
      rw [sT, sT, List.length_map, List.length_map, List.length_map, bothL_len, List.length_take, Nat.min_eq_left (by omega), sizeLine_eq]
      omega
    refine ⟨_, rfl, fun E' hn2 _ _ _ => ?_⟩
    walk_at "dl"
    refine ⟨hzx, lc_sT (fun x => (x.mul y).t) trivial xs (fun x hx => ?_) ?_⟩
    · refine ⟨_, rfl, fun R q => ?_⟩
      walk_at "dl"
      exact ltimes_i (x := x) (y := y) (b1 x hx) hyb (by omega) q
    have e1 : xs.map (fun x => (x.mul y).t) = sT (xs.map fun x => x.mul y) := by rw [sT, List.map_map]; rfl
    rw [e1]
    walk_at "dl"
    refine ⟨hsz, hn2 _ _ ⟨⟨_, rfl⟩, ?_⟩⟩
    rw [take_succ' hy, bothL_snoc, sT, sT, sT, List.map_append]
  · rintro _ _ ⟨⟨o3, rfl⟩, rfl⟩
    have e : ys.take (sT ys).length = ys := by rw [sT, List.length_map, List.take_length]
    rw [e]
    walk_at "dl"
    exact trim_app hk (by simp only [okD]; exact okT _) ⟨rfl, rfl⟩
end
section
abbrev sp__law_length : FSpec := { ι := (D × Spr) × Nat, args := fun i => [i.1.1], pre := fun i cs => seqOf cs i.1.1 = some (sT i.1.2) ∧ (∀ x ∈ i.1.2, x.B i.2) ∧ i.2 + i.2 + 1 ≤ 900000, res := fun i cs d cs' => d = .tup [.int (s1 i.1.2), .int (s2 i.1.2)] ∧ cs' = cs }
theorem llength_i {d : D} {xs : Spr} {n : Nat} {cs : Sto} {Q : PD} {z : Lz (sp__law_length, Q)} (h : seqOf cs d = some (sT xs)) (b : SB n xs) (l : n + n + 1 ≤ 900000) (q : Q (.tup [.int (s1 xs), .int (s2 xs)]) cs) : callP sp__law_length [d] cs Q z := callP_i ((d, xs), n) rfl ⟨h, b, l⟩ fun _ _ ⟨e1, e2⟩ => by subst e1; subst e2; exact q
theorem calm__law_length : Calm sp__law_length := ⟨fun _ _ _ _ h => h⟩
set_option maxHeartbeats 4000000 in
theorem ok__law_length (T : Txt w K mg) : FnG P w K mg base CX0 1 T.f__law_length T.d__law_length ["_law_spread_here"] (dSp K sp__law_length) := by
  refine dfun T.F__law_length sc__law_length (fun _ => rfl) fun cdv A outer s H E hr => ⟨_, (dss_cons (ds_pat (dg_tp rfl (dgs_cons (dg_nm 1 sc__law_length.nd) (dgs_cons (dg_nm 2 sc__law_length.nd) dgs_nil))) (de_tup (da_cons de_int (da_cons de_int da_nil))))
      (dss_cons (ds_for PassesOwn.never rfl (di_seq (dv 0)) (dg_tp rfl (dgs_cons (dg_nm 3 sc__law_length.nd) (dgs_cons (dg_nm 4 sc__law_length.nd) (dgs_cons (dg_nm 5 sc__law_length.nd) (dgs_cons (dg_nm 6 sc__law_length.nd) dgs_nil))))) (dss_cons (ds_set (i := 1) sc__law_length.nd (de_op opd_add (de_op opd_add (de_op opd_add (de_op opd_add (dv 1) (de_op opd_mul (dv 3) (dv 3))) (de_op opd_mul (dv 4) (dv 4))) (de_op opd_mul (dv 5) (dv 5))) (de_op opd_mul (dv 6) (dv 6))))
      (dss_one (ds_set (i := 2) sc__law_length.nd (de_op opd_sub (de_op opd_add (de_op opd_add (de_op opd_add (dv 2) (de_op opd_mul (dv 3) (dv 4))) (de_op opd_mul (dv 4) (dv 5))) (de_op opd_mul (dv 5) (dv 6))) (de_op opd_mul (dv 6) (dv 3)))))))
      (dss_one (ds_ret (de_tup (da_cons (dv 1) (da_cons (dv 2) da_nil))))))), fun i cs hp => ?_⟩
  obtain ⟨⟨d, xs⟩, n⟩ := i
  obtain ⟨h, hb, hl⟩ : seqOf cs d = some (sT xs) ∧ (∀ x ∈ xs, x.B n) ∧ n + n + 1 ≤ 900000 := hp
  obtain ⟨W, hW, hw⟩ := seqI_seq h
  have hm : n + n ≤ 900000 := by omega
  walk_at "dl"
  simp only [hW]
  walk_at "dl"
  refine forP_i (for_inv (fun k env cs' => (∃ o1 o2 o3 o4, env = [some d, some (.int (s1 (xs.take k))), some (.int (s2 (xs.take k))), o1, o2, o3, o4]) ∧ cs' = cs) _ _ _ ⟨⟨_, _, _, _, rfl⟩, rfl⟩ (fun _ _ _ e => e.2 ▸ hw) ?_ ?_)
  · rintro k e _ _ he ⟨⟨o1, o2, o3, o4, rfl⟩, rfl⟩
    obtain ⟨x, hx, rfl⟩ := sT_get he
    obtain ⟨x1, x2, x3, x4⟩ := hb x (List.mem_of_getElem? hx)
    have e1 : s1 (xs.take (k + 1)) = s1 (xs.take k) + x.a * x.a + x.b * x.b + x.c * x.c + x.d * x.d := by rw [take_succ' hx, s1_app, Am.l1]; grind
    have e2 : s2 (xs.take (k + 1)) = s2 (xs.take k) + x.a * x.b + x.b * x.c + x.c * x.d - x.d * x.a := by
      rw [take_succ' hx, s2_app, Am.l2]
      grind
    refine ⟨_, rfl, fun E' hn _ _ _ => ?_⟩
    walk_at "dl"
    refine ⟨x1.ok x1 hm, x2.ok x2 hm, x3.ok x3 hm, x4.ok x4 hm, x1.ok x2 hm, x2.ok x3 hm, x3.ok x4 hm, x4.ok x1 hm, ?_⟩
    exact hn _ _ ⟨⟨_, _, _, _, by rw [e1, e2]⟩, rfl⟩
  · rintro _ _ ⟨⟨o1, o2, o3, o4, rfl⟩, rfl⟩
    have e : xs.take (sT xs).length = xs := by rw [sT, List.length_map, List.take_length]
    simp only [e]
    walk_at "dl"
end
section
abbrev sp_times : FSpec := { ι := MB, args := fun i => [i.x.t, i.y.t], pre := fun i _ => i.ok, res := fun i cs d cs' => d = (i.x.mul i.y).t ∧ cs' = cs }
theorem times_i {x y : Am} {n m : Nat} {cs : Sto} {Q : PD} {z : Lz (sp_times, Q)} (b1 : x.B n) (b2 : y.B m) (l : n + m ≤ 900000) (q : Q (x.mul y).t cs) : callP sp_times [x.t, y.t] cs Q z := callP_i ⟨x, y, n, m⟩ rfl ⟨b1, b2, l⟩ fun _ _ ⟨e1, e2⟩ => by subst e1; subst e2; exact q
theorem calm_times : Calm sp_times := ⟨fun _ _ _ _ h => h⟩
set_option maxHeartbeats 4000000 in
theorem ok_times (T : Txt w K mg) : FnG P w K mg base CX0 1 T.f_times T.d_times ["one", "other"] (dSp K sp_times) := by
  refine dfun T.F_times sc_times (fun _ => rfl) fun cdv A outer s H E hr => ⟨_, (dss_cons (ds_pat (dg_tp rfl (dgs_cons (dg_nm 2 sc_times.nd) (dgs_cons (dg_nm 3 sc_times.nd) (dgs_cons (dg_nm 4 sc_times.nd) (dgs_cons (dg_nm 5 sc_times.nd) dgs_nil))))) (dv 0))
      (dss_cons (ds_pat (dg_tp rfl (dgs_cons (dg_nm 6 sc_times.nd) (dgs_cons (dg_nm 7 sc_times.nd) (dgs_cons (dg_nm 8 sc_times.nd) (dgs_cons (dg_nm 9 sc_times.nd) dgs_nil))))) (dv 1))
      (dss_one (ds_ret (de_tup (da_cons (de_op opd_sub (de_op opd_sub (de_op opd_sub (de_op opd_mul (dv 2) (dv 6)) (de_op opd_mul (dv 3) (dv 9))) (de_op opd_mul (dv 4) (dv 8))) (de_op opd_mul (dv 5) (dv 7))) (da_cons (de_op opd_sub (de_op opd_sub (de_op opd_add (de_op opd_mul (dv 2) (dv 7)) (de_op opd_mul (dv 3) (dv 6))) (de_op opd_mul (dv 4) (dv 9))) (de_op opd_mul (dv 5) (dv 8))) (da_cons (de_op opd_sub (de_op opd_add (de_op opd_add (de_op opd_mul (dv 2) (dv 8)) (de_op opd_mul (dv 3) (dv 7))) (de_op opd_mul (dv 4) (dv 6))) (de_op opd_mul (dv 5) (dv 9))) (da_cons (de_op opd_add (de_op opd_add (de_op opd_add (de_op opd_mul (dv 2) (dv 9)) (de_op opd_mul (dv 3) (dv 8))) (de_op opd_mul (dv 4) (dv 7))) (de_op opd_mul (dv 5) (dv 6))) da_nil))))))))), fun i cs hp => ?_⟩
  obtain ⟨x, y, n, m⟩ := i
  obtain ⟨hx, hy, hl⟩ := hp
  obtain ⟨x1, x2, x3, x4⟩ := hx
  obtain ⟨y1, y2, y3, y4⟩ := hy
  simp only [sp_times, Am.t, Am.ds] at *
  walk_at "dl"
  repeat' apply And.intro
  all_goals first | exact Bd.ok (by assumption) (by assumption) hl | rfl
end
section
abbrev sp_mirror : FSpec := { ι := Am, args := fun i => [i.t], pre := fun _ _ => True, res := fun i cs d cs' => d = i.mir.t ∧ cs' = cs }
theorem calm_mirror : Calm sp_mirror := ⟨fun _ _ _ _ h => h⟩
set_option maxHeartbeats 4000000 in
theorem ok_mirror (T : Txt w K mg) : FnG P w K mg base CX0 1 T.f_mirror T.d_mirror ["amount"] (dSp K sp_mirror) := by
  refine dfun T.F_mirror sc_mirror (fun _ => rfl) fun cdv A outer s H E hr => ⟨_, (dss_cons (ds_pat (dg_tp rfl (dgs_cons (dg_nm 1 sc_mirror.nd) (dgs_cons (dg_nm 2 sc_mirror.nd) (dgs_cons (dg_nm 3 sc_mirror.nd) (dgs_cons (dg_nm 4 sc_mirror.nd) dgs_nil))))) (dv 0))
      (dss_one (ds_ret (de_tup (da_cons (dv 1) (da_cons (de_un und_neg (dv 4)) (da_cons (de_un und_neg (dv 3)) (da_cons (de_un und_neg (dv 2)) da_nil)))))))), fun i cs hp => ?_⟩
  simp only [sp_mirror, Am.t, Am.ds]
  walk_at "dl"
  rfl
end
section
local macro_rules | `(tactic| walk_at "k") => `(tactic| refine times_i (by assumption) (by assumption) (by omega) ?_)
abbrev sp_others : FSpec := { ι := Am × Nat, args := fun i => [i.1.t], pre := fun i _ => i.1.B i.2 ∧ i.2 ≤ 200000, res := fun i cs d cs' => d = i.1.oth.t ∧ cs' = cs }
theorem others_i {x : Am} {n : Nat} {cs : Sto} {Q : PD} {z : Lz (sp_others, Q)} (b : x.B n) (l : n ≤ 200000) (q : Q x.oth.t cs) : callP sp_others [x.t] cs Q z := callP_i (x, n) rfl ⟨b, l⟩ fun _ _ ⟨e1, e2⟩ => by subst e1; subst e2; exact q
theorem calm_others : Calm sp_others := ⟨fun _ _ _ _ h => h⟩
set_option maxHeartbeats 4000000 in
theorem ok_others (T : Txt w K mg) : FnG P w K mg base CX0 2 T.f_others T.d_others ["amount"] (dSp K sp_others) := by
  refine dfun T.F_others sc_others (fun _ => rfl) fun cdv A outer s H E hr => ⟨_, (dss_cons (ds_pat (dg_tp rfl (dgs_cons (dg_nm 1 sc_others.nd) (dgs_cons (dg_nm 2 sc_others.nd) (dgs_cons (dg_nm 3 sc_others.nd) (dgs_cons (dg_nm 4 sc_others.nd) dgs_nil))))) (dv 0))
      (dss_one (ds_ret (de_call calm_times (ok_times T) (hr.mono (by decide)) T.m_times T.F_times.kp T.b_times (da_cons (de_call calm_times (ok_times T) (hr.mono (by decide)) T.m_times T.F_times.kp T.b_times (da_cons (de_tup (da_cons (dv 1) (da_cons (dv 4) (da_cons (de_un und_neg (dv 3)) (da_cons (dv 2) da_nil))))) (da_cons (de_tup (da_cons (dv 1) (da_cons (de_un und_neg (dv 2)) (da_cons (dv 3) (da_cons (de_un und_neg (dv 4)) da_nil))))) da_nil))) (da_cons (de_call calm_mirror (ok_mirror T) (hr.mono (by decide)) T.m_mirror T.F_mirror.kp T.b_mirror (da_cons (dv 0) da_nil)) da_nil)))))), fun i cs hp => ?_⟩
  obtain ⟨x, n⟩ := i
  obtain ⟨hx, hl⟩ : x.B n ∧ n ≤ 200000 := hp
  have h1 : Am.B n ⟨x.a, x.d, -x.c, x.b⟩ := ⟨hx.a, hx.d, hx.c.neg, hx.b⟩
  have h2 : Am.B n ⟨x.a, -x.b, x.c, -x.d⟩ := ⟨hx.a, hx.b.neg, hx.c, hx.d.neg⟩
  have e : x.t = .tup [.int x.a, .int x.b, .int x.c, .int x.d] := rfl
  simp only [e]
  walk_at "dl"
  refine times_i h1 h2 (by omega) ?_
  walk_at "dl"
  refine callP_i x rfl trivial ?_
  rintro _ cs ⟨rfl, rfl⟩
  walk_at "dl"
  refine times_i (h1.mul h2) hx.mir (by omega) ?_
  exact ⟨rfl, rfl⟩
end
section
abbrev sp_divisor_of : FSpec := { ι := D × Spr, args := fun i => [i.1], pre := fun i cs => seqOf cs i.1 = some (sT i.2), res := fun i cs d cs' => d = .int (gS 0 i.2 : Nat) ∧ cs' = cs }
theorem divisor_i {d : D} {xs : Spr} {cs : Sto} {Q : PD} {z : Lz (sp_divisor_of, Q)} (h : seqOf cs d = some (sT xs)) (q : Q (.int (gS 0 xs : Nat)) cs) : callP sp_divisor_of [d] cs Q z := callP_i (d, xs) rfl h fun _ _ ⟨e1, e2⟩ => by subst e1; subst e2; exact q
theorem calm_divisor_of : Calm sp_divisor_of := ⟨fun _ _ _ _ h => h⟩
set_option maxHeartbeats 4000000 in
theorem ok_divisor_of (T : Txt w K mg) : FnG P w K mg base CX0 1 T.f_divisor_of T.d_divisor_of ["amounts"] (dSp K sp_divisor_of) := by
  refine dfun T.F_divisor_of sc_divisor_of (fun _ => rfl) fun cdv A outer s H E hr => ⟨_, (dss_cons (ds_set (i := 1) sc_divisor_of.nd de_int)
      (dss_cons (ds_for PassesOwn.never rfl (di_seq (dv 0)) (dg_nm 2 sc_divisor_of.nd) (dss_one (ds_for PassesOwn.never rfl (di_seq (dv 2)) (dg_nm 3 sc_divisor_of.nd) (dss_cons (ds_par (i := 4) (j := 5) rfl sc_divisor_of.nd (da_cons (dv 1) (da_cons (de_callB cd_abs T.z_abs (by decide +kernel) (da_cons (dv 3) da_nil)) da_nil)))
      (dss_cons (ds_while PassesOwn.never (dt_cmp opd_gt (dv 5) de_int) (dss_one (ds_par (i := 4) (j := 5) rfl sc_divisor_of.nd (da_cons (dv 5) (da_cons (de_op opd_mod (dv 4) (dv 5)) da_nil)))))
      (dss_one (ds_set (i := 1) sc_divisor_of.nd (dv 4))))))))
      (dss_one (ds_ret (dv 1))))), fun i cs hp => ?_⟩
  obtain ⟨d, xs⟩ := i
  have h : seqOf cs d = some (sT xs) := hp
  obtain ⟨W, hW, hw⟩ := seqI_seq h
  walk_at "dl"
  simp only [hW]
  walk_at "dl"
  refine forP_i (for_inv (fun k env cs' => (∃ o1 o2 o3 o4, env = [some d, some (.int (gS 0 (xs.take k) : Nat)), o1, o2, o3, o4]) ∧ cs' = cs) _ _ _ ⟨⟨_, _, _, _, rfl⟩, rfl⟩ (fun _ _ _ e => e.2 ▸ hw) ?_ ?_)
  · rintro k e _ cs he ⟨⟨o1, o2, o3, o4, rfl⟩, rfl⟩
    obtain ⟨x, hx, rfl⟩ := sT_get he
    refine ⟨_, rfl, fun E' hn _ _ _ => ?_⟩
    walk_at "dl"
    refine forP_i (for_inv (fun j env cs' => (∃ o2 o3 o4, env = [some d, some (.int (gL (gS 0 (xs.take k)) ([x.a, x.b, x.c, x.d].take j) : Nat)), some (.tup x.ds), o2, o3, o4]) ∧ cs' = cs) _ _ _ ⟨⟨_, _, _, rfl⟩, rfl⟩ (fun _ _ _ _ => trivial) ?_ ?_)
    · rintro j e _ cs hj ⟨⟨o2, o3, o4, rfl⟩, rfl⟩
      obtain ⟨v, hv, rfl⟩ : ∃ v : Int, [x.a, x.b, x.c, x.d][j]? = some v ∧ e = .int v := by
        have hj' : ([x.a, x.b, x.c, x.d].map D.int)[j]? = some e := hj
        rw [List.getElem?_map] at hj'
        obtain ⟨v, h1, h2⟩ := Option.map_eq_some_iff.mp hj'
        exact ⟨v, h1, h2.symm⟩
      have hg := gL_app (gS 0 (xs.take k)) ([x.a, x.b, x.c, x.d].take j) v
      rw [← take_succ' hv] at hg
      refine ⟨_, rfl, fun E2 hn2 _ _ _ => ?_⟩
      have habs : (if v < 0 then -v else v) = ((v.natAbs : Nat) : Int) := by
        split <;> omega
      walk_at "dl"
      rw [habs]
      generalize gL (gS 0 (xs.take k)) ([x.a, x.b, x.c, x.d].take j) = g at *
      refine while_inv (fun k' env cs' => (∃ m : Nat, Nat.gcd m k' = Nat.gcd g v.natAbs ∧ env = [some d, some (.int (g : Nat)), some (.tup x.ds), some (.int v), some (.int (m : Nat)), some (.int (k' : Nat))]) ∧ cs' = cs) (k := v.natAbs) ⟨⟨g, rfl, rfl⟩, rfl⟩ ?_
      rintro k' _ _ ⟨⟨m, hm, rfl⟩, rfl⟩ E3 hx3 _ _ _
      walk_at "dl"
      refine cond2_d (fun hb => ?_) (fun hb => ?_)
      · have hk : 0 < k' := by omega
        walk_at "dlh"
        refine hx3 (m % k') _ _ (Nat.mod_lt _ hk) ⟨⟨k', by rw [← hm, Nat.gcd_comm k', ← Nat.gcd_rec, Nat.gcd_comm], ?_⟩, rfl⟩
        rw [Int.natCast_emod]
      · have hk : k' = 0 := by omega
        subst hk
        rw [Nat.gcd_zero_right] at hm
        subst hm
        walk_at "dl"
        exact hn2 _ _ ⟨⟨_, _, _, by rw [hg]⟩, rfl⟩
    · rintro _ _ ⟨⟨o2, o3, o4, rfl⟩, rfl⟩
      have hS : gS 0 (xs.take (k + 1)) = gL (gS 0 (xs.take k)) [x.a, x.b, x.c, x.d] := by rw [take_succ' hx, gS_app]
      exact hn _ _ ⟨⟨some (.tup x.ds), o2, o3, o4, by rw [hS]; rfl⟩, rfl⟩
  · rintro _ _ ⟨⟨o1, o2, o3, o4, rfl⟩, rfl⟩
    have e : xs.take (sT xs).length = xs := by rw [sT, List.length_map, List.take_length]
    simp only [e]
    walk_at "dl"
end
section
local macro_rules | `(tactic| walk_at "k") => `(tactic| refine times_i (by assumption) (by assumption) (by omega) ?_)
abbrev sp_plain : FSpec := { ι := (Spr × Nat) × Nat, args := fun i => [.tup (sT i.1.1)], pre := fun i _ => i.1.1.W i.1.2 ∧ SB i.2 i.1.1 ∧ i.2 ≤ 1000, res := fun i cs d cs' => d = .tup (sT (plainL i.1.1)) ∧ cs' = cs }
theorem plain_i {xs : Spr} {n m : Nat} {cs : Sto} {Q : PD} {z : Lz (sp_plain, Q)} (w : xs.W n) (b : SB m xs) (l : m ≤ 1000) (q : Q (.tup (sT (plainL xs))) cs) : callP sp_plain [.tup (sT xs)] cs Q z := callP_i ((xs, n), m) rfl ⟨w, b, l⟩ fun _ _ ⟨e1, e2⟩ => by subst e1; subst e2; exact q
theorem calm_plain : Calm sp_plain := ⟨fun _ _ _ _ h => h⟩
set_option maxHeartbeats 4000000 in
theorem ok_plain (T : Txt w K mg) : FnG P w K mg base CX0 3 T.f_plain T.d_plain ["spread"] (dSp K sp_plain) := by
  refine dfun T.F_plain sc_plain (fun _ => rfl) fun cdv A outer s H E hr => ⟨_, (dss_cons (ds_set (i := 1) sc_plain.nd (de_call calm_others (ok_others T) (hr.mono (by decide)) T.m_others T.F_others.kp T.b_others (da_cons (de_ix (de_lc (own := [("amount", 4)]) rfl sc_plain.nd (di_seq (dv 0)) (blkOk_by (own := [("amount", 4)]) (N := N_plain) (sc := defScope s_plain) (by decide +kernel)) (fun _ _ _ _ _ => (dg_nm 4 sc_plain.nd)) (fun _ _ _ _ _ => (dts_one (dt_cmp (opd_ne hr.r.units) (dv 4) (T.k_NOTHING.de rfl)))) (fun _ _ _ _ _ => (dv 4))) de_int) da_nil)))
      (dss_cons (ds_setLc (i := 2) (own := [("amount", 4)]) rfl sc_plain.nd (sw_true rfl rfl rfl (by decide +kernel)) (di_seq (dv 0)) (blkOk_by (own := [("amount", 4)]) (N := N_plain) (sc := defScope s_plain) (by decide +kernel)) (fun _ _ _ _ _ => (dg_nm 4 sc_plain.nd)) (fun _ _ _ _ _ => dts_nil) (fun _ _ _ _ _ => (de_call calm_times (ok_times T) (hr.mono (by decide)) T.m_times T.F_times.kp T.b_times (da_cons (dv 4) (da_cons (dv 1) da_nil)))))
      (dss_cons (ds_set (i := 3) sc_plain.nd (de_call calm_divisor_of (ok_divisor_of T) (hr.mono (by decide)) T.m_divisor_of T.F_divisor_of.kp T.b_divisor_of (da_cons (dv 2) da_nil)))
      (dss_one (ds_ret (de_callT cd_tup T.z_tuple (by decide +kernel) (da_cons (de_lc (own := [("a", 5), ("b", 6), ("c", 7), ("d", 8)]) rfl sc_plain.nd (di_seq (dv 2)) (blkOk_by (own := [("a", 5), ("b", 6), ("c", 7), ("d", 8)]) (N := N_plain) (sc := defScope s_plain) (by decide +kernel)) (fun _ _ _ _ _ => (dg_tp rfl (dgs_cons (dg_nm 5 sc_plain.nd) (dgs_cons (dg_nm 6 sc_plain.nd) (dgs_cons (dg_nm 7 sc_plain.nd) (dgs_cons (dg_nm 8 sc_plain.nd) dgs_nil)))))) (fun _ _ _ _ _ => dts_nil) (fun _ _ _ _ _ => (de_tup (da_cons (de_op opd_fdiv (dv 5) (dv 3)) (da_cons (de_op opd_fdiv (dv 6) (dv 3)) (da_cons (de_op opd_fdiv (dv 7) (dv 3)) (da_cons (de_op opd_fdiv (dv 8) (dv 3)) da_nil))))))) da_nil))))))), fun i cs hp => ?_⟩
  obtain ⟨⟨xs, n⟩, m⟩ := i
  obtain ⟨hw, hb, hm⟩ : xs.W n ∧ SB m xs ∧ m ≤ 1000 := hp
  have hz : (sT xs).length ≤ sizeLine := by
    have := hw.le
    rw [sT, List.length_map, sizeLine_eq]
    omega
  obtain ⟨f1, f2, f3⟩ := fz_mem hw.nz
  walk_at "dl"
  refine ⟨hz, lc_sTf Am.nz Am.t trivial xs (fun x hx => ?_) ?_⟩
  · refine ⟨_, rfl, fun R q => ?_, fun _ R q => ?_⟩
    · walk_at "dl"
      rw [x.nz_dec]
      exact q
    · walk_at "dl"
      exact q
  have h0 : atI ((xs.filter Am.nz).map Am.t) 0 = some (fzL xs).t := by
    have := DL.atI_nat ((xs.filter Am.nz).map Am.t) 0
    rw [List.getElem?_map, f3] at this
    exact this
  walk_at "dl"
  simp only [h0]
  walk_at "dl"
  refine others_i (hb _ f1) (by omega) ?_
  walk_at "dl"
  have hbo := (hb _ f1).oth
  have hbb : SB (m + (m + m + 3 + m + 3) + 3) (byL xs) := fun y hy => by
    obtain ⟨x, hx, rfl⟩ := List.mem_map.mp hy
    exact (hb x hx).mul hbo
  refine ⟨hz, lc_sT (fun x => (x.mul (fzL xs).oth).t) trivial xs (fun x hx => ?_) ?_⟩
  · refine ⟨_, rfl, fun R q => ?_⟩
    walk_at "dl"
    refine times_i (hb x hx) hbo (by omega) ?_
    exact q
  have e1 : xs.map (fun x => (x.mul (fzL xs).oth).t) = sT (byL xs) := by
    rw [sT, byL, List.map_map]
    rfl
  simp only [e1]
  walk_at "dl"
  refine divisor_i rfl ?_
  obtain ⟨g0, g1⟩ := by_pos hw.nz hbb
  have hz2 : (sT (byL xs)).length ≤ sizeLine := by
    rw [sT, List.length_map, byL, List.length_map]
    rw [sT, List.length_map] at hz
    exact hz
  have c1 : ∀ i : Int, CDivW i (gS 0 (byL xs) : Nat) := fun i => by
    refine ⟨by omega, ?_⟩
    rw [Int.natAbs_natCast]
    have : (gS 0 (byL xs)).log2 < m + (m + m + 3 + m + 3) + 3 := by
      rw [Nat.log2_lt (by omega)]
      exact g1
    omega
  walk_at "dl"
  refine ⟨hz2, lc_sT (fun x => (x.dv (gS 0 (byL xs) : Nat)).t) trivial (byL xs) (fun x hx => ?_) ?_⟩
  · refine ⟨_, rfl, fun R q => ?_⟩
    walk_at "dl"
    exact ⟨c1 _, c1 _, c1 _, c1 _, q⟩
  have e2 : (byL xs).map (fun x => (x.dv (gS 0 (byL xs) : Nat)).t) = sT (plainL xs) := by
    rw [sT, plainL, List.map_map]
    rfl
  simp only [e2]
  walk_at "dl"
end
section
abbrev sp_turn_by : FSpec := { ι := Am × Int, args := fun i => [i.1.t, .int i.2], pre := fun i _ => True, res := fun i cs d cs' => d = (Am.tn (i.2 % 8).toNat i.1).t ∧ cs' = cs }
theorem turn_by_i {x : Am} {n : Int} {cs : Sto} {Q : PD} {z : Lz (sp_turn_by, Q)} (q : Q (Am.tn (n % 8).toNat x).t cs) : callP sp_turn_by [x.t, .int n] cs Q z := callP_i (x, n) rfl trivial fun _ _ ⟨e1, e2⟩ => by subst e1; subst e2; exact q
theorem calm_turn_by : Calm sp_turn_by := ⟨fun _ _ _ _ h => h⟩
set_option maxHeartbeats 4000000 in
theorem ok_turn_by (T : Txt w K mg) : FnG P w K mg base CX0 1 T.f_turn_by T.d_turn_by ["amount", "turn"] (dSp K sp_turn_by) := by
  refine dfun T.F_turn_by sc_turn_by (fun _ => rfl) fun cdv A outer s H E hr => ⟨_, (dss_cons (ds_pat (dg_tp rfl (dgs_cons (dg_nm 3 sc_turn_by.nd) (dgs_cons (dg_nm 4 sc_turn_by.nd) (dgs_cons (dg_nm 5 sc_turn_by.nd) (dgs_cons (dg_nm 6 sc_turn_by.nd) dgs_nil))))) (dv 0))
      (dss_cons (ds_set (i := 2) sc_turn_by.nd (de_op opd_mod (dv 1) de_int))
      (dss_cons (ds_if (dt_cmp (opd_eq hr.r.units) (dv 2) de_int) (dss_one (ds_pat (dg_tp rfl (dgs_cons (dg_nm 3 sc_turn_by.nd) (dgs_cons (dg_nm 4 sc_turn_by.nd) (dgs_cons (dg_nm 5 sc_turn_by.nd) (dgs_cons (dg_nm 6 sc_turn_by.nd) dgs_nil))))) (de_tup (da_cons (de_un und_neg (dv 6)) (da_cons (dv 3) (da_cons (dv 4) (da_cons (dv 5) da_nil))))))) dss_nil)
      (dss_cons (ds_if (dt_cmp (opd_eq hr.r.units) (dv 2) de_int) (dss_one (ds_pat (dg_tp rfl (dgs_cons (dg_nm 3 sc_turn_by.nd) (dgs_cons (dg_nm 4 sc_turn_by.nd) (dgs_cons (dg_nm 5 sc_turn_by.nd) (dgs_cons (dg_nm 6 sc_turn_by.nd) dgs_nil))))) (de_tup (da_cons (de_un und_neg (dv 5)) (da_cons (de_un und_neg (dv 6)) (da_cons (dv 3) (da_cons (dv 4) da_nil))))))) dss_nil)
      (dss_cons (ds_if (dt_cmp (opd_eq hr.r.units) (dv 2) de_int) (dss_one (ds_pat (dg_tp rfl (dgs_cons (dg_nm 3 sc_turn_by.nd) (dgs_cons (dg_nm 4 sc_turn_by.nd) (dgs_cons (dg_nm 5 sc_turn_by.nd) (dgs_cons (dg_nm 6 sc_turn_by.nd) dgs_nil))))) (de_tup (da_cons (de_un und_neg (dv 4)) (da_cons (de_un und_neg (dv 5)) (da_cons (de_un und_neg (dv 6)) (da_cons (dv 3) da_nil))))))) dss_nil)
      (dss_one (ds_ret (de_if (dt_cmp opd_lt (de_op opd_mod (dv 1) de_int) de_int) (de_tup (da_cons (dv 3) (da_cons (dv 4) (da_cons (dv 5) (da_cons (dv 6) da_nil))))) (de_tup (da_cons (de_un und_neg (dv 3)) (da_cons (de_un und_neg (dv 4)) (da_cons (de_un und_neg (dv 5)) (da_cons (de_un und_neg (dv 6)) da_nil))))))))))))), fun i cs hp => ?_⟩
  obtain ⟨x, n⟩ := i
  have hn : n % 8 = 0 ∨ n % 8 = 1 ∨ n % 8 = 2 ∨ n % 8 = 3 ∨ n % 8 = 4 ∨ n % 8 = 5 ∨ n % 8 = 6 ∨ n % 8 = 7 := by omega
  simp only [Am.t, Am.ds]
  clear hp
  rcases hn with h | h | h | h | h | h | h | h
  all_goals
    have h4 : n % 4 = n % 8 % 4 := by omega
    rw [h] at h4
    simp only [Int.reduceMod] at h4
    walk_at "dlh"
    simp only [Int.reduceToNat, Am.tn, Am.tn1, Int.neg_neg]
end
section
local macro_rules | `(tactic| walk_at "k") => `(tactic| refine turn_by_i ?_)
structure TpI where
  xs : Spr
  p : Nat
  t : Int
abbrev sp_turn_place : FSpec := { ι := TpI, args := fun i => [.tup (sT i.xs), .int i.p, .int i.t], pre := fun i _ => i.xs.length ≤ 4096, res := fun i cs d cs' => d = .tup (sT (turnL i.xs i.p (i.t % 8).toNat)) ∧ cs' = cs }
theorem turn_place_i {xs : Spr} {p : Nat} {t : Int} {cs : Sto} {Q : PD} {z : Lz (sp_turn_place, Q)} (h : xs.length ≤ 4096) (q : Q (.tup (sT (turnL xs p (t % 8).toNat))) cs) : callP sp_turn_place [.tup (sT xs), .int p, .int t] cs Q z := callP_i ⟨xs, p, t⟩ rfl h fun _ _ ⟨e1, e2⟩ => by subst e1; subst e2; exact q
theorem calm_turn_place : Calm sp_turn_place := ⟨fun _ _ _ _ h => h⟩
set_option maxHeartbeats 4000000 in
theorem ok_turn_place (T : Txt w K mg) : FnG P w K mg base CX0 2 T.f_turn_place T.d_turn_place ["spread", "place", "turn"] (dSp K sp_turn_place) := by
  refine dfun T.F_turn_place sc_turn_place (fun _ => rfl) fun cdv A outer s H E hr => ⟨_, (dss_one (ds_ret (de_callT cd_tup T.z_tuple (by decide +kernel) (da_cons (de_lc (own := [("at", 3), ("amount", 4)]) rfl sc_turn_place.nd (di_enum T.z_enumerate (da_cons (dv 0) da_nil)) (blkOk_by (own := [("at", 3), ("amount", 4)]) (N := N_turn_place) (sc := defScope s_turn_place) (by decide +kernel)) (fun _ _ _ _ _ => (dg_tp rfl (dgs_cons (dg_nm 3 sc_turn_place.nd) (dgs_cons (dg_nm 4 sc_turn_place.nd) dgs_nil)))) (fun _ _ _ _ _ => dts_nil) (fun _ _ _ _ _ => (de_if (dt_tru (de_op opd_band (de_op opd_shr (dv 3) (dv 1)) de_int)) (de_call calm_turn_by (ok_turn_by T) (hr.mono (by decide)) T.m_turn_by T.F_turn_by.kp T.b_turn_by (da_cons (dv 4) (da_cons (dv 2) da_nil))) (dv 4)))) da_nil)))), fun i cs hp => ?_⟩
  obtain ⟨xs, p, t⟩ := i
  have hl : xs.length ≤ 4096 := hp
  have hz : (enD 0 (sT xs)).length ≤ sizeLine := by
    rw [enD_len, sT, List.length_map, sizeLine_eq]
    omega
  have p0 : (0 : Int) ≤ (p : Int) := by omega
  walk_at "dl"
  refine ⟨hz, lcP_i (lc_inv (fun i acc cs' => acc = sT ((turnL xs p (t % 8).toNat).take i) ∧ cs' = cs) _ _ _ ⟨rfl, rfl⟩ (fun _ _ _ _ => trivial) ?_ ?_)⟩
  · rintro i d _ _ hd ⟨rfl, rfl⟩
    obtain ⟨y, h1, rfl⟩ := enD_get _ _ _ _ hd
    obtain ⟨x, hx, rfl⟩ := sT_get h1
    have hi : i < xs.length := (List.getElem?_eq_some_iff.mp hx).1
    have hg := sT_take (turnL_get (p := p) (k := (t % 8).toNat) hi)
    rw [atS_some hx] at hg
    refine ⟨_, rfl, fun R1 R2 r1 r2 => ?_⟩
    walk_at "dlh"
    simp only [bit_at]
    refine cond2_d (fun hb => ?_) (fun hb => ?_)
    · rw [if_pos hb] at hg
      walk_at "dl"
      refine turn_by_i ?_
      exact r1 _ _ ⟨hg.symm, rfl⟩
    · rw [if_neg hb] at hg
      walk_at "dl"
      exact r1 _ _ ⟨hg.symm, rfl⟩
  · rintro _ _ ⟨rfl, rfl⟩
    have e : (turnL xs p (t % 8).toNat).take (enD 0 (sT xs)).length = turnL xs p (t % 8).toNat := by
      rw [enD_len, sT, List.length_map, List.take_of_length_le (by rw [turnL_len]; exact Nat.le_refl _)]
    simp only [e]
    walk_at "dl"
end
section
abbrev sp_plus : FSpec := { ι := Am × Am, args := fun i => [i.1.t, i.2.t], pre := fun _ _ => True, res := fun i cs d cs' => d = (i.1.add i.2).t ∧ cs' = cs }
theorem plus_i {x y : Am} {cs : Sto} {Q : PD} {z : Lz (sp_plus, Q)} (q : Q (x.add y).t cs) : callP sp_plus [x.t, y.t] cs Q z := callP_i (x, y) rfl trivial fun _ _ ⟨e1, e2⟩ => by subst e1; subst e2; exact q
theorem calm_plus : Calm sp_plus := ⟨fun _ _ _ _ h => h⟩
set_option maxHeartbeats 4000000 in
theorem ok_plus (T : Txt w K mg) : FnG P w K mg base CX0 1 T.f_plus T.d_plus ["one", "other"] (dSp K sp_plus) := by
  refine dfun T.F_plus sc_plus (fun _ => rfl) fun cdv A outer s H E hr => ⟨_, (dss_one (ds_ret (de_tup (da_cons (de_op opd_add (de_ix (dv 0) de_int) (de_ix (dv 1) de_int)) (da_cons (de_op opd_add (de_ix (dv 0) de_int) (de_ix (dv 1) de_int)) (da_cons (de_op opd_add (de_ix (dv 0) de_int) (de_ix (dv 1) de_int)) (da_cons (de_op opd_add (de_ix (dv 0) de_int) (de_ix (dv 1) de_int)) da_nil))))))), fun i cs hp => ?_⟩
  obtain ⟨x, y⟩ := i
  simp only [sp_plus, Am.t, Am.ds]
  walk_at "dl"
  rfl
end
section
abbrev sp_minus : FSpec := { ι := Am, args := fun i => [i.t], pre := fun _ _ => True, res := fun i cs d cs' => d = i.neg.t ∧ cs' = cs }
theorem minus_i {x : Am} {cs : Sto} {Q : PD} {z : Lz (sp_minus, Q)} (q : Q x.neg.t cs) : callP sp_minus [x.t] cs Q z := callP_i x rfl trivial fun _ _ ⟨e1, e2⟩ => by subst e1; subst e2; exact q
theorem calm_minus : Calm sp_minus := ⟨fun _ _ _ _ h => h⟩
set_option maxHeartbeats 4000000 in
theorem ok_minus (T : Txt w K mg) : FnG P w K mg base CX0 1 T.f_minus T.d_minus ["amount"] (dSp K sp_minus) := by
  refine dfun T.F_minus sc_minus (fun _ => rfl) fun cdv A outer s H E hr => ⟨_, (dss_one (ds_ret (de_tup (da_cons (de_un und_neg (de_ix (dv 0) de_int)) (da_cons (de_un und_neg (de_ix (dv 0) de_int)) (da_cons (de_un und_neg (de_ix (dv 0) de_int)) (da_cons (de_un und_neg (de_ix (dv 0) de_int)) da_nil))))))), fun i cs hp => ?_⟩
  simp only [sp_minus, Am.t, Am.ds]
  walk_at "dl"
  rfl
end
section
local macro_rules | `(tactic| walk_at "k") => `(tactic| refine minus_i ?_)
local macro_rules | `(tactic| walk_at "k") => `(tactic| refine plus_i ?_)
abbrev sp_mix : FSpec := { ι := (Spr × Nat) × Nat, args := fun i => [.tup (sT i.1.1), .int i.2], pre := fun i _ => i.1.1.W i.1.2 ∧ i.2 < i.1.2, res := fun i cs d cs' => d = .tup (sT (mixL i.1.1 i.2)) ∧ cs' = cs }
theorem mix_i {xs : Spr} {n p : Nat} {cs : Sto} {Q : PD} {z : Lz (sp_mix, Q)} (w : xs.W n) (h : p < n) (q : Q (.tup (sT (mixL xs p))) cs) : callP sp_mix [.tup (sT xs), .int p] cs Q z := callP_i ((xs, n), p) rfl ⟨w, h⟩ fun _ _ ⟨e1, e2⟩ => by subst e1; subst e2; exact q
theorem calm_mix : Calm sp_mix := ⟨fun _ _ _ _ h => h⟩
set_option maxHeartbeats 4000000 in
theorem ok_mix (T : Txt w K mg) : FnG P w K mg base CX0 2 T.f_mix T.d_mix ["spread", "place"] (dSp K sp_mix) := by
  refine dfunT T.F_mix sc_mix (fun _ => rfl) fun cdv A outer s H E hr => ⟨_, (dss_cons (ds_par (i := 2) (j := 3) rfl sc_mix.nd (da_cons (de_op opd_shl de_int (dv 1)) (da_cons (de_cel da_nil) da_nil)))
      (dss_cons (ds_for PassesOwn.never rfl (di_enum T.z_enumerate (da_cons (dv 0) da_nil)) (dg_tp rfl (dgs_cons (dg_nm 4 sc_mix.nd) (dgs_cons (dg_nm 5 sc_mix.nd) dgs_nil))) (dss_one (ds_expr (de_append (dv 3) (da_cons (de_if (dt_tru (de_op opd_band (dv 4) (dv 2))) (de_call calm_plus (ok_plus T) (hr.mono (by decide)) T.m_plus T.F_plus.kp T.b_plus (da_cons (de_ix (dv 0) (de_op opd_bxor (dv 4) (dv 2))) (da_cons (de_call calm_minus (ok_minus T) (hr.mono (by decide)) T.m_minus T.F_minus.kp T.b_minus (da_cons (dv 5) da_nil)) da_nil))) (de_call calm_plus (ok_plus T) (hr.mono (by decide)) T.m_plus T.F_plus.kp T.b_plus (da_cons (dv 5) (da_cons (de_ix (dv 0) (de_op opd_bxor (dv 4) (dv 2))) da_nil)))) da_nil)))))
      (dss_one (ds_ret (de_callT cd_tup T.z_tuple (by decide +kernel) (da_cons (dv 3) da_nil)))))), fun i cs hk hp => ?_⟩
  obtain ⟨⟨xs, n⟩, p⟩ := i
  obtain ⟨hw, hpn⟩ : xs.W n ∧ p < n := hp
  have hn := hw.few
  have hle := hw.le
  have c1 : CPow 1 (p : Int) = True := eq_true ⟨by omega, by omega, by decide⟩
  walk_at "dl"
  simp only [c1, Int.one_mul]
  walk_at "dl"
  try simp only [Int.one_mul]
  refine forP_i (for_inv (fun k env cs' => (∃ o1 o2, env = [some (.tup (sT xs)), some (.int p), some (.int (2 ^ p)), some (.cell cs.length), o1, o2]) ∧ cs' = cs ++ [.lst (sT ((mixL xs p).take k))]) _ _ _ ⟨⟨_, _, rfl⟩, rfl⟩ (fun _ _ _ _ => trivial) ?_ ?_)
  · rintro k d _ _ hd ⟨⟨o1, o2, rfl⟩, rfl⟩
    obtain ⟨y, h1, rfl⟩ := enD_get _ _ _ _ hd
    rw [Nat.zero_add]
    obtain ⟨x, hx, rfl⟩ := sT_get h1
    have hk : k < xs.length := (List.getElem?_eq_some_iff.mp hx).1
    have hf : fl p k < xs.length := by
      rw [hw.len]
      exact fl_lt hpn (by rw [← hw.len]; exact hk)
    have hz : (sT ((mixL xs p).take k)).length < sizeLine := by
      rw [sT, List.length_map, List.length_take, sizeLine_eq]
      omega
    have ea := atS_some hx
    have eg : (mixL xs p)[k]? = some (if bt p k = true then (atS xs (fl p k)).add x.neg else x.add (atS xs (fl p k))) := by
      rw [mixL, List.getElem?_map, List.getElem?_range hk, ← ea]
      rfl
    have es := sT_take eg
    have hb : (Builtin.bitAnd (k : Int) (2 ^ p) != 0) = bt p k := by
      rw [PySem.W.kbt_bit, Bool.eq_iff_iff]
      unfold bt
      have e1 : (k : Int) / 2 ^ p % 2 = ((k / 2 ^ p % 2 : Nat) : Int) := by rw [← p2, Int.natCast_emod, Int.natCast_ediv]; rfl
      rw [e1, ← p2]
      have h2 := Nat.two_pow_pos p
      have h3 := Nat.mod_lt (k / 2 ^ p) (by decide : 0 < 2)
      generalize k / 2 ^ p % 2 = u at *
      have : u = 0 ∨ u = 1 := by omega
      rcases this with rfl | rfl
      · simp
      · constructor
        · intro _
          rfl
        · intro _
          rw [bne_iff_ne]
          intro e
          rw [show (((1 : Nat)) : Int) = 1 from rfl, Int.one_mul] at e
          omega
    refine ⟨_, rfl, fun E' hn2 _ _ _ => ?_⟩
    walk_at "dl"
    simp only [hb]
    refine cond2_i (fun hb2 => ?_) (fun hb2 => ?_)
    · rw [if_pos hb2] at es
      walk_at "dl"
      simp only [bxor_fl, atS_get hf]
      walk_at "dl"
      refine minus_i (x := x) ?_
      walk_at "dl"
      refine plus_i ?_
      walk_at "dl"
      exact ⟨hz, hn2 _ _ ⟨⟨_, _, rfl⟩, by rw [es]⟩⟩
    · rw [if_neg (by rw [hb2]; decide)] at es
      walk_at "dl"
      simp only [bxor_fl, atS_get hf]
      walk_at "dl"
      refine plus_i (x := x) ?_
      walk_at "dl"
      exact ⟨hz, hn2 _ _ ⟨⟨_, _, rfl⟩, by rw [es]⟩⟩
  · rintro _ _ ⟨⟨o1, o2, rfl⟩, rfl⟩
    have e : (mixL xs p).take (enD 0 (sT xs)).length = mixL xs p := by
      rw [enD_len, sT, List.length_map, List.take_of_length_le (by rw [mixL_len]; exact Nat.le_refl _)]
    walk_at "dl"
    rw [e]
    exact trim_app hk (by simp only [okD]; exact okT _) ⟨rfl, rfl⟩
end
section
local macro_rules | `(tactic| walk_at "k") => `(tactic| refine minus_i ?_)
structure TiI where
  xs : Spr
  n : Nat
  p : Nat
  q : Nat
abbrev sp_tie : FSpec := { ι := TiI, args := fun i => [.tup (sT i.xs), .int i.p, .int i.q], pre := fun i _ => i.xs.W i.n ∧ i.p < i.n ∧ i.q < i.n, res := fun i cs d cs' => d = .tup (sT (tieL i.xs i.p i.q)) ∧ cs' = cs }
theorem tie_i {xs : Spr} {n p q : Nat} {cs : Sto} {Q : PD} {z : Lz (sp_tie, Q)} (w : xs.W n) (h : p < n) (h2 : q < n) (k : Q (.tup (sT (tieL xs p q))) cs) : callP sp_tie [.tup (sT xs), .int p, .int q] cs Q z := callP_i ⟨xs, n, p, q⟩ rfl ⟨w, h, h2⟩ fun _ _ ⟨e1, e2⟩ => by subst e1; subst e2; exact k
theorem calm_tie : Calm sp_tie := ⟨fun _ _ _ _ h => h⟩
set_option maxHeartbeats 4000000 in
theorem ok_tie (T : Txt w K mg) : FnG P w K mg base CX0 2 T.f_tie T.d_tie ["spread", "one", "other"] (dSp K sp_tie) := by
  refine dfun T.F_tie sc_tie (fun _ => rfl) fun cdv A outer s H E hr => ⟨_, (dss_cons (ds_set (i := 3) sc_tie.nd (de_op opd_bor (de_op opd_shl de_int (dv 1)) (de_op opd_shl de_int (dv 2))))
      (dss_one (ds_ret (de_callT cd_tup T.z_tuple (by decide +kernel) (da_cons (de_lc (own := [("at", 4), ("amount", 5)]) rfl sc_tie.nd (di_enum T.z_enumerate (da_cons (dv 0) da_nil)) (blkOk_by (own := [("at", 4), ("amount", 5)]) (N := N_tie) (sc := defScope s_tie) (by decide +kernel)) (fun _ _ _ _ _ => (dg_tp rfl (dgs_cons (dg_nm 4 sc_tie.nd) (dgs_cons (dg_nm 5 sc_tie.nd) dgs_nil)))) (fun _ _ _ _ _ => dts_nil) (fun _ _ _ _ _ => (de_if (dt_cmp (opd_eq hr.r.units) (de_op opd_band (dv 4) (dv 3)) (dv 3)) (de_call calm_minus (ok_minus T) (hr.mono (by decide)) T.m_minus T.F_minus.kp T.b_minus (da_cons (dv 5) da_nil)) (dv 5)))) da_nil))))), fun i cs hp => ?_⟩
  obtain ⟨xs, n, p, q⟩ := i
  obtain ⟨hw, hpn, hqn⟩ : xs.W n ∧ p < n ∧ q < n := hp
  have hn := hw.few
  have hle := hw.le
  have c1 : CPow 1 (p : Int) = True := eq_true ⟨by omega, by omega, by decide⟩
  have c2 : CPow 1 (q : Int) = True := eq_true ⟨by omega, by omega, by decide⟩
  have hz : (enD 0 (sT xs)).length ≤ sizeLine := by
    rw [enD_len, sT, List.length_map, sizeLine_eq]
    omega
  walk_at "dl"
  simp only [c1, c2, Int.one_mul]
  walk_at "dl"
  try simp only [c1, c2, Int.one_mul]
  try walk_at "dl"
  refine ⟨hz, lc_en xs Am.t (fun k x => if (bt p k && bt q k) = true then x.neg.t else x.t) trivial (fun k x hx => ⟨_, rfl, fun R r => ?_⟩) ?_⟩
  · walk_at "dl"
    simp only [Int.one_mul, both_bits]
    refine cond2_d (fun hb => ?_) (fun hb => ?_)
    · rw [if_pos hb] at r
      walk_at "dl"
      exact minus_i r
    · rw [if_neg hb] at r
      walk_at "dl"
      exact r
  · walk_at "dl"
    rw [D.tup.injEq]
    apply List.ext_getElem
    · simp [sT, tieL]
    · intro a h1 h2
      have ha : a < xs.length := by simpa using h1
      simp only [List.getElem_mapIdx, sT, tieL, List.getElem_map, List.getElem_range]
      rw [atS_some (List.getElem?_eq_getElem ha)]
      split <;> rfl
end
section
abbrev sp_exchange : FSpec := { ι := (Spr × Nat) × Nat, args := fun i => [.tup (sT i.1.1), .int i.2], pre := fun i _ => i.1.1.W i.1.2 ∧ i.2 < i.1.2, res := fun i cs d cs' => d = .tup (sT (exchL i.1.1 i.2)) ∧ cs' = cs }
theorem exchange_i {xs : Spr} {n p : Nat} {cs : Sto} {Q : PD} {z : Lz (sp_exchange, Q)} (w : xs.W n) (h : p < n) (q : Q (.tup (sT (exchL xs p))) cs) : callP sp_exchange [.tup (sT xs), .int p] cs Q z := callP_i ((xs, n), p) rfl ⟨w, h⟩ fun _ _ ⟨e1, e2⟩ => by subst e1; subst e2; exact q
theorem calm_exchange : Calm sp_exchange := ⟨fun _ _ _ _ h => h⟩
set_option maxHeartbeats 4000000 in
theorem ok_exchange (T : Txt w K mg) : FnG P w K mg base CX0 1 T.f_exchange T.d_exchange ["spread", "place"] (dSp K sp_exchange) := by
  refine dfun T.F_exchange sc_exchange (fun _ => rfl) fun cdv A outer s H E hr => ⟨_, (dss_one (ds_ret (de_callT cd_tup T.z_tuple (by decide +kernel) (da_cons (de_lc (own := [("at", 2)]) rfl sc_exchange.nd (di_range1 T.z_range (da_cons (de_callB cd_len T.z_len (by decide +kernel) (da_cons (dv 0) da_nil)) da_nil)) (blkOk_by (own := [("at", 2)]) (N := N_exchange) (sc := defScope s_exchange) (by decide +kernel)) (fun _ _ _ _ _ => (dg_nm 2 sc_exchange.nd)) (fun _ _ _ _ _ => dts_nil) (fun _ _ _ _ _ => (de_ix (dv 0) (de_op opd_bxor (dv 2) (de_op opd_shl de_int (dv 1)))))) da_nil)))), fun i cs hp => ?_⟩
  obtain ⟨⟨xs, n⟩, p⟩ := i
  obtain ⟨hw, hpn⟩ : xs.W n ∧ p < n := hp
  have hn := hw.few
  have hle := hw.le
  have c1 : CPow 1 (p : Int) = True := eq_true ⟨by omega, by omega, by decide⟩
  have hl : ((sT xs).length : Int) = ((xs.length : Nat) : Int) := by rw [sT, List.length_map]
  have hl' : (sT xs).length = xs.length := by rw [sT, List.length_map]
  walk_at "dl"
  simp only [hl]
  refine ⟨by omega, by rw [rngD_len, sizeLine_eq]; omega, lc_rng (fun k => (atS xs (fl p k)).t) trivial _ (fun k hk => ⟨_, rfl, fun R q => ?_⟩) ?_⟩
  · have hk2 : k < 2 ^ n := by rw [← hw.len]; omega
    have hf : fl p k < xs.length := by rw [hw.len]; exact fl_lt hpn hk2
    walk_at "dl"
    simp only [c1, Int.one_mul, bxor_fl]
    walk_at "dl"
    simp only [atS_get hf]
    walk_at "dl"
    exact q
  · walk_at "dl"
    rw [D.tup.injEq, exchL, hl']
    unfold sT
    rw [List.map_map]
    rfl
end
section
structure LyI where
  xs : Spr
  n : Nat
  d : D
  os : List Nat
abbrev sp_lay : FSpec := { ι := LyI, args := fun i => [.tup (sT i.xs), i.d], pre := fun i _ => i.xs.W i.n ∧ stay i.d = some (nT i.os) ∧ i.os.Nodup ∧ (∀ o ∈ i.os, o < i.n) ∧ i.os.length ≤ 12, res := fun i cs d cs' => d = .tup (sT (layL i.xs i.os)) ∧ cs' = cs }
theorem lay_i {xs : Spr} {n : Nat} {d : D} {os : List Nat} {cs : Sto} {Q : PD} {z : Lz (sp_lay, Q)} (w : xs.W n) (h : stay d = some (nT os)) (hn : os.Nodup) (ho : ∀ o ∈ os, o < n) (hl : os.length ≤ 12) (q : Q (.tup (sT (layL xs os))) cs) : callP sp_lay [.tup (sT xs), d] cs Q z := callP_i ⟨xs, n, d, os⟩ rfl ⟨w, h, hn, ho, hl⟩ fun _ _ ⟨e1, e2⟩ => by subst e1; subst e2; exact q
theorem calm_lay : Calm sp_lay := ⟨fun _ _ _ _ h => h⟩
set_option maxHeartbeats 4000000 in
theorem ok_lay (T : Txt w K mg) : FnG P w K mg base CX0 1 T.f_lay T.d_lay ["spread", "order"] (dSp K sp_lay) := by
  refine dfunT T.F_lay sc_lay (fun _ => rfl) fun cdv A outer s H E hr => ⟨_, (dss_cons (ds_set (i := 2) sc_lay.nd (de_cel da_nil))
      (dss_cons (ds_for PassesOwn.never rfl (di_range1 T.z_range (da_cons (de_callB cd_len T.z_len (by decide +kernel) (da_cons (dv 0) da_nil)) da_nil)) (dg_nm 3 sc_lay.nd) (dss_one (ds_expr (de_append (dv 2) (da_cons (de_ix (dv 0) (de_callB (cd_sum rfl) T.z_sum (by decide +kernel) (da_cons (de_lc (own := [("new", 4), ("its", 5)]) rfl sc_lay.nd (di_enum T.z_enumerate (da_cons (dv 1) da_nil)) (blkOk_by (own := [("new", 4), ("its", 5)]) (N := N_lay) (sc := defScope s_lay) (by decide +kernel)) (fun _ _ _ _ _ => (dg_tp rfl (dgs_cons (dg_nm 4 sc_lay.nd) (dgs_cons (dg_nm 5 sc_lay.nd) dgs_nil)))) (fun _ _ _ _ _ => (dts_one (dt_tru (de_op opd_band (de_op opd_shr (dv 3) (dv 4)) de_int)))) (fun _ _ _ _ _ => (de_op opd_shl de_int (dv 5)))) da_nil))) da_nil)))))
      (dss_one (ds_ret (de_callT cd_tup T.z_tuple (by decide +kernel) (da_cons (dv 2) da_nil)))))), fun i cs hk hp => ?_⟩
  obtain ⟨xs, n, d, os⟩ := i
  obtain ⟨hw, hd, hnd, ho, hl12⟩ : xs.W n ∧ stay d = some (nT os) ∧ os.Nodup ∧ (∀ o ∈ os, o < n) ∧ os.length ≤ 12 := hp
  have hn := hw.few
  have hle := hw.le
  have hl : ((sT xs).length : Int) = ((xs.length : Nat) : Int) := by rw [sT, List.length_map]
  have hl' : (sT xs).length = xs.length := by rw [sT, List.length_map]
  have hd2 : d = .lst (nT os) ∨ d = .tup (nT os) := by
    cases d <;> simp [stay] at hd <;> simp [hd]
  rcases hd2 with h2 | h2
  all_goals
    walk_at "dl"
    simp only [hl]
    refine ⟨by omega, forP_i (for_inv (fun k env cs' => (∃ o3 o4 o5, env = [some (.tup (sT xs)), some d, some (.cell cs.length), o3, o4, o5]) ∧ cs' = cs ++ [.lst (sT ((layL xs os).take k))]) _ _ _ ⟨⟨_, _, _, rfl⟩, rfl⟩ (fun _ _ _ _ => trivial) ?_ ?_)⟩
    · rintro k e _ _ he ⟨⟨o3, o4, o5, rfl⟩, rfl⟩
      obtain ⟨hk, rfl⟩ := rngD_get he
      rw [hl'] at hk
      rw [Int.zero_add]
      have hix : layIx os k < xs.length := by rw [hw.len]; exact layIx_lt hnd ho
      have hz : (sT ((layL xs os).take k)).length < sizeLine := by
        rw [sT, List.length_map, List.length_take, sizeLine_eq]
        omega
      have eg : (layL xs os)[k]? = some (atS xs (layIx os k)) := by
        rw [layL, List.getElem?_map, List.getElem?_range hk]
        rfl
      have es := sT_take eg
      refine ⟨_, rfl, fun E' hn2 _ _ _ => ?_⟩
      walk_at "dl"
      simp only [h2]
      walk_at "dl"
      refine ⟨by rw [enD_len, nT, List.length_map, sizeLine_eq]; omega, lcP_i (lc_inv (fun i acc cs' => (acc = (((os.take i).zipIdx.filter fun p => bt p.2 k).map fun p => 2 ^ p.1).map fun m : Nat => D.int m) ∧ cs' = cs ++ [.lst (sT ((layL xs os).take k))]) _ _ _ ⟨by simp, rfl⟩ (fun _ _ _ _ => trivial) ?_ ?_)⟩
      · rintro i e acc _ hi ⟨rfl, rfl⟩
        obtain ⟨y, h1, rfl⟩ := enD_get _ _ _ _ hi
        rw [nT, List.getElem?_map] at h1
        obtain ⟨o, h2, rfl⟩ := Option.map_eq_some_iff.mp h1
        have hil : i < os.length := (List.getElem?_eq_some_iff.mp h2).1
        have hon : o < n := ho o (List.mem_of_getElem? h2)
        rw [Nat.zero_add]
        have c1 : CPow 1 (o : Int) = True := eq_true ⟨by omega, by omega, by decide⟩
        have p0 : (0 : Int) ≤ (i : Int) := by omega
        have ez : (((os.take (i + 1)).zipIdx.filter fun p => bt p.2 k).map fun p => 2 ^ p.1) = (((os.take i).zipIdx.filter fun p => bt p.2 k).map fun p => 2 ^ p.1) ++ if bt i k = true then [2 ^ o] else [] := by
          rw [take_succ' h2, List.zipIdx_append, List.filter_append, List.map_append]
          congr 1
          have e1 : (os.take i).length = i := by rw [List.length_take]; omega
          rw [e1, Nat.zero_add]
          show List.map _ (List.filter _ [(o, i)]) = _
          by_cases hb : bt i k = true
          · simp [hb]
          · simp [hb]
        refine ⟨_, rfl, fun R1 R2 r1 r2 => ?_⟩
        walk_at "dl"
        refine ⟨p0, ?_⟩
        simp only [Int.toNat_natCast, bit_at]
        refine ite_i (fun hb => ?_) (fun hb => ?_)
        · have hb' : bt i k = true := hb
          rw [if_pos hb'] at ez
          simp only [c1, Int.one_mul]
          walk_at "dl"
          refine r1 _ _ ⟨?_, rfl⟩
          rw [ez, List.map_append]
          try (congr 1; done)
          try (congr 1; rw [← p2]; rfl)
        · have hb' : ¬ bt i k = true := hb
          rw [if_neg hb', List.append_nil] at ez
          exact r2 _ ⟨by rw [ez], rfl⟩
      · rintro acc _ ⟨rfl, rfl⟩
        have et : os.take (enD 0 (nT os)).length = os := by rw [enD_len, nT, List.length_map, List.take_length]
        rw [et]
        have en : ((((os.zipIdx.filter fun p => bt p.2 k).map fun p => 2 ^ p.1).map fun m : Nat => D.int m)) = (((os.zipIdx.filter fun p => bt p.2 k).map fun p => 2 ^ p.1).map fun m : Nat => (m : Int)).map D.int := by rw [List.map_map (f := fun m : Nat => (m : Int))]; rfl
        have esum : ∀ l : List Nat, (l.map fun m : Nat => (m : Int)).sum = ((l.sum : Nat) : Int) := fun l => by
          induction l with
          | nil => rfl
          | cons x l ih => rw [List.map_cons, List.sum_cons, List.sum_cons, ih]; omega
        walk_at "dl"
        simp only [en, nums_map]
        walk_at "dl"
        try simp only [esum]
        have e6 : ((os.zipIdx.filter fun p => bt p.2 k).map fun p => 2 ^ p.1).sum = layIx os k := rfl
        simp only [e6, atS_get hix]
        walk_at "dl"
        exact ⟨hz, hn2 _ _ ⟨⟨_, _, _, rfl⟩, by rw [es]⟩⟩
    · rintro _ _ ⟨⟨o3, o4, o5, rfl⟩, rfl⟩
      rw [rngD_len, hl']
      walk_at "dl"
      rw [List.take_of_length_le (by rw [layL_len]; exact Nat.le_refl _)]
      exact trim_app hk (by simp only [okD]; exact okT _) ⟨rfl, rfl⟩
end
section
abbrev sp_width : FSpec := { ι := Spr × Nat, args := fun i => [.tup (sT i.1)], pre := fun i _ => i.1.W i.2, res := fun i cs d cs' => d = .int (i.2 : Nat) ∧ cs' = cs }
theorem width_i {xs : Spr} {n : Nat} {cs : Sto} {Q : PD} {z : Lz (sp_width, Q)} (w : xs.W n) (q : Q (.int (n : Nat)) cs) : callP sp_width [.tup (sT xs)] cs Q z := callP_i (xs, n) rfl w fun _ _ ⟨e1, e2⟩ => by subst e1; subst e2; exact q
theorem calm_width : Calm sp_width := ⟨fun _ _ _ _ h => h⟩
set_option maxHeartbeats 4000000 in
theorem ok_width (T : Txt w K mg) : FnG P w K mg base CX0 1 T.f_width T.d_width ["spread"] (dSp K sp_width) := by
  refine dfun T.F_width sc_width (fun _ => rfl) fun cdv A outer s H E hr => ⟨_, (dss_one (ds_ret (de_op opd_sub (de_bits (de_callB cd_len T.z_len (by decide +kernel) (da_cons (dv 0) da_nil))) de_int))), fun i cs hp => ?_⟩
  obtain ⟨xs, n⟩ := i
  have hw : xs.W n := hp
  have hl : ((sT xs).length : Int) = ((2 ^ n : Nat) : Int) := by rw [sT, List.length_map, hw.len]
  walk_at "dl"
  simp only [hl, bits_pow]
  congr 1
  omega
end
section
local macro_rules | `(tactic| walk_at "k") => `(tactic| refine width_i (by assumption) ?_)
structure SwI where
  xs : Spr
  n : Nat
  a : Nat
  b : Nat
abbrev sp_swapped : FSpec := { ι := SwI, args := fun i => [.tup (sT i.xs), .int i.a, .int i.b], pre := fun i _ => i.xs.W i.n ∧ i.a < i.n ∧ i.b < i.n, res := fun i cs d cs' => d = .tup (sT (layL i.xs (swO i.n i.a i.b))) ∧ cs' = cs }
theorem swapped_i {xs : Spr} {n a b : Nat} {cs : Sto} {Q : PD} {z : Lz (sp_swapped, Q)} (w : xs.W n) (h : a < n) (h2 : b < n) (q : Q (.tup (sT (layL xs (swO n a b)))) cs) : callP sp_swapped [.tup (sT xs), .int a, .int b] cs Q z := callP_i ⟨xs, n, a, b⟩ rfl ⟨w, h, h2⟩ fun _ _ ⟨e1, e2⟩ => by subst e1; subst e2; exact q
theorem calm_swapped : Calm sp_swapped := ⟨fun _ _ _ _ h => h⟩
set_option maxHeartbeats 4000000 in
theorem ok_swapped (T : Txt w K mg) : FnG P w K mg base CX0 2 T.f_swapped T.d_swapped ["spread", "one", "other"] (dSp K sp_swapped) := by
  refine dfunT T.F_swapped sc_swapped (fun _ => rfl) fun cdv A outer s H E hr => ⟨_, (dss_cons (ds_set (i := 3) sc_swapped.nd (de_celRg1 rfl T.z_list T.z_range (de_call calm_width (ok_width T) (hr.mono (by decide)) T.m_width T.F_width.kp T.b_width (da_cons (dv 0) da_nil))))
      (dss_cons (ds_sw2 rfl (da_cons (dv 2) (da_cons (dv 1) da_nil)) (dv 3) (dv 1) (dv 3) (dv 2))
      (dss_frz 3 (dss_one (ds_ret (de_call calm_lay (ok_lay T) (hr.mono (by decide)) T.m_lay T.F_lay.kp T.b_lay (da_cons (dv 0) (da_cons (dv 3) da_nil)))))))), fun i cs hk hp => ?_⟩
  obtain ⟨xs, n, a, b⟩ := i
  obtain ⟨hw, ha, hb⟩ : xs.W n ∧ a < n ∧ b < n := hp
  have hfew := hw.few
  walk_at "dl"
  refine width_i hw ?_
  have hR : RgOk 0 (n : Int) = True := RgOk_nat (by omega)
  have e0 : rngD 0 n = nT (List.range n) := by
    unfold rngD nT
    refine List.map_congr_left fun i _ => ?_
    rw [Int.zero_add]
  have i1 : ixN (rngD 0 n).length (a : Int) = some a := by rw [rngD_len]; exact ixN_nat ha
  have i2 : ixN ((rngD 0 n).set a (D.int b)).length (b : Int) = some b := by rw [List.length_set, rngD_len]; exact ixN_nat hb
  have e1 : ((rngD 0 n).set a (D.int b)).set b (D.int a) = nT (swO n a b) := by
    rw [e0]
    unfold nT swO
    rw [List.map_set, List.map_set]
  repeat (first | walk_at "dl" | simp only [hR, i1, i2, e1])
  have hl : (swO n a b).length ≤ 12 := by
    unfold swO
    rw [List.length_set, List.length_set, List.length_range]
    exact hfew
  refine lay_i hw rfl (swO_nd n a b ha hb) (swO_lt ha hb) hl ?_
  exact trim_app hk (by simp only [okD]; exact okT _) ⟨rfl, rfl⟩
end
section
structure EwI where
  xs : Spr
  n : Nat
  ws : List Nat
  p : Nat
abbrev sp_exchange_where : FSpec := { ι := EwI, args := fun i => [.tup (sT i.xs), .tup (nT i.ws), .int i.p], pre := fun i _ => i.xs.W i.n ∧ i.ws.Nodup ∧ (∀ w ∈ i.ws, w < i.n) ∧ i.p < i.n, res := fun i cs d cs' => d = .tup (sT (exwL i.xs i.ws i.p)) ∧ cs' = cs }
theorem exw_i {xs : Spr} {n p : Nat} {ws : List Nat} {cs : Sto} {Q : PD} {z : Lz (sp_exchange_where, Q)} (w : xs.W n) (h : ws.Nodup) (h2 : ∀ w ∈ ws, w < n) (hp : p < n) (q : Q (.tup (sT (exwL xs ws p))) cs) : callP sp_exchange_where [.tup (sT xs), .tup (nT ws), .int p] cs Q z := callP_i ⟨xs, n, ws, p⟩ rfl ⟨w, h, h2, hp⟩ fun _ _ ⟨e1, e2⟩ => by subst e1; subst e2; exact q
theorem calm_exchange_where : Calm sp_exchange_where := ⟨fun _ _ _ _ h => h⟩
set_option maxHeartbeats 4000000 in
theorem ok_exchange_where (T : Txt w K mg) : FnG P w K mg base CX0 1 T.f_exchange_where T.d_exchange_where ["spread", "places", "place"] (dSp K sp_exchange_where) := by
  refine dfun T.F_exchange_where sc_exchange_where (fun _ => rfl) fun cdv A outer s H E hr => ⟨_, (dss_cons (ds_set (i := 3) sc_exchange_where.nd (de_callB (cd_sum rfl) T.z_sum (by decide +kernel) (da_cons (de_lc (own := [("each", 4)]) rfl sc_exchange_where.nd (di_seq (dv 1)) (blkOk_by (own := [("each", 4)]) (N := N_exchange_where) (sc := defScope s_exchange_where) (by decide +kernel)) (fun _ _ _ _ _ => (dg_nm 4 sc_exchange_where.nd)) (fun _ _ _ _ _ => dts_nil) (fun _ _ _ _ _ => (de_op opd_shl de_int (dv 4)))) da_nil)))
      (dss_one (ds_ret (de_callT cd_tup T.z_tuple (by decide +kernel) (da_cons (de_lc (own := [("at", 5), ("amount", 6)]) rfl sc_exchange_where.nd (di_enum T.z_enumerate (da_cons (dv 0) da_nil)) (blkOk_by (own := [("at", 5), ("amount", 6)]) (N := N_exchange_where) (sc := defScope s_exchange_where) (by decide +kernel)) (fun _ _ _ _ _ => (dg_tp rfl (dgs_cons (dg_nm 5 sc_exchange_where.nd) (dgs_cons (dg_nm 6 sc_exchange_where.nd) dgs_nil)))) (fun _ _ _ _ _ => dts_nil) (fun _ _ _ _ _ => (de_if (dt_cmp (opd_eq hr.r.units) (de_op opd_band (dv 5) (dv 3)) (dv 3)) (de_ix (dv 0) (de_op opd_bxor (dv 5) (de_op opd_shl de_int (dv 2)))) (dv 6)))) da_nil))))), fun i cs hp => ?_⟩
  obtain ⟨xs, n, ws, p⟩ := i
  obtain ⟨hw, hn, hws, hpn⟩ : xs.W n ∧ ws.Nodup ∧ (∀ w ∈ ws, w < n) ∧ p < n := hp
  have hle := hw.le
  have hfew := hw.few
  have hl12 : ws.length ≤ 12 := by
    have := nodup_len_le hn hws
    omega
  have hz : (nT ws).length ≤ sizeLine := by rw [nT_len, sizeLine_eq]; omega
  have hze : (enD 0 (sT xs)).length ≤ sizeLine := by
    rw [enD_len, sT, List.length_map, sizeLine_eq]
    omega
  have cp : ∀ m : Nat, m < n → CPow 1 (m : Int) = True := fun m hm => eq_true ⟨by omega, by omega, by decide⟩
  walk_at "dl"
  refine ⟨hz, lc_mp ws (fun a : Nat => D.int a) (fun a : Nat => D.int ((2 ^ a : Nat) : Int)) trivial (fun a ha => ⟨_, rfl, fun R q => ?_⟩) ?_⟩
  · walk_at "dl"
    simp only [cp a (hws a ha), Int.one_mul]
    rw [p2] at q
    exact ⟨trivial, q⟩
  repeat (first | walk_at "dl" | simp only [nums_pow, sum_pow])
  refine ⟨hze, lc_en xs Am.t (fun k x => if (ws.all fun w => bt w k) = true then (atS xs (fl p k)).t else x.t) trivial (fun k x hx => ⟨_, rfl, fun R q => ?_⟩) ?_⟩
  · have hk : k < xs.length := (List.getElem?_eq_some_iff.mp hx).1
    have hf : fl p k < xs.length := by rw [hw.len] at hk ⊢; exact fl_lt hpn hk
    have hb : decide (((k &&& (ws.map fun o => 2 ^ o).sum : Nat) : Int) = (((ws.map fun o => 2 ^ o).sum : Nat) : Int)) = (ws.all fun w => bt w k) := by
      rw [Bool.eq_iff_iff, decide_eq_true_eq, ← mask_all hn k]
      omega
    repeat (first | walk_at "dl" | simp only [sum_pow, band_nat, hb])
    cases ha : ws.all fun w => bt w k with
    | true =>
      rw [ha, if_pos rfl] at q
      repeat (first | walk_at "dl" | simp only [cp p hpn, Int.one_mul, bxor_fl, atS_get hf])
      exact q
    | false =>
      rw [ha, if_neg (by simp)] at q
      walk_at "dl"
      exact q
  · walk_at "dl"
    rw [mapIdx_T (G := fun k => if (ws.all fun w => bt w k) = true then atS xs (fl p k) else atS xs k) (fun k x hx => by
      split
      · rfl
      · rw [atS_some hx])]
    rfl
end
section
local macro_rules | `(tactic| walk_at "k") => `(tactic| refine exchange_i (by assumption) (by omega) ?_)
local macro_rules | `(tactic| walk_at "k") => `(tactic| refine mix_i (by assumption) (by omega) ?_)
local macro_rules | `(tactic| walk_at "k") => `(tactic| refine tie_i (by assumption) (by omega) (by omega) ?_)
local macro_rules | `(tactic| walk_at "k") => `(tactic| refine turn_place_i (by walk_at "sd") ?_)
abbrev sp_deed_done : FSpec := { ι := DdI, args := fun i => [.tup (sT i.xs), i.x.d], pre := fun i _ => i.xs.W i.n ∧ i.x.ok i.n, res := fun i cs d cs' => d = .tup (sT (i.x.run i.n i.xs)) ∧ cs' = cs }
theorem deed_done_i {xs : Spr} {n : Nat} {x : Deed} {cs : Sto} {Q : PD} {z : Lz (sp_deed_done, Q)} (w : xs.W n) (h : x.ok n) (q : Q (.tup (sT (x.run n xs))) cs) : callP sp_deed_done [.tup (sT xs), x.d] cs Q z := callP_i ⟨xs, n, x⟩ rfl ⟨w, h⟩ fun _ _ ⟨e1, e2⟩ => by subst e1; subst e2; exact q
theorem calm_deed_done : Calm sp_deed_done := ⟨fun _ _ _ _ h => h⟩
set_option maxHeartbeats 4000000 in
theorem ok_deed_done (T : Txt w K mg) : FnG P w K mg base CX0 3 T.f_deed_done T.d_deed_done ["spread", "deed"] (dSp K sp_deed_done) := by
  refine dfun T.F_deed_done sc_deed_done (fun _ => rfl) fun cdv A outer s H E hr => ⟨_, (dss_cons (ds_par (i := 2) (j := 3) rfl sc_deed_done.nd (da_cons (de_ix (dv 1) de_int) (da_cons (de_slice (dv 1) (dp_some de_int) dp_none) da_nil)))
      (dss_cons (ds_if (dt_cmp (opd_eq hr.r.units) (dv 2) de_str) (dss_one (ds_ret (de_call calm_turn_place (ok_turn_place T) (hr.mono (by decide)) T.m_turn_place T.F_turn_place.kp T.b_turn_place (da_cons (dv 0) (da_cons (de_ix (dv 3) de_int) (da_cons (de_ix (dv 3) de_int) da_nil)))))) dss_nil)
      (dss_cons (ds_if (dt_cmp (opd_eq hr.r.units) (dv 2) de_str) (dss_one (ds_ret (de_call calm_mix (ok_mix T) (hr.mono (by decide)) T.m_mix T.F_mix.kp T.b_mix (da_cons (dv 0) (da_cons (de_ix (dv 3) de_int) da_nil))))) dss_nil)
      (dss_cons (ds_if (dt_cmp (opd_eq hr.r.units) (dv 2) de_str) (dss_one (ds_ret (de_call calm_tie (ok_tie T) (hr.mono (by decide)) T.m_tie T.F_tie.kp T.b_tie (da_cons (dv 0) (da_cons (de_ix (dv 3) de_int) (da_cons (de_ix (dv 3) de_int) da_nil)))))) dss_nil)
      (dss_cons (ds_if (dt_cmp (opd_eq hr.r.units) (dv 2) de_str) (dss_one (ds_ret (de_call calm_exchange (ok_exchange T) (hr.mono (by decide)) T.m_exchange T.F_exchange.kp T.b_exchange (da_cons (dv 0) (da_cons (de_ix (dv 3) de_int) da_nil))))) dss_nil)
      (dss_one (ds_ret (de_if (dt_cmp (opd_eq hr.r.units) (dv 2) de_str) (de_call calm_swapped (ok_swapped T) (hr.mono (by decide)) T.m_swapped T.F_swapped.kp T.b_swapped (da_cons (dv 0) (da_cons (de_ix (dv 3) de_int) (da_cons (de_ix (dv 3) de_int) da_nil)))) (de_call calm_exchange_where (ok_exchange_where T) (hr.mono (by decide)) T.m_exchange_where T.F_exchange_where.kp T.b_exchange_where (da_cons (dv 0) (da_cons (de_slice (dv 3) dp_none (dp_some (de_un und_neg de_int))) (da_cons (de_ix (dv 3) (de_un und_neg de_int)) da_nil)))))))))))), fun i cs hp => ?_⟩
  obtain ⟨xs, n, x⟩ := i
  obtain ⟨hw, hx⟩ : xs.W n ∧ x.ok n := hp
  have hle := hw.le
  rcases Deed.alts hx with ⟨a, t, rfl, h1, h2, h3⟩ | ⟨a, rfl, h1⟩ | ⟨a, rfl, h1⟩ | ⟨a, b, rfl, h1, h2, h3⟩ | ⟨a, b, rfl, h1, h2, h3⟩ | ⟨a, b, rfl, h1, h2, h3⟩ | ⟨a, b, c, rfl, h1, h2, h3, h4, h5, h6⟩
  all_goals
    simp only [Deed.d, Deed.ds, Deed.tl, nT, Deed.run, Deed.i, List.getD_cons_zero, List.getD_cons_succ]
    repeat (first | walk_at "dl" | simp only [cut1, cutL2, cutL3, atL2, atL3])
  · refine turn_place_i hle ?_
    rw [show (((t : Nat) : Int) % 8).toNat = t by omega]
    exact ⟨rfl, rfl⟩
  · exact mix_i hw h1 ⟨rfl, rfl⟩
  · exact exchange_i hw h1 ⟨rfl, rfl⟩
  · exact tie_i hw h1 h2 ⟨rfl, rfl⟩
  · exact exw_i (ws := [a]) hw (by simp) (by simpa using h1) h2 ⟨rfl, rfl⟩
  · exact swapped_i hw h1 h2 ⟨rfl, rfl⟩
  · exact exw_i (ws := [a, b]) hw (by simpa using h4) (by simpa using ⟨h1, h2⟩) h3 ⟨rfl, rfl⟩
end
section
local macro_rules | `(tactic| walk_at "k") => `(tactic| refine plain_i (by assumption) (by assumption) (by omega) ?_)
structure MbI where
  n : Nat
  ds : List Deed
  xs : Spr
  m : Nat
def MbI.ok (i : MbI) : Prop := i.xs.W i.n ∧ (∀ x ∈ i.ds, x.ok i.n) ∧ SB i.m i.xs ∧ i.m + i.ds.length ≤ 1000
abbrev sp_meant_by (c : Cs) : FSpec := { ι := MbI, args := fun i => [progD c.Program i.n i.ds, .tup (sT i.xs)], pre := fun i _ => i.ok, res := fun i cs d cs' => d = .tup (sT (plainL (runL i.n i.ds i.xs))) ∧ cs' = cs }
theorem meant_by_i {c : Cs} {n m : Nat} {ds : List Deed} {xs : Spr} {cs : Sto} {Q : PD} {z : Lz (sp_meant_by c, Q)} (w : xs.W n) (h : ∀ x ∈ ds, x.ok n) (b : SB m xs) (l : m + ds.length ≤ 1000) (q : Q (.tup (sT (plainL (runL n ds xs)))) cs) : callP (sp_meant_by c) [progD c.Program n ds, .tup (sT xs)] cs Q z := callP_i ⟨n, ds, xs, m⟩ rfl ⟨w, h, b, l⟩ fun _ _ ⟨e1, e2⟩ => by subst e1; subst e2; exact q
theorem runL_snoc (n : Nat) (ds : List Deed) (x : Deed) (xs : Spr) : runL n (ds ++ [x]) xs = x.run n (runL n ds xs) := by
  unfold runL
  rw [List.foldl_append]
  rfl
theorem calm_meant_by (c : Cs) : Calm (sp_meant_by c) := ⟨fun _ _ _ _ h => h⟩
set_option maxHeartbeats 4000000 in
theorem ok_meant_by (T : Txt w K mg) : FnG P w K mg base CX0 4 T.f_meant_by T.d_meant_by ["program", "spread"] (dSp K (sp_meant_by T.cs)) := by
  refine dfun T.F_meant_by sc_meant_by (fun _ => rfl) fun cdv A outer s H E hr => ⟨_, (dss_cons (ds_set (i := 2) sc_meant_by.nd (dv 1))
      (dss_cons (ds_for PassesOwn.never rfl (di_seq (de_fld T.c_Program.cl T.n_Program_deeds (dv 0))) (dg_nm 3 sc_meant_by.nd) (dss_one (ds_set (i := 2) sc_meant_by.nd (de_call calm_deed_done (ok_deed_done T) (hr.mono (by decide)) T.m_deed_done T.F_deed_done.kp T.b_deed_done (da_cons (dv 2) (da_cons (dv 3) da_nil))))))
      (dss_one (ds_ret (de_call calm_plain (ok_plain T) (hr.mono (by decide)) T.m_plain T.F_plain.kp T.b_plain (da_cons (dv 2) da_nil)))))), fun i cs hp => ?_⟩
  obtain ⟨n, ds, xs, m⟩ := i
  obtain ⟨w, h, b, l⟩ : xs.W n ∧ (∀ x ∈ ds, x.ok n) ∧ SB m xs ∧ m + ds.length ≤ 1000 := hp
  simp only [progD]
  walk_at "dl"
  refine forP_i (for_inv (fun k env S => (∃ o : Option D, env = [some (progD T.cs.Program n ds), some (.tup (sT xs)), some (.tup (sT (runL n (ds.take k) xs))), o]) ∧ cs = S) _ _ _ ⟨⟨_, rfl⟩, rfl⟩ (fun _ _ _ _ => trivial) ?_ ?_)
  · rintro k d _ _ hd ⟨⟨o, rfl⟩, rfl⟩
    rw [dL, List.getElem?_map] at hd
    obtain ⟨x, hx, rfl⟩ := Option.map_eq_some_iff.mp hd
    have hr := runL_ok (ds := ds.take k) (fun y hy => h y (List.mem_of_mem_take hy)) w b
    refine ⟨_, rfl, fun E' hn _ _ _ => ?_⟩
    walk_at "dl"
    refine deed_done_i hr.1 (h x (List.mem_of_getElem? hx)) ?_
    rw [← runL_snoc, ← take_succ' hx]
    exact hn _ _ ⟨⟨_, rfl⟩, rfl⟩
  · rintro _ _ ⟨⟨o, rfl⟩, rfl⟩
    have hl : (dL ds).length = ds.length := by rw [dL, List.length_map]
    have hr := runL_ok h w b
    rw [hl, List.take_length]
    walk_at "dl"
    exact plain_i hr.1 hr.2 l ⟨rfl, rfl⟩
end
section
abbrev sp_need_program (c : Cs) : FSpec := { ι := (Nat × List Deed) × Str, args := fun i => [progD c.Program i.1.1 i.1.2, .str i.2], pre := fun _ _ => True, res := fun i cs d cs' => d = .non ∧ cs' = cs }
theorem need_program_i {c : Cs} {n : Nat} {xs : List Deed} {y : Str} {cs : Sto} {Q : PD} {z : Lz (sp_need_program c, Q)} (q : Q .non cs) : callP (sp_need_program c) [progD c.Program n xs, .str y] cs Q z := callP_i ((n, xs), y) rfl trivial fun _ _ ⟨e1, e2⟩ => by subst e1; subst e2; exact q
theorem calm_need_program (c : Cs) : Calm (sp_need_program c) := ⟨fun _ _ _ _ h => h⟩
set_option maxHeartbeats 4000000 in
theorem ok_need_program (T : Txt w K mg) : FnG P w K mg base CX0 1 T.f_need_program T.d_need_program ["value", "part"] (dSp K (sp_need_program T.cs)) := by
  refine dfun T.F_need_program sc_need_program (fun _ => rfl) fun cdv A outer s H E hr => ⟨_, (dss_one (ds_if (dt_not (dt_tru (de_callB (cd_isC T.c_Program) T.z_isinstance (by decide +kernel) (da_cons (dv 0) (da_cons (de_glob (D.ref T.cs.Program) (v := .ref T.cs.Program) (by rfl) T.m_Program rfl (fun _ => rfl)) da_nil))))) (dss_one ds_never) dss_nil)), fun i cs hp => ?_⟩
  obtain ⟨⟨n, xs⟩, y⟩ := i
  simp only [progD]
  walk_at "dl"
end
section
abbrev sp_is_amount : FSpec := { ι := SA, args := fun i => [i.1], pre := fun i cs => i.ok cs, res := fun i cs d cs' => d = .bl true ∧ cs' = cs }
theorem calm_is_amount : Calm sp_is_amount := ⟨fun _ _ _ _ h => h⟩
set_option maxHeartbeats 4000000 in
theorem ok_is_amount (T : Txt w K mg) : FnG P w K mg base CX0 2 T.f_is_amount T.d_is_amount ["value"] (dSp K sp_is_amount) := by
  refine dfun T.F_is_amount sc_is_amount (fun _ => rfl) fun cdv A outer s H E hr => ⟨_, (dss_one (ds_ret (de_and (de_callB cd_isi T.z_isinstance (by decide +kernel) (da_cons (dv 0) (da_cons (de_tup (da_cons (de_bltn (D.ty "list") (v := .ty "list") (by rfl) T.z_list (by decide +kernel) rfl (fun _ => rfl)) (da_cons (de_bltn (D.ty "tuple") (v := .ty "tuple") (by rfl) T.z_tuple (by decide +kernel) rfl (fun _ => rfl)) da_nil))) da_nil))) (de_and (de_cmp (opd_eq hr.r.units) (de_callB cd_len T.z_len (by decide +kernel) (da_cons (dv 0) da_nil)) de_int) (de_one (de_callB (cd_all rfl) T.z_all (by decide +kernel) (da_cons (de_lc (own := [("number", 1)]) rfl sc_is_amount.nd (di_seq (dv 0)) (blkOk_by (own := [("number", 1)]) (N := N_is_amount) (sc := defScope s_is_amount) (by decide +kernel)) (fun _ _ _ _ _ => (dg_nm 1 sc_is_amount.nd)) (fun _ _ _ _ _ => dts_nil) (fun _ _ _ _ _ => (de_call calm_is_integer (ok_is_integer T) (hr.mono (by decide)) T.m_is_integer T.F_is_integer.kp T.b_is_integer (da_cons (dv 1) da_nil)))) da_nil))))))), fun i cs hp => ?_⟩
  obtain ⟨d, x⟩ := i
  have h : seqOf cs d = some x.ds := hp
  obtain ⟨W, hW, hw⟩ := seqI_seq h
  simp only [sp_is_amount]
  walk_at "dl"
  simp only [isiD_seq h]
  walk_at "dl"
  simp only [lenD_seq h, Am.ds]
  walk_at "dl"
  simp only [hW]
  walk_at "dl"
  have hs : ∀ d ∈ x.ds, ∃ n : Int, d = .int n := by simp [Am.ds]
  refine ⟨(by simp [Am.ds, sz_le]), lcP_i (lc_map (fun _ => .bl true) hw _ _ (fun d hd => ?_) ?_)⟩
  · obtain ⟨n, rfl⟩ := hs d hd
    refine ⟨_, rfl, fun R h => ?_⟩
    walk_at "dl"
    refine callP_i n rfl trivial ?_
    rintro _ _ ⟨rfl, rfl⟩
    exact h
  · simp only [Am.ds]
    walk_at "dl"
    rfl
end
section
structure SpI where
  d : D
  xs : Spr
  n : Nat
abbrev sp_is_spread : FSpec := { ι := SpI, args := fun i => [i.d], pre := fun i cs => SpD cs i.d i.xs ∧ i.xs.W i.n, res := fun i cs d cs' => d = .bl true ∧ cs' = cs }
theorem calm_is_spread : Calm sp_is_spread := ⟨fun _ _ _ _ h => h⟩
set_option maxHeartbeats 4000000 in
theorem ok_is_spread (T : Txt w K mg) : FnG P w K mg base CX0 3 T.f_is_spread T.d_is_spread ["value"] (dSp K sp_is_spread) := by
  refine dfun T.F_is_spread sc_is_spread (fun _ => rfl) fun cdv A outer s H E hr => ⟨_, (dss_cons (ds_if (dt_of (dw_or (dt_not (dt_tru (de_callB cd_isi T.z_isinstance (by decide +kernel) (da_cons (dv 0) (da_cons (de_tup (da_cons (de_bltn (D.ty "list") (v := .ty "list") (by rfl) T.z_list (by decide +kernel) rfl (fun _ => rfl)) (da_cons (de_bltn (D.ty "tuple") (v := .ty "tuple") (by rfl) T.z_tuple (by decide +kernel) rfl (fun _ => rfl)) da_nil))) da_nil))))) (dw_or1 (dt_cmp (opd_notin (room65 hr.r)) (de_callB cd_len T.z_len (by decide +kernel) (da_cons (dv 0) da_nil)) (de_lc (own := [("many", 1)]) rfl sc_is_spread.nd (di_range1 T.z_range (da_cons (de_op opd_add (T.k_MOST_PLACES.de rfl) de_int) da_nil)) (blkOk_by (own := [("many", 1)]) (N := N_is_spread) (sc := defScope s_is_spread) (by decide +kernel)) (fun _ _ _ _ _ => (dg_nm 1 sc_is_spread.nd)) (fun _ _ _ _ _ => dts_nil) (fun _ _ _ _ _ => (de_op opd_shl de_int (dv 1)))))))) (dss_one (ds_ret de_bl)) dss_nil)
      (dss_one (ds_ret (de_and (de_callB (cd_all rfl) T.z_all (by decide +kernel) (da_cons (de_lc (own := [("each", 2)]) rfl sc_is_spread.nd (di_seq (dv 0)) (blkOk_by (own := [("each", 2)]) (N := N_is_spread) (sc := defScope s_is_spread) (by decide +kernel)) (fun _ _ _ _ _ => (dg_nm 2 sc_is_spread.nd)) (fun _ _ _ _ _ => dts_nil) (fun _ _ _ _ _ => (de_call calm_is_amount (ok_is_amount T) (hr.mono (by decide)) T.m_is_amount T.F_is_amount.kp T.b_is_amount (da_cons (dv 2) da_nil)))) da_nil)) (de_one (de_callB (cd_any rfl) T.z_any (by decide +kernel) (da_cons (de_lc (own := [("each", 2)]) rfl sc_is_spread.nd (di_seq (dv 0)) (blkOk_by (own := [("each", 2)]) (N := N_is_spread) (sc := defScope s_is_spread) (by decide +kernel)) (fun _ _ _ _ _ => (dg_nm 2 sc_is_spread.nd)) (fun _ _ _ _ _ => dts_nil) (fun _ _ _ _ _ => (de_callB (cd_anyI rfl) T.z_any (by decide +kernel) (da_cons (dv 2) da_nil)))) da_nil))))))), fun i cs hp => ?_⟩
  obtain ⟨d, xs, n⟩ := i
  obtain ⟨⟨ds, h, ha⟩, hw⟩ : SpD cs d xs ∧ xs.W n := hp
  obtain ⟨W, hW, hw2⟩ := seqI_seq h
  have hl : (ds.length : Int) = ((2 ^ n : Nat) : Int) := by rw [ha.len, hw.len]
  walk_at "dlu"
  simp only [isiD_seq h]
  walk_at "dlu"
  simp only [lenD_seq h, hl]
  walk_at "dlu"
  simp only [pow_in hw.few]
  walk_at "dl"
  simp only [hW]
  walk_at "dl"
  have hz : ds.length ≤ sizeLine := by rw [ha.len, hw.len]; exact szSpr hw.few
  refine ⟨hz, lcP_i (lc_map (fun _ => .bl true) hw2 _ _ (fun e he => ?_) ?_)⟩
  · obtain ⟨x, _, hx⟩ := ha.mem he
    refine ⟨_, rfl, fun R q => ?_⟩
    walk_at "dl"
    refine callP_i (e, x) rfl hx ?_
    rintro _ _ ⟨rfl, rfl⟩
    exact q
  have e1 : ds.map (fun _ => D.bl true) = (ds.map fun _ => true).map D.bl := by rw [List.map_map]; rfl
  simp only [List.nil_append, e1]
  walk_at "dl"
  simp only [bls_map]
  walk_at "dl"
  have e2 : (ds.map fun _ => true).all id = true := by simp
  simp only [e2]
  walk_at "dl"
  simp only [hW]
  walk_at "dl"
  refine ⟨hz, lcP_i (lc_map (nzOf cs) hw2 _ _ (fun e he => ?_) ?_)⟩
  · obtain ⟨x, _, hx⟩ := ha.mem he
    refine ⟨_, rfl, fun R q => ?_⟩
    walk_at "dl"
    rw [nzOf_t hx] at q
    simp only [hx, Am.ds, nums]
    walk_at "dl"
    exact q
  simp only [List.nil_append, ha.nz]
  walk_at "dl"
  simp only [bls_map]
  walk_at "dl"
  simp only [hw.nz]
end
section
abbrev sp_need_spread : FSpec := { ι := SpI × Str, args := fun i => [i.1.d, .str i.2], pre := fun i cs => SpD cs i.1.d i.1.xs ∧ i.1.xs.W i.1.n, res := fun i cs d cs' => d = .tup (sT i.1.xs) ∧ cs' = cs }
theorem need_spread_i {d : D} {xs : Spr} {n : Nat} {z : Str} {cs : Sto} {Q : PD} {z2 : Lz (sp_need_spread, Q)} (h : SpD cs d xs) (w : xs.W n) (q : Q (.tup (sT xs)) cs) : callP sp_need_spread [d, .str z] cs Q z2 := callP_i (⟨d, xs, n⟩, z) rfl ⟨h, w⟩ fun _ _ ⟨e1, e2⟩ => by subst e1; subst e2; exact q
theorem calm_need_spread : Calm sp_need_spread := ⟨fun _ _ _ _ h => h⟩
set_option maxHeartbeats 4000000 in
theorem ok_need_spread (T : Txt w K mg) : FnG P w K mg base CX0 4 T.f_need_spread T.d_need_spread ["value", "part"] (dSp K sp_need_spread) := by
  refine dfun T.F_need_spread sc_need_spread (fun _ => rfl) fun cdv A outer s H E hr => ⟨_, (dss_cons (ds_if (dt_not (dt_tru (de_call calm_is_spread (ok_is_spread T) (hr.mono (by decide)) T.m_is_spread T.F_is_spread.kp T.b_is_spread (da_cons (dv 0) da_nil)))) (dss_one ds_never) dss_nil)
      (dss_one (ds_ret (de_callT cd_tup T.z_tuple (by decide +kernel) (da_cons (de_lc (own := [("each", 2)]) rfl sc_need_spread.nd (di_seq (dv 0)) (blkOk_by (own := [("each", 2)]) (N := N_need_spread) (sc := defScope s_need_spread) (by decide +kernel)) (fun _ _ _ _ _ => (dg_nm 2 sc_need_spread.nd)) (fun _ _ _ _ _ => dts_nil) (fun _ _ _ _ _ => (de_callT cd_tup T.z_tuple (by decide +kernel) (da_cons (dv 2) da_nil)))) da_nil))))), fun i cs hp => ?_⟩
  obtain ⟨⟨d, xs, n⟩, z⟩ := i
  have hp' : SpD cs d xs ∧ xs.W n := hp
  obtain ⟨ds, h, ha⟩ := hp'.1.it
  obtain ⟨W, hW, hw2⟩ := seqI_seq h
  walk_at "dl"
  refine callP_i ⟨d, xs, n⟩ rfl hp' ?_
  rintro _ cs' ⟨rfl, rfl⟩
  walk_at "dl"
  simp only [hW]
  walk_at "dl"
  have hz : ds.length ≤ sizeLine := by rw [ha.len, hp'.2.len]; exact szSpr hp'.2.few
  refine ⟨hz, lcP_i (lc_map (tupOf cs') hw2 _ _ (fun e he => ?_) ?_)⟩
  · obtain ⟨x, _, hx⟩ := ha.mem he
    refine ⟨_, rfl, fun R q => ?_⟩
    walk_at "dl"
    rw [tupOf_t hx] at q
    simp only [hx]
    walk_at "dl"
    exact q
  simp only [List.nil_append, ha.tups]
  walk_at "dl"
end
section
local macro_rules | `(tactic| walk_at "k") => `(tactic| refine need_spread_i (by walk_at "sd") (by assumption) ?_)
local macro_rules | `(tactic| walk_at "k") => `(tactic| refine width_i (by assumption) ?_)
abbrev sp_need_wires (c : Cs) : FSpec := { ι := (Nat × List Deed) × (D × Spr), args := fun i => [progD c.Program i.1.1 i.1.2, i.2.1], pre := fun i cs => SpD cs i.2.1 i.2.2 ∧ i.2.2.W i.1.1, res := fun i cs d cs' => d = .tup (sT i.2.2) ∧ cs' = cs }
theorem need_wires_i {c : Cs} {n : Nat} {ds : List Deed} {d : D} {xs : Spr} {cs : Sto} {Q : PD} {z : Lz (sp_need_wires c, Q)} (h : SpD cs d xs) (w : xs.W n) (q : Q (.tup (sT xs)) cs) : callP (sp_need_wires c) [progD c.Program n ds, d] cs Q z := callP_i ((n, ds), (d, xs)) rfl ⟨h, w⟩ fun _ _ ⟨e1, e2⟩ => by subst e1; subst e2; exact q
theorem calm_need_wires (c : Cs) : Calm (sp_need_wires c) := ⟨fun _ _ _ _ h => h⟩
set_option maxHeartbeats 4000000 in
theorem ok_need_wires (T : Txt w K mg) : FnG P w K mg base CX0 5 T.f_need_wires T.d_need_wires ["program", "spread"] (dSp K (sp_need_wires T.cs)) := by
  refine dfun T.F_need_wires sc_need_wires (fun _ => rfl) fun cdv A outer s H E hr => ⟨_, (dss_cons (ds_expr (de_call (calm_need_program T.cs) (ok_need_program T) (hr.mono (by decide)) T.m_need_program T.F_need_program.kp T.b_need_program (da_cons (dv 0) (da_cons de_str da_nil))))
      (dss_cons (ds_set (i := 2) sc_need_wires.nd (de_call calm_need_spread (ok_need_spread T) (hr.mono (by decide)) T.m_need_spread T.F_need_spread.kp T.b_need_spread (da_cons (dv 1) (da_cons de_str da_nil))))
      (dss_cons (ds_if (dt_cmp (opd_ne hr.r.units) (de_call calm_width (ok_width T) (hr.mono (by decide)) T.m_width T.F_width.kp T.b_width (da_cons (dv 2) da_nil)) (de_fld T.c_Program.cl T.n_Program_wires (dv 0))) (dss_one ds_never) dss_nil)
      (dss_one (ds_ret (dv 2)))))), fun i cs hp => ?_⟩
  obtain ⟨⟨n, ds⟩, ⟨d, xs⟩⟩ := i
  obtain ⟨h, w⟩ : SpD cs d xs ∧ xs.W n := hp
  walk_at "dl"
  refine need_program_i ?_
  walk_at "dl"
  refine need_spread_i h w ?_
  walk_at "dl"
  refine width_i w ?_
  simp only [progD]
  walk_at "dl"
end
section
structure MeI where
  n : Nat
  ds : List Deed
  d : D
  xs : Spr
  m : Nat
def MeI.ok (i : MeI) (cs : Sto) : Prop := SpD cs i.d i.xs ∧ i.xs.W i.n ∧ (∀ x ∈ i.ds, x.ok i.n) ∧ SB i.m i.xs ∧ i.m + i.ds.length ≤ 1000
abbrev sp_meaning (c : Cs) : FSpec := { ι := MeI, args := fun i => [progD c.Program i.n i.ds, i.d], pre := fun i cs => i.ok cs, res := fun i cs d cs' => d = .tup (sT (plainL (runL i.n i.ds i.xs))) ∧ cs' = cs }
theorem meaning_i {c : Cs} {n m : Nat} {ds : List Deed} {d : D} {xs : Spr} {cs : Sto} {Q : PD} {z : Lz (sp_meaning c, Q)} (hs : SpD cs d xs) (w : xs.W n) (h : ∀ x ∈ ds, x.ok n) (b : SB m xs) (l : m + ds.length ≤ 1000) (q : Q (.tup (sT (plainL (runL n ds xs)))) cs) : callP (sp_meaning c) [progD c.Program n ds, d] cs Q z := callP_i ⟨n, ds, d, xs, m⟩ rfl ⟨hs, w, h, b, l⟩ fun _ _ ⟨e1, e2⟩ => by subst e1; subst e2; exact q
theorem calm_meaning (c : Cs) : Calm (sp_meaning c) := ⟨fun _ _ _ _ h => h⟩
set_option maxHeartbeats 4000000 in
theorem ok_meaning (T : Txt w K mg) : FnG P w K mg base CX0 6 T.f_meaning T.d_meaning ["program", "spread"] (dSp K (sp_meaning T.cs)) := by
  refine dfun T.F_meaning sc_meaning (fun _ => rfl) fun cdv A outer s H E hr => ⟨_, (dss_one (ds_ret (de_call (calm_meant_by T.cs) (ok_meant_by T) (hr.mono (by decide)) T.m_meant_by T.F_meant_by.kp T.b_meant_by (da_cons (dv 0) (da_cons (de_call (calm_need_wires T.cs) (ok_need_wires T) (hr.mono (by decide)) T.m_need_wires T.F_need_wires.kp T.b_need_wires (da_cons (dv 0) (da_cons (dv 1) da_nil))) da_nil))))), fun i cs hp => ?_⟩
  obtain ⟨n, ds, d, xs, m⟩ := i
  obtain ⟨hs, w, h, b, l⟩ : SpD cs d xs ∧ xs.W n ∧ (∀ x ∈ ds, x.ok n) ∧ SB m xs ∧ m + ds.length ≤ 1000 := hp
  walk_at "dl"
  refine need_wires_i hs w ?_
  walk_at "dl"
  exact meant_by_i w h b l ⟨rfl, rfl⟩
end
section
abbrev sp_need_few : FSpec := { ι := List Deed × Bool, args := fun i => [dsD i.1 i.2], pre := fun i _ => i.1.length ≤ 200, res := fun _ cs d cs' => d = .non ∧ cs' = cs }
theorem need_few_i {ds : List Deed} {cs : Sto} {Q : PD} {z : Lz (sp_need_few, Q)} (h : ds.length ≤ 200) (q : Q .non cs) : callP sp_need_few [.lst (dL ds)] cs Q z := callP_i (ds, false) rfl h fun _ _ ⟨e1, e2⟩ => by subst e1; subst e2; exact q
theorem need_few_t {ds : List Deed} {cs : Sto} {Q : PD} {z : Lz (sp_need_few, Q)} (h : ds.length ≤ 200) (q : Q .non cs) : callP sp_need_few [.tup (dL ds)] cs Q z := callP_i (ds, true) rfl h fun _ _ ⟨e1, e2⟩ => by subst e1; subst e2; exact q
theorem calm_need_few : Calm sp_need_few := ⟨fun _ _ _ _ h => h⟩
set_option maxHeartbeats 4000000 in
theorem ok_need_few (T : Txt w K mg) : FnG P w K mg base CX0 1 T.f_need_few T.d_need_few ["deeds"] (dSp K sp_need_few) := by
  refine dfun T.F_need_few sc_need_few (fun _ => rfl) fun cdv A outer s H E hr => ⟨_, (dss_one (ds_if (dt_cmp opd_gt (de_callB cd_len T.z_len (by decide +kernel) (da_cons (dv 0) da_nil)) (T.k_MOST_DEEDS.de rfl)) (dss_one ds_never) dss_nil)), fun i cs hp => ?_⟩
  obtain ⟨ds, t⟩ := i
  have hl : ds.length ≤ 200 := hp
  have hz2 : decide ((200 : Int) < ((dL ds).length : Int)) = false := decide_eq_false (by rw [dL, List.length_map]; omega)
  cases t
  all_goals
    simp only [dsD]
    repeat (first | walk_at "dl" | simp only [hz2])
end
section
structure JoI where
  n : Nat
  a : List Deed
  b : List Deed
abbrev sp_joined (c : Cs) : FSpec := { ι := JoI, args := fun i => [progD c.Program i.n i.a, progD c.Program i.n i.b], pre := fun i _ => (∀ x ∈ i.a, x.ok i.n) ∧ (∀ x ∈ i.b, x.ok i.n) ∧ i.a.length + i.b.length ≤ 200 ∧ 1 ≤ i.n ∧ i.n ≤ 8, res := fun i cs d cs' => d = progD c.Program i.n (i.a ++ i.b) ∧ cs' = cs }
theorem joined_i {c : Cs} {n : Nat} {a b : List Deed} {cs : Sto} {Q : PD} {z : Lz (sp_joined c, Q)} (ha : ∀ x ∈ a, x.ok n) (hb : ∀ x ∈ b, x.ok n) (l : a.length + b.length ≤ 200) (n1 : 1 ≤ n) (n8 : n ≤ 8) (q : Q (progD c.Program n (a ++ b)) cs) : callP (sp_joined c) [progD c.Program n a, progD c.Program n b] cs Q z := callP_i ⟨n, a, b⟩ rfl ⟨ha, hb, l, n1, n8⟩ fun _ _ ⟨e1, e2⟩ => by subst e1; subst e2; exact q
theorem calm_joined (c : Cs) : Calm (sp_joined c) := ⟨fun _ _ _ _ h => h⟩
set_option maxHeartbeats 4000000 in
theorem ok_joined (T : Txt w K mg) : FnG P w K mg base CX0 6 T.f_joined T.d_joined ["one", "other"] (dSp K (sp_joined T.cs)) := by
  refine dfun T.F_joined sc_joined (fun _ => rfl) fun cdv A outer s H E hr => ⟨_, (dss_cons (ds_expr (de_call (calm_need_program T.cs) (ok_need_program T) (hr.mono (by decide)) T.m_need_program T.F_need_program.kp T.b_need_program (da_cons (dv 0) (da_cons de_str da_nil))))
      (dss_cons (ds_expr (de_call (calm_need_program T.cs) (ok_need_program T) (hr.mono (by decide)) T.m_need_program T.F_need_program.kp T.b_need_program (da_cons (dv 1) (da_cons de_str da_nil))))
      (dss_cons (ds_if (dt_cmp (opd_ne hr.r.units) (de_fld T.c_Program.cl T.n_Program_wires (dv 0)) (de_fld T.c_Program.cl T.n_Program_wires (dv 1))) (dss_one ds_never) dss_nil)
      (dss_cons (ds_set (i := 2) sc_joined.nd (de_op opd_add (de_fld T.c_Program.cl T.n_Program_deeds (dv 0)) (de_fld T.c_Program.cl T.n_Program_deeds (dv 1))))
      (dss_cons (ds_expr (de_call calm_need_few (ok_need_few T) (hr.mono (by decide)) T.m_need_few T.F_need_few.kp T.b_need_few (da_cons (dv 2) da_nil)))
      (dss_one (ds_ret (de_mkF (calm_Program___init__ T.cs) T.M_Program (ok_Program___init__ T) (hr.mono (by decide)) T.m_Program T.b_Program___init__ (da_cons (de_fld T.c_Program.cl T.n_Program_wires (dv 0)) (da_cons (dv 2) da_nil)))))))))), fun i cs hp => ?_⟩
  obtain ⟨n, a, b⟩ := i
  obtain ⟨ha, hb, l, n1, n8⟩ : (∀ x ∈ a, x.ok n) ∧ (∀ x ∈ b, x.ok n) ∧ a.length + b.length ≤ 200 ∧ 1 ≤ n ∧ n ≤ 8 := hp
  have hI : ∀ (S : Sto) (ds : List Deed), insAt S T.cs.Program (progD T.cs.Program n ds) = some ([("wires", .int n), ("deeds", .tup (dL ds))] : List (Str × D)) := fun S ds => insAt_obj _ _
  have hz : (dL a).length + (dL b).length ≤ sizeLine := by rw [dL, dL, List.length_map, List.length_map, sizeLine_eq]; omega
  have hab : ∀ x ∈ a ++ b, x.ok n := fun x hx => (List.mem_append.mp hx).elim (ha x) (hb x)
  have hll : (a ++ b).length ≤ 200 := by rw [List.length_append]; exact l
  walk_at "dl"
  refine need_program_i ?_
  walk_at "dl"
  refine need_program_i ?_
  repeat (first | walk_at "dl" | simp only [hI, hz, true_and, dL_app])
  rw [dL_app]
  refine need_few_t hll ?_
  repeat (first | walk_at "dl" | simp only [hI])
  refine mkProg_t (n := n) n1 n8 hab hll ?_
  exact ⟨rfl, rfl⟩
end
section
abbrev sp_turned_about : FSpec := { ι := Deed × Nat, args := fun i => [i.1.d], pre := fun i _ => i.1.ok i.2, res := fun i cs d cs' => d = i.1.inv.d ∧ cs' = cs }
theorem turned_about_i {x : Deed} {n : Nat} {cs : Sto} {Q : PD} {z : Lz (sp_turned_about, Q)} (h : x.ok n) (q : Q x.inv.d cs) : callP sp_turned_about [x.d] cs Q z := callP_i (x, n) rfl h fun _ _ ⟨e1, e2⟩ => by subst e1; subst e2; exact q
theorem calm_turned_about : Calm sp_turned_about := ⟨fun _ _ _ _ h => h⟩
set_option maxHeartbeats 4000000 in
theorem ok_turned_about (T : Txt w K mg) : FnG P w K mg base CX0 1 T.f_turned_about T.d_turned_about ["deed"] (dSp K sp_turned_about) := by
  refine dfun T.F_turned_about sc_turned_about (fun _ => rfl) fun cdv A outer s H E hr => ⟨_, (dss_one (ds_ret (de_if (dt_cmp (opd_eq hr.r.units) (de_ix (dv 0) de_int) de_str) (de_tup (da_cons de_str (da_cons (de_ix (dv 0) de_int) (da_cons (de_op opd_sub de_int (de_ix (dv 0) de_int)) da_nil)))) (dv 0)))), fun i cs hp => ?_⟩
  obtain ⟨x, n⟩ := i
  have hx : x.ok n := hp
  rcases Deed.alts hx with ⟨a, t, rfl, h1, h2, h3⟩ | ⟨a, rfl, h1⟩ | ⟨a, rfl, h1⟩ | ⟨a, b, rfl, h1, h2, h3⟩ | ⟨a, b, rfl, h1, h2, h3⟩ | ⟨a, b, rfl, h1, h2, h3⟩ | ⟨a, b, c, rfl, h1, h2, h3, h4, h5, h6⟩
  · have e : ((8 - t : Nat) : Int) = 8 - (t : Int) := by omega
    have e2 : Deed.d (Deed.inv ⟨.turn, [a], t⟩) = .tup [.str "turn", .int a, .int ((8 - t : Nat) : Int)] := rfl
    rw [e] at e2
    have e0 : Deed.d ⟨.turn, [a], t⟩ = .tup [.str "turn", .int a, .int t] := rfl
    simp only [e0, e2]
    walk_at "dl"
  · have e0 : Deed.d ⟨.mix, [a], 0⟩ = .tup [.str "mix", .int a] := rfl
    have e2 : Deed.inv ⟨.mix, [a], 0⟩ = ⟨.mix, [a], 0⟩ := rfl
    have e3 : decide (("mix" : Str) = "turn") = false := by decide
    simp only [e2, e0]
    repeat (first | walk_at "dl" | simp only [e3])
  · have e0 : Deed.d ⟨.no, [a], 0⟩ = .tup [.str "not", .int a] := rfl
    have e2 : Deed.inv ⟨.no, [a], 0⟩ = ⟨.no, [a], 0⟩ := rfl
    have e3 : decide (("not" : Str) = "turn") = false := by decide
    simp only [e2, e0]
    repeat (first | walk_at "dl" | simp only [e3])
  · have e0 : Deed.d ⟨.sign, [a, b], 0⟩ = .tup [.str "sign", .int a, .int b] := rfl
    have e2 : Deed.inv ⟨.sign, [a, b], 0⟩ = ⟨.sign, [a, b], 0⟩ := rfl
    have e3 : decide (("sign" : Str) = "turn") = false := by decide
    simp only [e2, e0]
    repeat (first | walk_at "dl" | simp only [e3])
  · have e0 : Deed.d ⟨.under, [a, b], 0⟩ = .tup [.str "under", .int a, .int b] := rfl
    have e2 : Deed.inv ⟨.under, [a, b], 0⟩ = ⟨.under, [a, b], 0⟩ := rfl
    have e3 : decide (("under" : Str) = "turn") = false := by decide
    simp only [e2, e0]
    repeat (first | walk_at "dl" | simp only [e3])
  · have e0 : Deed.d ⟨.swap, [a, b], 0⟩ = .tup [.str "swap", .int a, .int b] := rfl
    have e2 : Deed.inv ⟨.swap, [a, b], 0⟩ = ⟨.swap, [a, b], 0⟩ := rfl
    have e3 : decide (("swap" : Str) = "turn") = false := by decide
    simp only [e2, e0]
    repeat (first | walk_at "dl" | simp only [e3])
  · have e0 : Deed.d ⟨.both, [a, b, c], 0⟩ = .tup [.str "both", .int a, .int b, .int c] := rfl
    have e2 : Deed.inv ⟨.both, [a, b, c], 0⟩ = ⟨.both, [a, b, c], 0⟩ := rfl
    have e3 : decide (("both" : Str) = "turn") = false := by decide
    simp only [e2, e0]
    repeat (first | walk_at "dl" | simp only [e3])
end
section
abbrev sp_undone (c : Cs) : FSpec := { ι := Nat × List Deed, args := fun i => [progD c.Program i.1 i.2], pre := fun i _ => (∀ x ∈ i.2, x.ok i.1) ∧ i.2.length ≤ 200 ∧ 1 ≤ i.1 ∧ i.1 ≤ 8, res := fun i cs d cs' => d = progD c.Program i.1 (undoneD i.2) ∧ cs' = cs }
theorem undone_i {c : Cs} {n : Nat} {ds : List Deed} {cs : Sto} {Q : PD} {z : Lz (sp_undone c, Q)} (h : ∀ x ∈ ds, x.ok n) (l : ds.length ≤ 200) (n1 : 1 ≤ n) (n8 : n ≤ 8) (q : Q (progD c.Program n (undoneD ds)) cs) : callP (sp_undone c) [progD c.Program n ds] cs Q z := callP_i (n, ds) rfl ⟨h, l, n1, n8⟩ fun _ _ ⟨e1, e2⟩ => by subst e1; subst e2; exact q
theorem calm_undone (c : Cs) : Calm (sp_undone c) := ⟨fun _ _ _ _ h => h⟩
set_option maxHeartbeats 4000000 in
theorem ok_undone (T : Txt w K mg) : FnG P w K mg base CX0 6 T.f_undone T.d_undone ["program"] (dSp K (sp_undone T.cs)) := by
  refine dfun T.F_undone sc_undone (fun _ => rfl) fun cdv A outer s H E hr => ⟨_, (dss_cons (ds_expr (de_call (calm_need_program T.cs) (ok_need_program T) (hr.mono (by decide)) T.m_need_program T.F_need_program.kp T.b_need_program (da_cons (dv 0) (da_cons de_str da_nil))))
      (dss_one (ds_ret (de_mkF (calm_Program___init__ T.cs) T.M_Program (ok_Program___init__ T) (hr.mono (by decide)) T.m_Program T.b_Program___init__ (da_cons (de_fld T.c_Program.cl T.n_Program_wires (dv 0)) (da_cons (de_lc (own := [("deed", 1)]) rfl sc_undone.nd (di_seq (de_revT (de_fld T.c_Program.cl T.n_Program_deeds (dv 0)))) (blkOk_by (own := [("deed", 1)]) (N := N_undone) (sc := defScope s_undone) (by decide +kernel)) (fun _ _ _ _ _ => (dg_nm 1 sc_undone.nd)) (fun _ _ _ _ _ => dts_nil) (fun _ _ _ _ _ => (de_call calm_turned_about (ok_turned_about T) (hr.mono (by decide)) T.m_turned_about T.F_turned_about.kp T.b_turned_about (da_cons (dv 1) da_nil)))) da_nil)))))), fun i cs hp => ?_⟩
  obtain ⟨n, ds⟩ := i
  obtain ⟨h, l, n1, n8⟩ : (∀ x ∈ ds, x.ok n) ∧ ds.length ≤ 200 ∧ 1 ≤ n ∧ n ≤ 8 := hp
  have hI : ∀ (S : Sto) (ds : List Deed), insAt S T.cs.Program (progD T.cs.Program n ds) = some ([("wires", .int n), ("deeds", .tup (dL ds))] : List (Str × D)) := fun S ds => insAt_obj _ _
  have e1 : (dL ds).reverse = ds.reverse.map Deed.d := by rw [dL, List.map_reverse]
  have hz : (ds.reverse.map Deed.d).length ≤ sizeLine := by rw [List.length_map, List.length_reverse, sizeLine_eq]; omega
  walk_at "dl"
  refine need_program_i ?_
  repeat (first | walk_at "dl" | simp only [hI])
  rw [e1]
  refine ⟨hz, lc_mp ds.reverse Deed.d (fun x => x.inv.d) trivial (fun x hx => ⟨_, rfl, fun R q => ?_⟩) ?_⟩
  · walk_at "dl"
    exact turned_about_i (h x (List.mem_reverse.mp hx)) q
  have e2 : ds.reverse.map (fun x => x.inv.d) = dL (undoneD ds) := by
    unfold dL undoneD
    rw [List.map_map]
    rfl
  rw [e2]
  walk_at "dl"
  refine mkProg_i (n := n) n1 n8 (undone_ok h) (by rw [undone_len]; exact l) ?_
  exact ⟨rfl, rfl⟩
end
section
local macro_rules | `(tactic| walk_at "k") => `(tactic| refine llength_i rfl (by assumption) (by omega) ?_)
structure UrI where
  n : Nat
  ds : List Deed
  xs : Spr
abbrev sp__law_undone_right : FSpec := { ι := UrI, args := fun i => [.int i.n, .lst (dL i.ds), .lst (sT i.xs)], pre := fun i _ => (∀ x ∈ i.ds, x.ok i.n) ∧ i.ds.length ≤ 8 ∧ 1 ≤ i.n ∧ i.n ≤ 4 ∧ i.xs.W i.n ∧ SB 47 i.xs, res := fun _ cs d cs' => d = .bl true ∧ cs' = cs }
theorem lundone_i {n : Nat} {ds : List Deed} {xs : Spr} {cs : Sto} {Q : PD} {z : Lz (sp__law_undone_right, Q)} (h : ∀ x ∈ ds, x.ok n) (l : ds.length ≤ 8) (n1 : 1 ≤ n) (n4 : n ≤ 4) (w : xs.W n) (b : SB 47 xs) (q : Q (.bl true) cs) : callP sp__law_undone_right [.int n, .lst (dL ds), .lst (sT xs)] cs Q z := callP_i ⟨n, ds, xs⟩ rfl ⟨h, l, n1, n4, w, b⟩ fun _ _ ⟨e1, e2⟩ => by subst e1; subst e2; exact q
theorem cshl_of {n : Nat} {i : Int} {k : Nat} (h : Bd n i) (l : n + k ≤ 1000) : CShl i (k : Int) := by
  refine ⟨by omega, ?_⟩
  have : Builtin.Int.intBits i ≤ n := by
    unfold Builtin.Int.intBits
    by_cases h0 : i = 0
    · subst h0
      exact Nat.zero_le _
    · have hne : i.natAbs ≠ 0 := by omega
      have := (Nat.log2_lt hne).mpr h
      rw [if_neg (by simpa using h0)]
      omega
  omega
theorem calm__law_undone_right : Calm sp__law_undone_right := ⟨fun _ _ _ _ h => h⟩
set_option maxHeartbeats 4000000 in
theorem ok__law_undone_right (T : Txt w K mg) : FnG P w K mg base CX0 7 T.f__law_undone_right T.d__law_undone_right ["_law_wires", "_law_deeds", "_law_spread_here"] (dSp K sp__law_undone_right) := by
  refine dfun T.F__law_undone_right sc__law_undone_right (fun _ => rfl) fun cdv A outer s H E hr => ⟨_, (dss_cons (ds_par (i := 4) (j := 5) rfl sc__law_undone_right.nd (da_cons (de_mkF (calm_Program___init__ T.cs) T.M_Program (ok_Program___init__ T) (hr.mono (by decide)) T.m_Program T.b_Program___init__ (da_cons (dv 0) (da_cons (dv 1) da_nil))) (da_cons (de_callB cd_len T.z_len (by decide +kernel) (da_cons (de_lc (own := [("_law_deed_here", 8)]) rfl sc__law_undone_right.nd (di_seq (dv 1)) (blkOk_by (own := [("_law_deed_here", 8)]) (N := N__law_undone_right) (sc := defScope s__law_undone_right) (by decide +kernel)) (fun _ _ _ _ _ => (dg_nm 8 sc__law_undone_right.nd)) (fun _ _ _ _ _ => (dts_one (dt_cmp (opd_eq hr.r.units) (de_ix (dv 8) de_int) de_str))) (fun _ _ _ _ _ => (dv 8))) da_nil)) da_nil)))
      (dss_cons (ds_pat (dg_tp rfl (dgs_cons (dg_nm 6 sc__law_undone_right.nd) (dgs_cons (dg_nm 7 sc__law_undone_right.nd) dgs_nil))) (de_call calm__law_length (ok__law_length T) (hr.mono (by decide)) T.m__law_length T.F__law_length.kp T.b__law_length (da_cons (dv 2) da_nil)))
      (dss_cons (ds_if (dt_cmp (opd_ne hr.r.units) (de_call calm__law_length (ok__law_length T) (hr.mono (by decide)) T.m__law_length T.F__law_length.kp T.b__law_length (da_cons (de_call calm__law_behind (ok__law_behind T) (hr.mono (by decide)) T.m__law_behind T.F__law_behind.kp T.b__law_behind (da_cons (dv 2) (da_cons (dv 1) da_nil))) da_nil)) (de_tup (da_cons (de_op opd_shlW (dv 6) (dv 5)) (da_cons (de_op opd_shlW (dv 7) (dv 5)) da_nil)))) (dss_one (ds_ret de_bl)) dss_nil)
      (dss_cons (ds_if (dt_cmp (opd_ne hr.r.units) (de_callB (cd_reprX hr.gd hr.r.units) T.z_repr (by decide +kernel) (da_cons (de_call (calm_meaning T.cs) (ok_meaning T) (hr.mono (by decide)) T.m_meaning T.F_meaning.kp T.b_meaning (da_cons (de_call (calm_joined T.cs) (ok_joined T) (hr.mono (by decide)) T.m_joined T.F_joined.kp T.b_joined (da_cons (dv 4) (da_cons (de_call (calm_undone T.cs) (ok_undone T) (hr.mono (by decide)) T.m_undone T.F_undone.kp T.b_undone (da_cons (dv 4) da_nil)) da_nil))) (da_cons (dv 2) da_nil))) da_nil)) (de_callB (cd_reprX hr.gd hr.r.units) T.z_repr (by decide +kernel) (da_cons (de_call calm__law_plain (ok__law_plain T) (hr.mono (by decide)) T.m__law_plain T.F__law_plain.kp T.b__law_plain (da_cons (dv 2) da_nil)) da_nil))) (dss_one (ds_ret de_bl)) dss_nil)
      (dss_cons (ds_set (i := 3) sc__law_undone_right.nd (de_call (calm_meaning T.cs) (ok_meaning T) (hr.mono (by decide)) T.m_meaning T.F_meaning.kp T.b_meaning (da_cons (dv 4) (da_cons (dv 2) da_nil))))
      (dss_cons (ds_if (dt_cmp (opd_ne hr.r.units) (de_callB (cd_reprX hr.gd hr.r.units) T.z_repr (by decide +kernel) (da_cons (dv 3) da_nil)) (de_callB (cd_reprX hr.gd hr.r.units) T.z_repr (by decide +kernel) (da_cons (de_call calm__law_plain (ok__law_plain T) (hr.mono (by decide)) T.m__law_plain T.F__law_plain.kp T.b__law_plain (da_cons (de_call calm__law_behind (ok__law_behind T) (hr.mono (by decide)) T.m__law_behind T.F__law_behind.kp T.b__law_behind (da_cons (dv 2) (da_cons (dv 1) da_nil))) da_nil)) da_nil))) (dss_one (ds_ret de_bl)) dss_nil)
      (dss_one (ds_ret (de_cmp (opd_eq hr.r.units) (de_callB (cd_reprX hr.gd hr.r.units) T.z_repr (by decide +kernel) (da_cons (de_call (calm_meaning T.cs) (ok_meaning T) (hr.mono (by decide)) T.m_meaning T.F_meaning.kp T.b_meaning (da_cons (de_call (calm_undone T.cs) (ok_undone T) (hr.mono (by decide)) T.m_undone T.F_undone.kp T.b_undone (da_cons (dv 4) da_nil)) (da_cons (dv 3) da_nil))) da_nil)) (de_callB (cd_reprX hr.gd hr.r.units) T.z_repr (by decide +kernel) (da_cons (de_call calm__law_plain (ok__law_plain T) (hr.mono (by decide)) T.m__law_plain T.F__law_plain.kp T.b__law_plain (da_cons (dv 2) da_nil)) da_nil))))))))))), fun i cs hp => ?_⟩
  obtain ⟨n, ds, xs⟩ := i
  obtain ⟨h, l, n1, n4, w, b⟩ : (∀ x ∈ ds, x.ok n) ∧ ds.length ≤ 8 ∧ 1 ≤ n ∧ n ≤ 4 ∧ xs.W n ∧ SB 47 xs := hp
  have hzd : (dL ds).length ≤ sizeLine := by rw [dL, List.length_map, sizeLine_eq]; omega
  have hl16 : xs.length ≤ 16 := by
    rw [w.len]
    exact Nat.pow_le_pow_right (n := 2) (by decide) n4
  obtain ⟨wr, br⟩ := runL_ok h w b
  have br2 : SB 55 (runL n ds xs) := fun y hy => (br y hy).mono (by omega)
  walk_at "dl"
  refine mkProg_i (n := n) n1 (by omega) h (by omega) ?_
  walk_at "dl"
  refine ⟨hzd, lc_fl ds Deed.d (fun x => decide (x.w = .mix)) Deed.d trivial (fun x hx => ⟨_, rfl, fun R q => ?_, fun _ R q => ?_⟩) ?_⟩
  · have i0 : atI x.ds 0 = some (.str x.w.s) := atI_zero _ _
    simp only [Deed.d]
    repeat (first | walk_at "dl" | simp only [i0])
    exact q
  · walk_at "dl"
    exact q
  have em : ((ds.filter fun x => decide (x.w = .mix)).map Deed.d).length = mixN ds := by rw [List.length_map]; rfl
  repeat (first | walk_at "dl" | simp only [em])
  have emN : (ds.filter fun x => decide (x.w = .mix)).length = mixN ds := rfl
  rw [emN]
  have hmx : mixN ds ≤ 8 := Nat.le_trans (List.length_filter_le _ _) l
  refine llength_i (n := 47) rfl b (by decide) ?_
  obtain ⟨q1, q2⟩ := s_bd b (by omega)
  obtain ⟨r1, r2⟩ := runL_s h w.len
  have cs1 : CShl (s1 xs) (mixN ds : Int) := cshl_of q1 (by omega)
  have cs2 : CShl (s2 xs) (mixN ds : Int) := cshl_of q2 (by omega)
  walk_at "dl"
  refine lbehind_i (n := n) w.len (by omega) h ?_
  walk_at "dl"
  refine llength_i (n := 55) rfl br2 (by decide) ?_
  have ee : decide (s1 (runL n ds xs) = s1 xs * 2 ^ mixN ds ∧ s2 (runL n ds xs) = s2 xs * 2 ^ mixN ds) = true := decide_eq_true ⟨by rw [r1, Int.mul_comm], by rw [r2, Int.mul_comm]⟩
  have hu := undone_ok h
  have lu := undone_len ds
  have hju : ∀ x ∈ ds ++ undoneD ds, x.ok n := fun x hx => (List.mem_append.mp hx).elim (h x) (hu x)
  have rP := rx_t (n := 197) (l := 16) (SB.plain b w.nz) (by rw [plainL_len]; exact hl16) (by decide) (by decide) (by decide)
  have rQ := rx_t (n := 229) (l := 16) (SB.plain br2 wr.nz) (by rw [plainL_len, runL_len]; exact hl16) (by decide) (by decide) (by decide)
  have eU : plainL (runL n (ds ++ undoneD ds) xs) = plainL xs := undone_plain h w
  have eV : plainL (runL n (undoneD ds) (plainL (runL n ds xs))) = plainL xs := by rw [plain_run hu wr, undone_run h w.len, plain_mul (invC_nz ds) w.nz]
  walk_at "dl"
  refine ⟨cs1, cs2, ?_⟩
  rw [ee]
  walk_at "dl"
  refine undone_i (n := n) h (by omega) n1 (by omega) ?_
  walk_at "dl"
  refine joined_i (n := n) h hu (by omega) n1 (by omega) ?_
  walk_at "dl"
  refine meaning_i (n := n) (m := 47) (SpD.lst _) w hju b (by rw [List.length_append]; omega) ?_
  rw [eU]
  repeat (first | walk_at "dl" | simp only [rP])
  refine lplain_i (n := n) (m := 47) rfl w b (by decide) ?_
  repeat (first | walk_at "dl" | simp only [rP])
  refine meaning_i (n := n) (m := 47) (SpD.lst _) w h b (by omega) ?_
  repeat (first | walk_at "dl" | simp only [rQ])
  refine lbehind_i (n := n) w.len (by omega) h ?_
  repeat (first | walk_at "dl" | simp only [rQ])
  refine lplain_i (n := n) (m := 55) rfl wr br2 (by decide) ?_
  repeat (first | walk_at "dl" | simp only [rQ])
  refine undone_i (n := n) h (by omega) n1 (by omega) ?_
  walk_at "dl"
  refine meaning_i (n := n) (m := 229) (SpD.tup _) (plain_W wr) hu (SB.plain br2 wr.nz) (by omega) ?_
  rw [eV]
  repeat (first | walk_at "dl" | simp only [rP])
  refine lplain_i (n := n) (m := 47) rfl w b (by decide) ?_
  repeat (first | walk_at "dl" | simp only [rP])
end
section
abbrev sp_moved_on : FSpec := { ι := (Deed × Nat) × Nat, args := fun i => [i.1.1.d, .int i.2], pre := fun i _ => i.1.1.ok i.1.2, res := fun i cs d cs' => d = (mvW i.2 i.1.1).d ∧ cs' = cs }
theorem moved_on_i {x : Deed} {n m : Nat} {cs : Sto} {Q : PD} {z : Lz (sp_moved_on, Q)} (h : x.ok n) (q : Q (mvW m x).d cs) : callP sp_moved_on [x.d, .int m] cs Q z := callP_i ((x, n), m) rfl h fun _ _ ⟨e1, e2⟩ => by subst e1; subst e2; exact q
theorem calm_moved_on : Calm sp_moved_on := ⟨fun _ _ _ _ h => h⟩
set_option maxHeartbeats 4000000 in
theorem ok_moved_on (T : Txt w K mg) : FnG P w K mg base CX0 1 T.f_moved_on T.d_moved_on ["deed", "many"] (dSp K sp_moved_on) := by
  refine dfun T.F_moved_on sc_moved_on (fun _ => rfl) fun cdv A outer s H E hr => ⟨_, (dss_cons (ds_set (i := 2) sc_moved_on.nd (de_callT cd_tup T.z_tuple (by decide +kernel) (da_cons (de_lc (own := [("wire", 3)]) rfl sc_moved_on.nd (di_seq (de_slice (dv 0) (dp_some de_int) (dp_some (de_op opd_add de_int (de_kix T.k_WIRES_IN (de_ix (dv 0) de_int)))))) (blkOk_by (own := [("wire", 3)]) (N := N_moved_on) (sc := defScope s_moved_on) (by decide +kernel)) (fun _ _ _ _ _ => (dg_nm 3 sc_moved_on.nd)) (fun _ _ _ _ _ => dts_nil) (fun _ _ _ _ _ => (de_op opd_add (dv 3) (dv 1)))) da_nil)))
      (dss_one (ds_ret (de_tup (da_cons (de_ix (dv 0) de_int) (da_star (dv 2) (da_star (de_slice (dv 0) (dp_some (de_op opd_add de_int (de_kix T.k_WIRES_IN (de_ix (dv 0) de_int)))) dp_none) da_nil))))))), fun i cs hp => ?_⟩
  obtain ⟨⟨x, n⟩, m⟩ := i
  have hx : x.ok n := hp
  have ei := Deed.its hx
  have i0 : atI x.ds 0 = some (.str x.w.s) := atI_zero _ _
  have hw := x.w.n_le
  simp only [Deed.d]
  have hz1 : (nT x.ws).length ≤ sizeLine := by rw [nT_len, hx.len, sizeLine_eq]; omega
  repeat (first | walk_at "dl" | simp only [i0, ei])
  refine ⟨hz1, lc_mp x.ws (fun a : Nat => D.int a) (fun a : Nat => D.int ((a + m : Nat) : Int)) trivial (fun a ha => ⟨_, rfl, fun R q => ?_⟩) ?_⟩
  · walk_at "dl"
    rw [Int.natCast_add] at q
    exact q
  have et : cutD x.ds (some (1 + (x.w.n : Int))) none = x.tl := by
    rw [cutD_from _ (by omega), show ((1 : Int) + x.w.n).toNat = x.w.n + 1 by omega]
    unfold Deed.ds
    rw [List.drop_succ_cons, List.drop_left' (by rw [nT_len, hx.len])]
  have em : x.ws.map (fun a : Nat => D.int ((a + m : Nat) : Int)) = nT (x.ws.map (· + m)) := by
    unfold nT
    rw [List.map_map]
    rfl
  have hl3 : x.tl.length ≤ 1 := by
    unfold Deed.tl
    split <;> simp
  repeat (first | walk_at "dl" | simp only [i0, ei, et])
  rw [em]
  refine ⟨?_, rfl⟩
  rw [List.length_append, nT_len, List.length_map, hx.len, sizeLine_eq]
  omega
end
section
structure AsI where
  n : Nat
  m : Nat
  a : List Deed
  b : List Deed
abbrev sp_aside (c : Cs) : FSpec := { ι := AsI, args := fun i => [progD c.Program i.n i.a, progD c.Program i.m i.b], pre := fun i _ => (∀ x ∈ i.a, x.ok i.n) ∧ (∀ x ∈ i.b, x.ok i.m) ∧ i.a.length + i.b.length ≤ 200 ∧ 1 ≤ i.n ∧ i.n + i.m ≤ 8, res := fun i cs d cs' => d = progD c.Program (i.n + i.m) (i.a ++ i.b.map (mvW i.n)) ∧ cs' = cs }
theorem aside_i {c : Cs} {n m : Nat} {a b : List Deed} {cs : Sto} {Q : PD} {z : Lz (sp_aside c, Q)} (ha : ∀ x ∈ a, x.ok n) (hb : ∀ x ∈ b, x.ok m) (l : a.length + b.length ≤ 200) (n1 : 1 ≤ n) (n8 : n + m ≤ 8) (q : Q (progD c.Program (n + m) (a ++ b.map (mvW n))) cs) : callP (sp_aside c) [progD c.Program n a, progD c.Program m b] cs Q z := callP_i ⟨n, m, a, b⟩ rfl ⟨ha, hb, l, n1, n8⟩ fun _ _ ⟨e1, e2⟩ => by subst e1; subst e2; exact q
theorem calm_aside (c : Cs) : Calm (sp_aside c) := ⟨fun _ _ _ _ h => h⟩
set_option maxHeartbeats 4000000 in
theorem ok_aside (T : Txt w K mg) : FnG P w K mg base CX0 6 T.f_aside T.d_aside ["one", "other"] (dSp K (sp_aside T.cs)) := by
  refine dfun T.F_aside sc_aside (fun _ => rfl) fun cdv A outer s H E hr => ⟨_, (dss_cons (ds_expr (de_call (calm_need_program T.cs) (ok_need_program T) (hr.mono (by decide)) T.m_need_program T.F_need_program.kp T.b_need_program (da_cons (dv 0) (da_cons de_str da_nil))))
      (dss_cons (ds_expr (de_call (calm_need_program T.cs) (ok_need_program T) (hr.mono (by decide)) T.m_need_program T.F_need_program.kp T.b_need_program (da_cons (dv 1) (da_cons de_str da_nil))))
      (dss_cons (ds_if (dt_cmp opd_gt (de_op opd_add (de_fld T.c_Program.cl T.n_Program_wires (dv 0)) (de_fld T.c_Program.cl T.n_Program_wires (dv 1))) (T.k_MOST_WIRES.de rfl)) (dss_one ds_never) dss_nil)
      (dss_cons (ds_set (i := 2) sc_aside.nd (de_lst (da_star (de_fld T.c_Program.cl T.n_Program_deeds (dv 0)) (da_star (de_lc (own := [("deed", 3)]) rfl sc_aside.nd (di_seq (de_fld T.c_Program.cl T.n_Program_deeds (dv 1))) (blkOk_by (own := [("deed", 3)]) (N := N_aside) (sc := defScope s_aside) (by decide +kernel)) (fun _ _ _ _ _ => (dg_nm 3 sc_aside.nd)) (fun _ _ _ _ _ => dts_nil) (fun _ _ _ _ _ => (de_call calm_moved_on (ok_moved_on T) (hr.mono (by decide)) T.m_moved_on T.F_moved_on.kp T.b_moved_on (da_cons (dv 3) (da_cons (de_fld T.c_Program.cl T.n_Program_wires (dv 0)) da_nil))))) da_nil))))
      (dss_cons (ds_expr (de_call calm_need_few (ok_need_few T) (hr.mono (by decide)) T.m_need_few T.F_need_few.kp T.b_need_few (da_cons (dv 2) da_nil)))
      (dss_one (ds_ret (de_mkF (calm_Program___init__ T.cs) T.M_Program (ok_Program___init__ T) (hr.mono (by decide)) T.m_Program T.b_Program___init__ (da_cons (de_op opd_add (de_fld T.c_Program.cl T.n_Program_wires (dv 0)) (de_fld T.c_Program.cl T.n_Program_wires (dv 1))) (da_cons (dv 2) da_nil)))))))))), fun i cs hp => ?_⟩
  obtain ⟨n, m, a, b⟩ := i
  obtain ⟨ha, hb, l, n1, n8⟩ : (∀ x ∈ a, x.ok n) ∧ (∀ x ∈ b, x.ok m) ∧ a.length + b.length ≤ 200 ∧ 1 ≤ n ∧ n + m ≤ 8 := hp
  have hI : ∀ (S : Sto) (n : Nat) (ds : List Deed), insAt S T.cs.Program (progD T.cs.Program n ds) = some ([("wires", .int n), ("deeds", .tup (dL ds))] : List (Str × D)) := fun S n ds => insAt_obj _ _
  have hzb : (dL b).length ≤ sizeLine := by rw [dL, List.length_map, sizeLine_eq]; omega
  have h8 : decide ((8 : Int) < (n : Int) + (m : Int)) = false := decide_eq_false (by omega)
  walk_at "dl"
  refine need_program_i ?_
  walk_at "dl"
  refine need_program_i ?_
  repeat (first | walk_at "dl" | simp only [hI, h8])
  refine ⟨hzb, lc_mp b Deed.d (fun x => (mvW n x).d) trivial (fun x hx => ⟨_, rfl, fun R q => ?_⟩) ?_⟩
  · repeat (first | walk_at "dl" | simp only [hI])
    exact moved_on_i (hb x hx) q
  have e1 : b.map (fun x => (mvW n x).d) = dL (b.map (mvW n)) := by
    unfold dL
    rw [List.map_map]
    rfl
  rw [e1]
  have hll : (a ++ b.map (mvW n)).length ≤ 200 := by rw [List.length_append, List.length_map]; exact l
  have hab : ∀ x ∈ a ++ b.map (mvW n), x.ok (n + m) := fun x hx => by
    rcases List.mem_append.mp hx with h | h
    · exact ok_more (ha x h)
    · obtain ⟨y, hy, rfl⟩ := List.mem_map.mp h
      exact mvW_ok (hb y hy)
  have hz3 : (dL a ++ dL (b.map (mvW n))).length ≤ sizeLine := by rw [dL_app, dL, List.length_map, sizeLine_eq]; omega
  repeat (first | walk_at "dl" | refine ⟨hz3, ?_⟩)
  rw [dL_app]
  refine need_few_i hll ?_
  have ew : (n : Int) + (m : Int) = ((n + m : Nat) : Int) := by omega
  repeat (first | walk_at "dl" | simp only [hI])
  rw [ew]
  refine mkProg_i (n := n + m) (by omega) n8 hab hll ?_
  exact ⟨rfl, rfl⟩
end
section
abbrev sp_law : FSpec := spLaw 63
theorem any_mem {xs : Spr} : (xs.map Am.nz).any id = true ↔ ∃ x ∈ xs, x.nz = true := by
  rw [List.any_eq_true]
  constructor
  · rintro ⟨b, hb, e⟩
    obtain ⟨x, hx, rfl⟩ := List.mem_map.mp hb
    exact ⟨x, hx, e⟩
  · rintro ⟨x, hx, e⟩
    exact ⟨x.nz, List.mem_map.mpr ⟨x, hx, rfl⟩, e⟩
theorem Spr.W.both {n m : Nat} {xs ys : Spr} (w : xs.W n) (v : ys.W m) (l : n + m ≤ 12) : (bothL xs ys).W (n + m) := by
  refine ⟨both_len w.len v.len, l, ?_⟩
  obtain ⟨x, hx, ex⟩ := any_mem.mp w.nz
  obtain ⟨y, hy, ey⟩ := any_mem.mp v.nz
  refine any_mem.mpr ⟨x.mul y, ?_, by rw [Am.mul_nz ((Am.nz_iff y).mp ey)]; exact ex⟩
  unfold bothL
  exact List.mem_flatMap.mpr ⟨y, hy, List.mem_map.mpr ⟨x, hx, rfl⟩⟩
theorem SB.both {n m : Nat} {xs ys : Spr} (h : SB n xs) (k : SB m ys) : SB (n + m + 3) (bothL xs ys) := fun z hz => by
  obtain ⟨y, hy, hz⟩ := List.mem_flatMap.mp hz
  obtain ⟨x, hx, rfl⟩ := List.mem_map.mp hz
  exact (h x hx).mul (k y hy)
theorem calm_law : Calm sp_law := ⟨fun _ _ _ _ h => h⟩
set_option maxHeartbeats 4000000 in
theorem ok_law (T : Txt w K mg) : FnG P w K mg base CX0 8 T.f_law T.d_law ["_law_script"] (dSp K sp_law) := by
  refine dfun T.F_law sc_law (fun _ => rfl) fun cdv A outer s H E hr => ⟨_, (dss_cons (ds_set (i := 1) sc_law.nd (de_call calm__law_cooper (ok__law_cooper T) (hr.mono (by decide)) T.m__law_cooper T.F__law_cooper.kp T.b__law_cooper (da_cons (dv 0) da_nil)))
      (dss_cons (ds_pat (dg_tp rfl (dgs_cons (dg_nm 6 sc_law.nd) (dgs_cons (dg_nm 7 sc_law.nd) dgs_nil))) (de_tup (da_cons (de_op opd_add de_int (de_call calm__law_hoop (ok__law_hoop T) (hr.mono (by decide)) T.m__law_hoop T.F__law_hoop.kp T.b__law_hoop (da_cons (dv 1) (da_cons de_int da_nil)))) (da_cons (de_op opd_add de_int (de_call calm__law_hoop (ok__law_hoop T) (hr.mono (by decide)) T.m__law_hoop T.F__law_hoop.kp T.b__law_hoop (da_cons (dv 1) (da_cons de_int da_nil)))) da_nil))))
      (dss_cons (ds_setLc (i := 2) (own := [("_law_turn", 13)]) rfl sc_law.nd (sw_true rfl rfl rfl (by decide +kernel)) (di_range1 T.z_range (da_cons (de_call calm__law_one (ok__law_one T) (hr.mono (by decide)) T.m__law_one T.F__law_one.kp T.b__law_one (da_cons (dv 1) (da_cons (de_lst (da_cons de_int (da_cons de_int (da_cons de_int da_nil)))) da_nil))) da_nil)) (blkOk_by (own := [("_law_turn", 13)]) (N := N_law) (sc := defScope s_law) (by decide +kernel)) (fun _ _ _ _ _ => (dg_nm 13 sc_law.nd)) (fun _ _ _ _ _ => dts_nil) (fun _ _ _ _ _ => (de_call calm__law_deed (ok__law_deed T) (hr.mono (by decide)) T.m__law_deed T.F__law_deed.kp T.b__law_deed (da_cons (dv 1) (da_cons (dv 6) da_nil)))))
      (dss_cons (ds_setLc (i := 3) (own := [("_law_turn", 13)]) rfl sc_law.nd (sw_true rfl rfl rfl (by decide +kernel)) (di_range1 T.z_range (da_cons (de_call calm__law_one (ok__law_one T) (hr.mono (by decide)) T.m__law_one T.F__law_one.kp T.b__law_one (da_cons (dv 1) (da_cons (de_lst (da_cons de_int (da_cons de_int (da_cons de_int da_nil)))) da_nil))) da_nil)) (blkOk_by (own := [("_law_turn", 13)]) (N := N_law) (sc := defScope s_law) (by decide +kernel)) (fun _ _ _ _ _ => (dg_nm 13 sc_law.nd)) (fun _ _ _ _ _ => dts_nil) (fun _ _ _ _ _ => (de_call calm__law_deed (ok__law_deed T) (hr.mono (by decide)) T.m__law_deed T.F__law_deed.kp T.b__law_deed (da_cons (dv 1) (da_cons (dv 6) da_nil)))))
      (dss_cons (ds_setLc (i := 4) (own := [("_law_turn", 13)]) rfl sc_law.nd (sw_true rfl rfl rfl (by decide +kernel)) (di_range1 T.z_range (da_cons (de_call calm__law_one (ok__law_one T) (hr.mono (by decide)) T.m__law_one T.F__law_one.kp T.b__law_one (da_cons (dv 1) (da_cons (de_lst (da_cons de_int (da_cons de_int (da_cons de_int da_nil)))) da_nil))) da_nil)) (blkOk_by (own := [("_law_turn", 13)]) (N := N_law) (sc := defScope s_law) (by decide +kernel)) (fun _ _ _ _ _ => (dg_nm 13 sc_law.nd)) (fun _ _ _ _ _ => dts_nil) (fun _ _ _ _ _ => (de_call calm__law_deed (ok__law_deed T) (hr.mono (by decide)) T.m__law_deed T.F__law_deed.kp T.b__law_deed (da_cons (dv 1) (da_cons (dv 7) da_nil)))))
      (dss_cons (ds_par (i := 8) (j := 9) rfl sc_law.nd (da_cons (de_call calm__law_spread (ok__law_spread T) (hr.mono (by decide)) T.m__law_spread T.F__law_spread.kp T.b__law_spread (da_cons (dv 1) (da_cons (dv 6) da_nil))) (da_cons (de_call calm__law_spread (ok__law_spread T) (hr.mono (by decide)) T.m__law_spread T.F__law_spread.kp T.b__law_spread (da_cons (dv 1) (da_cons (dv 7) da_nil))) da_nil)))
      (dss_cons (ds_if (dt_of (dw_or (dt_not (dt_tru (de_call calm__law_undone_right (ok__law_undone_right T) (hr.mono (by decide)) T.m__law_undone_right T.F__law_undone_right.kp T.b__law_undone_right (da_cons (dv 6) (da_cons (dv 2) (da_cons (dv 8) da_nil)))))) (dw_or1 (dt_not (dt_tru (de_call calm__law_undone_right (ok__law_undone_right T) (hr.mono (by decide)) T.m__law_undone_right T.F__law_undone_right.kp T.b__law_undone_right (da_cons (dv 7) (da_cons (dv 4) (da_cons (dv 9) da_nil))))))))) (dss_one (ds_ret de_bl)) dss_nil)
      (dss_cons (ds_par3 (i := 10) (j := 11) (k := 12) rfl sc_law.nd (da_cons (de_mkF (calm_Program___init__ T.cs) T.M_Program (ok_Program___init__ T) (hr.mono (by decide)) T.m_Program T.b_Program___init__ (da_cons (dv 6) (da_cons (dv 2) da_nil))) (da_cons (de_mkF (calm_Program___init__ T.cs) T.M_Program (ok_Program___init__ T) (hr.mono (by decide)) T.m_Program T.b_Program___init__ (da_cons (dv 6) (da_cons (dv 3) da_nil))) (da_cons (de_mkF (calm_Program___init__ T.cs) T.M_Program (ok_Program___init__ T) (hr.mono (by decide)) T.m_Program T.b_Program___init__ (da_cons (dv 7) (da_cons (dv 4) da_nil))) da_nil))))
      (dss_cons (ds_set (i := 5) sc_law.nd (de_call calm__law_plain (ok__law_plain T) (hr.mono (by decide)) T.m__law_plain T.F__law_plain.kp T.b__law_plain (da_cons (de_call calm__law_behind (ok__law_behind T) (hr.mono (by decide)) T.m__law_behind T.F__law_behind.kp T.b__law_behind (da_cons (de_call calm__law_behind (ok__law_behind T) (hr.mono (by decide)) T.m__law_behind T.F__law_behind.kp T.b__law_behind (da_cons (dv 8) (da_cons (dv 2) da_nil))) (da_cons (dv 3) da_nil))) da_nil)))
      (dss_cons (ds_if (dt_of (dw_or (dt_cmp (opd_ne hr.r.units) (de_callB (cd_reprX hr.gd hr.r.units) T.z_repr (by decide +kernel) (da_cons (de_call (calm_meaning T.cs) (ok_meaning T) (hr.mono (by decide)) T.m_meaning T.F_meaning.kp T.b_meaning (da_cons (de_call (calm_joined T.cs) (ok_joined T) (hr.mono (by decide)) T.m_joined T.F_joined.kp T.b_joined (da_cons (dv 10) (da_cons (dv 11) da_nil))) (da_cons (dv 8) da_nil))) da_nil)) (de_callB (cd_reprX hr.gd hr.r.units) T.z_repr (by decide +kernel) (da_cons (dv 5) da_nil))) (dw_or1 (dt_cmp (opd_ne hr.r.units) (de_callB (cd_reprX hr.gd hr.r.units) T.z_repr (by decide +kernel) (da_cons (de_call (calm_meaning T.cs) (ok_meaning T) (hr.mono (by decide)) T.m_meaning T.F_meaning.kp T.b_meaning (da_cons (dv 11) (da_cons (de_call (calm_meaning T.cs) (ok_meaning T) (hr.mono (by decide)) T.m_meaning T.F_meaning.kp T.b_meaning (da_cons (dv 10) (da_cons (dv 8) da_nil))) da_nil))) da_nil)) (de_callB (cd_reprX hr.gd hr.r.units) T.z_repr (by decide +kernel) (da_cons (dv 5) da_nil)))))) (dss_one (ds_ret de_bl)) dss_nil)
      (dss_cons (ds_set (i := 5) sc_law.nd (de_call calm__law_plain (ok__law_plain T) (hr.mono (by decide)) T.m__law_plain T.F__law_plain.kp T.b__law_plain (da_cons (de_call calm__law_both_of (ok__law_both_of T) (hr.mono (by decide)) T.m__law_both_of T.F__law_both_of.kp T.b__law_both_of (da_cons (de_call calm__law_behind (ok__law_behind T) (hr.mono (by decide)) T.m__law_behind T.F__law_behind.kp T.b__law_behind (da_cons (dv 8) (da_cons (dv 2) da_nil))) (da_cons (de_call calm__law_behind (ok__law_behind T) (hr.mono (by decide)) T.m__law_behind T.F__law_behind.kp T.b__law_behind (da_cons (dv 9) (da_cons (dv 4) da_nil))) da_nil))) da_nil)))
      (dss_one (ds_ret (de_cmp (opd_eq hr.r.units) (de_callB (cd_reprX hr.gd hr.r.units) T.z_repr (by decide +kernel) (da_cons (de_call (calm_meaning T.cs) (ok_meaning T) (hr.mono (by decide)) T.m_meaning T.F_meaning.kp T.b_meaning (da_cons (de_call (calm_aside T.cs) (ok_aside T) (hr.mono (by decide)) T.m_aside T.F_aside.kp T.b_aside (da_cons (dv 10) (da_cons (dv 12) da_nil))) (da_cons (de_call calm__law_both_of (ok__law_both_of T) (hr.mono (by decide)) T.m__law_both_of T.F__law_both_of.kp T.b__law_both_of (da_cons (dv 8) (da_cons (dv 9) da_nil))) da_nil))) da_nil)) (de_callB (cd_reprX hr.gd hr.r.units) T.z_repr (by decide +kernel) (da_cons (dv 5) da_nil)))))))))))))))), fun i cs hp => ?_⟩
  obtain ⟨ns, hn⟩ := i
  cases hp
  simp only [sp_law, spLaw]
  walk_at "go"
  refine callP_i ⟨ns, hn⟩ rfl rfl ?_
  rintro _ _ ⟨rfl, ms, hm, rfl⟩
  walk_at "dl"
  have sv0 : SvN 0 0 [svc ms 0 0] := ⟨ms, 0, 0, rfl, by decide, by decide, hm⟩
  refine ladle_i (n := 0) sv0 (by decide) (by decide) (by decide) fun r cs1 r0 r1 mv1 => ?_
  obtain ⟨r, rfl⟩ := Int.eq_ofNat_of_zero_le r0
  obtain ⟨n, hnn⟩ : ∃ n : Nat, n = 1 + r := ⟨_, rfl⟩
  have en : (1 : Int) + (r : Int) = (n : Int) := by omega
  have n1 : 1 ≤ n := by omega
  have n3 : n ≤ 3 := by omega
  walk_at "dl"
  rw [en]
  clear en
  refine ladle_i (n := 1) mv1.sv (by decide) (by decide) (by decide) fun s cs2 s0 s1 mv2 => ?_
  obtain ⟨s, rfl⟩ := Int.eq_ofNat_of_zero_le s0
  obtain ⟨m, hmm⟩ : ∃ m : Nat, m = 1 + s := ⟨_, rfl⟩
  have em : (1 : Int) + (s : Int) = (m : Int) := by omega
  have m1 : 1 ≤ m := by omega
  have m2 : m ≤ 2 := by omega
  walk_at "dl"
  rw [em]
  clear em
  refine one_i (n := 2) mv2.sv (by decide) (by decide) (by decide) fun d cs3 hd mv3 => ?_
  obtain ⟨k, rfl, k8⟩ : ∃ k : Nat, d = .int k ∧ k ≤ 8 := by
    simp only [List.mem_cons, List.not_mem_nil, or_false] at hd
    rcases hd with rfl | rfl | rfl
    · exact ⟨1, rfl, by decide⟩
    · exact ⟨3, rfl, by decide⟩
    · exact ⟨8, rfl, by decide⟩
  clear hd
  have hz : ∀ k : Nat, k ≤ 8 → (rngD 0 k).length ≤ sizeLine := fun k h => by rw [rngD_len, sizeLine_eq]; omega
  walk_at "dl"
  refine ⟨by omega, hz k k8, lc_drw (fun x : Deed => x.d) (fun x => x.ok n) 5 0 3 k mv3.sv (fun i hi S mv => ?_) (fun mine cs4 lm hmok mv4 => ?_)⟩
  · refine ⟨_, rfl, fun R q => ?_⟩
    walk_at "dl"
    refine ldeed_i (n := 3 + 5 * i) mv.sv (by omega) n1 (by omega) fun x S' hx mv' => ?_
    exact q x S' hx (mv.trans mv')
  have edl : ∀ ds : List Deed, ds.map (fun x : Deed => x.d) = dL ds := fun _ => rfl
  rw [edl]
  walk_at "dl"
  refine one_i (n := 3 + 5 * k) mv4.sv (by decide) (by decide) (by omega) fun d cs5 hd mv5 => ?_
  obtain ⟨k', rfl, k5⟩ : ∃ k : Nat, d = .int k ∧ k ≤ 5 := by
    simp only [List.mem_cons, List.not_mem_nil, or_false] at hd
    rcases hd with rfl | rfl | rfl
    · exact ⟨0, rfl, by decide⟩
    · exact ⟨2, rfl, by decide⟩
    · exact ⟨5, rfl, by decide⟩
  clear hd
  walk_at "dl"
  refine ⟨by omega, hz k' (by omega), lc_drw (fun x : Deed => x.d) (fun x => x.ok n) 5 0 (3 + 5 * k + 1) k' mv5.sv (fun i hi S mv => ?_) (fun its cs6 li hiok mv6 => ?_)⟩
  · refine ⟨_, rfl, fun R q => ?_⟩
    walk_at "dl"
    refine ldeed_i (n := 3 + 5 * k + 1 + 5 * i) mv.sv (by omega) n1 (by omega) fun x S' hx mv' => ?_
    exact q x S' hx (mv.trans mv')
  rw [edl]
  walk_at "dl"
  refine one_i (n := 3 + 5 * k + 1 + 5 * k') mv6.sv (by decide) (by decide) (by omega) fun d cs7 hd mv7 => ?_
  obtain ⟨k2, rfl, k25⟩ : ∃ k : Nat, d = .int k ∧ k ≤ 5 := by
    simp only [List.mem_cons, List.not_mem_nil, or_false] at hd
    rcases hd with rfl | rfl | rfl
    · exact ⟨1, rfl, by decide⟩
    · exact ⟨2, rfl, by decide⟩
    · exact ⟨5, rfl, by decide⟩
  clear hd
  walk_at "dl"
  refine ⟨by omega, hz k2 (by omega), lc_drw (fun x : Deed => x.d) (fun x => x.ok m) 5 0 (3 + 5 * k + 1 + 5 * k' + 1) k2 mv7.sv (fun i hi S mv => ?_) (fun far cs8 lf hfok mv8 => ?_)⟩
  · refine ⟨_, rfl, fun R q => ?_⟩
    walk_at "dl"
    refine ldeed_i (n := 3 + 5 * k + 1 + 5 * k' + 1 + 5 * i) mv.sv (by omega) m1 (by omega) fun x S' hx mv' => ?_
    exact q x S' hx (mv.trans mv')
  rw [edl]
  walk_at "dl"
  refine lspread_i (n := 3 + 5 * k + 1 + 5 * k' + 1 + 5 * k2) mv8.sv (by omega) (by omega) fun xs cs9 hwx hbx mv9 => ?_
  walk_at "dl"
  refine lspread_i (n := 3 + 5 * k + 1 + 5 * k' + 1 + 5 * k2 + 200) mv9.sv (by omega) (by omega) fun ys cs10 hwy hby mv10 => ?_
  walk_at "dl"
  refine lundone_i (n := n) hmok (by omega) n1 (by omega) hwx hbx ?_
  walk_at "dl"
  refine lundone_i (n := m) hfok (by omega) m1 (by omega) hwy hby ?_
  walk_at "dl"
  refine mkProg_i (n := n) n1 (by omega) hmok (by omega) ?_
  walk_at "dl"
  refine mkProg_i (n := n) n1 (by omega) hiok (by omega) ?_
  walk_at "dl"
  refine mkProg_i (n := m) m1 (by omega) hfok (by omega) ?_
  walk_at "dl"
  have hx8 : xs.length ≤ 8 := by
    rw [hwx.len]
    exact Nat.pow_le_pow_right (n := 2) (by decide) n3
  have hy4 : ys.length ≤ 4 := by
    rw [hwy.len]
    exact Nat.pow_le_pow_right (n := 2) (by decide) m2
  obtain ⟨wA, bA'⟩ := runL_ok hmok hwx hbx
  have bA : SB 55 (runL n mine xs) := fun y hy => (bA' y hy).mono (by omega)
  obtain ⟨wB, bB'⟩ := runL_ok hiok wA bA
  have bB : SB 60 (runL n its (runL n mine xs)) := fun y hy => (bB' y hy).mono (by omega)
  obtain ⟨wC, bC'⟩ := runL_ok hfok hwy hby
  have bC : SB 52 (runL m far ys) := fun y hy => (bC' y hy).mono (by omega)
  have lA : (runL n mine xs).length = xs.length := runL_len _ _ _
  have lB : (runL n its (runL n mine xs)).length = xs.length := by rw [runL_len, runL_len]
  have lC : (runL m far ys).length = ys.length := runL_len _ _ _
  have wD := wA.both wC (by omega)
  have bD := bA.both bC
  have wE := hwx.both hwy (by omega)
  have bE := hbx.both hby
  have rB : ∀ cs, reprX cs (.tup (sT (plainL (runL n its (runL n mine xs))))) = some (True, shD (.tup (sT (plainL (runL n its (runL n mine xs)))))) := fun cs => reprX_of (repr_t (SB.plain bB wB.nz) (by rw [plainL_len, lB]; omega) (by decide) cs)
  have hlD : (bothL (runL n mine xs) (runL m far ys)).length ≤ 32 := by
    rw [bothL_len, lA, lC]
    exact Nat.mul_le_mul hx8 hy4
  have rD : ∀ cs, reprX cs (.tup (sT (plainL (bothL (runL n mine xs) (runL m far ys))))) = some (True, shD (.tup (sT (plainL (bothL (runL n mine xs) (runL m far ys)))))) := fun cs => reprX_of (repr_t (SB.plain bD wD.nz) (by rw [plainL_len]; omega) (by decide) cs)
  have hmi : ∀ x ∈ mine ++ its, x.ok n := fun x hx => (List.mem_append.mp hx).elim (hmok x) (hiok x)
  have hmf : ∀ x ∈ mine ++ far.map (mvW n), x.ok (n + m) := fun x hx => by
    rcases List.mem_append.mp hx with h | h
    · exact ok_more (hmok x h)
    · obtain ⟨y, hy, rfl⟩ := List.mem_map.mp h
      exact mvW_ok (hfok y hy)
  have e1 : plainL (runL n (mine ++ its) xs) = plainL (runL n its (runL n mine xs)) := by rw [runL_app]
  have e2 : plainL (runL n its (plainL (runL n mine xs))) = plainL (runL n its (runL n mine xs)) := plain_run hiok wA
  have e3 : plainL (runL (n + m) (mine ++ far.map (mvW n)) (bothL xs ys)) = plainL (bothL (runL n mine xs) (runL m far ys)) := by rw [both_runs hmok hfok hwx.len hwy.len]
  refine lbehind_i (n := n) hwx.len (by omega) hmok ?_
  walk_at "dl"
  refine lbehind_i (n := n) wA.len (by omega) hiok ?_
  walk_at "dl"
  refine lplain_i (n := n) (m := 60) rfl wB bB (by decide) ?_
  walk_at "dl"
  refine joined_i (n := n) hmok hiok (by omega) n1 (by omega) ?_
  walk_at "dl"
  refine meaning_i (n := n) (m := 47) (SpD.lst _) hwx hmi hbx (by rw [List.length_append]; omega) ?_
  rw [e1]
  repeat (first | walk_at "dl" | simp only [rB])
  refine meaning_i (n := n) (m := 47) (SpD.lst _) hwx hmok hbx (by omega) ?_
  walk_at "dl"
  refine meaning_i (n := n) (m := 229) (SpD.tup _) (plain_W wA) hiok (SB.plain bA wA.nz) (by omega) ?_
  rw [e2]
  repeat (first | walk_at "dl" | simp only [rB])
  refine lbehind_i (n := n) hwx.len (by omega) hmok ?_
  walk_at "dl"
  refine lbehind_i (n := m) hwy.len (by omega) hfok ?_
  walk_at "dl"
  refine lboth_i (n := 55) (m := 52) bA bC (by decide) (by omega) (by omega) ?_
  walk_at "dl"
  refine lplain_i (n := n + m) (m := 110) rfl wD bD (by decide) ?_
  walk_at "dl"
  refine aside_i (n := n) (m := m) hmok hfok (by omega) n1 (by omega) ?_
  walk_at "dl"
  refine lboth_i (n := 47) (m := 47) hbx hby (by decide) (by omega) (by omega) ?_
  walk_at "dl"
  refine meaning_i (n := n + m) (m := 97) (SpD.lst _) wE hmf bE (by rw [List.length_append, List.length_map]; omega) ?_
  rw [e3]
  repeat (first | walk_at "dl" | simp only [rD])
end

set_option maxHeartbeats 4000000 in
theorem all_mk {q : PySem.W.OpenLaw} {w : World} {K : PySem.W.Frag} {h : Heap} {mg : Str → Option Value} {fa : Addr} (X : K.In h) (G : h.Ns mainGlobals mg) (hfa : mg "law" = some (.ref fa))
    {f0 : Addr} {oc0 kV0 dc0 pm0 cd0 ct0 : Value} {od0 an0 : Option Addr} {sl0 : Array (Option Value)}
    (a0 : PySem.W.nsIn K mainGlobals "_law_cooper" = some (some (.ref f0)))
    (l0 : K.lookup f0 = some ⟨oc0, od0, .func (PySem.W.fnOf "_law_cooper" "_law_cooper" (defArgs s__law_cooper) (defBody s__law_cooper) (defScope s__law_cooper) .none kV0 dc0 pm0 an0 cd0 ct0), sl0⟩) (c0 : PySem.W.codeIn K cd0 "_law_cooper" = true) (k0 : PySem.W.keepIn K (.ref f0) = true)
    {f1 : Addr} {oc1 kV1 dc1 pm1 cd1 ct1 : Value} {od1 an1 : Option Addr} {sl1 : Array (Option Value)}
    (a1 : PySem.W.nsIn K mainGlobals "is_integer" = some (some (.ref f1)))
    (l1 : K.lookup f1 = some ⟨oc1, od1, .func (PySem.W.fnOf "is_integer" "is_integer" (defArgs s_is_integer) (defBody s_is_integer) (defScope s_is_integer) .none kV1 dc1 pm1 an1 cd1 ct1), sl1⟩) (c1 : PySem.W.codeIn K cd1 "is_integer" = true) (k1 : PySem.W.keepIn K (.ref f1) = true)
    {f2 : Addr} {oc2 kV2 dc2 pm2 cd2 ct2 : Value} {od2 an2 : Option Addr} {sl2 : Array (Option Value)}
    (a2 : PySem.W.nsIn K mainGlobals "is_within" = some (some (.ref f2)))
    (l2 : K.lookup f2 = some ⟨oc2, od2, .func (PySem.W.fnOf "is_within" "is_within" (defArgs s_is_within) (defBody s_is_within) (defScope s_is_within) .none kV2 dc2 pm2 an2 cd2 ct2), sl2⟩) (c2 : PySem.W.codeIn K cd2 "is_within" = true) (k2 : PySem.W.keepIn K (.ref f2) = true)
    {f3 : Addr} {oc3 kV3 dc3 pm3 cd3 ct3 : Value} {od3 an3 : Option Addr} {sl3 : Array (Option Value)}
    (a3 : PySem.W.nsIn K mainGlobals "is_deed" = some (some (.ref f3)))
    (l3 : K.lookup f3 = some ⟨oc3, od3, .func (PySem.W.fnOf "is_deed" "is_deed" (defArgs s_is_deed) (defBody s_is_deed) (defScope s_is_deed) .none kV3 dc3 pm3 an3 cd3 ct3), sl3⟩) (c3 : PySem.W.codeIn K cd3 "is_deed" = true) (k3 : PySem.W.keepIn K (.ref f3) = true)
    {f4 : Addr} {oc4 kV4 dc4 pm4 cd4 ct4 : Value} {od4 an4 : Option Addr} {sl4 : Array (Option Value)}
    {C_Program : Addr} (ca_Program : PySem.W.nsIn K mainGlobals "Program" = some (some (.ref C_Program)))
    (cb_Program_0 : PySem.W.plainGet K C_Program Str.empty = true)
    (cb_Program_1 : PySem.W.hasDictIn K C_Program = true)
    (cb_Program_2 : PySem.W.plainOver K C_Program = true)
    (cb_Program_3 : PySem.W.findIn K (.ref C_Program) "__setattr__" = some (some (.builtin "object.__setattr__")))
    (cb_Program_4 : PySem.W.findIn K (.ref C_Program) "__class__" = some (some (.builtin "object.__class__")))
    (cb_Program_5 : PySem.W.specialIn K (.builtin "object.__class__") "__get__" = some (some (.builtin "getset_descriptor.__get__")))
    (cb_Program_6 : PySem.W.takesIn K (.builtin "object.__class__") = some true)
    (cb_Program_7 : PySem.W.mroIn K C_Program (.type "object") = some true)
    (cb_Program_8 : PySem.W.isClsIn K C_Program = true)
    (cb_Program_9 : PySem.W.subIn K (.type "NoneType") (.ref C_Program) = some false)
    (cb_Program_10 : PySem.W.subIn K (.type "bool") (.ref C_Program) = some false)
    (cb_Program_11 : PySem.W.subIn K (.type "int") (.ref C_Program) = some false)
    (cb_Program_12 : PySem.W.subIn K (.type "str") (.ref C_Program) = some false)
    (cb_Program_13 : PySem.W.subIn K (.type "tuple") (.ref C_Program) = some false)
    (cb_Program_14 : PySem.W.subIn K (.type "list") (.ref C_Program) = some false)
    (cb_Program_15 : PySem.W.subIn K (.type "dict") (.ref C_Program) = some false)
    (cb_Program_16 : PySem.W.typeIn K (.ref C_Program) = some (.type "type"))
    (cm_Program : PySem.W.makesIn K C_Program = true) (ck_Program : PySem.W.keepIn K (.ref C_Program) = true)
    (cn_Program_wires : PySem.W.findIn K (.ref C_Program) "wires" = some none)
    (cn_Program_deeds : PySem.W.findIn K (.ref C_Program) "deeds" = some none)
    (a4 : PySem.W.findIn K (.ref C_Program) "__init__" = some (some (.ref f4)))
    (l4 : K.lookup f4 = some ⟨oc4, od4, .func (PySem.W.fnOf "__init__" "Program.__init__" (defArgs s_Program___init__) (defBody s_Program___init__) (defScope s_Program___init__) .none kV4 dc4 pm4 an4 cd4 ct4), sl4⟩) (c4 : PySem.W.codeIn K cd4 "Program.__init__" = true) (k4 : PySem.W.keepIn K (.ref f4) = true)
    (fn4 : PySem.W.isFn K (.ref f4) = true)
    {f5 : Addr} {oc5 kV5 dc5 pm5 cd5 ct5 : Value} {od5 an5 : Option Addr} {sl5 : Array (Option Value)}
    (a5 : PySem.W.nsIn K mainGlobals "_law_plus" = some (some (.ref f5)))
    (l5 : K.lookup f5 = some ⟨oc5, od5, .func (PySem.W.fnOf "_law_plus" "_law_plus" (defArgs s__law_plus) (defBody s__law_plus) (defScope s__law_plus) .none kV5 dc5 pm5 an5 cd5 ct5), sl5⟩) (c5 : PySem.W.codeIn K cd5 "_law_plus" = true) (k5 : PySem.W.keepIn K (.ref f5) = true)
    {f6 : Addr} {oc6 kV6 dc6 pm6 cd6 ct6 : Value} {od6 an6 : Option Addr} {sl6 : Array (Option Value)}
    (a6 : PySem.W.nsIn K mainGlobals "_law_spun" = some (some (.ref f6)))
    (l6 : K.lookup f6 = some ⟨oc6, od6, .func (PySem.W.fnOf "_law_spun" "_law_spun" (defArgs s__law_spun) (defBody s__law_spun) (defScope s__law_spun) .none kV6 dc6 pm6 an6 cd6 ct6), sl6⟩) (c6 : PySem.W.codeIn K cd6 "_law_spun" = true) (k6 : PySem.W.keepIn K (.ref f6) = true)
    {f7 : Addr} {oc7 kV7 dc7 pm7 cd7 ct7 : Value} {od7 an7 : Option Addr} {sl7 : Array (Option Value)}
    (a7 : PySem.W.nsIn K mainGlobals "_law_times" = some (some (.ref f7)))
    (l7 : K.lookup f7 = some ⟨oc7, od7, .func (PySem.W.fnOf "_law_times" "_law_times" (defArgs s__law_times) (defBody s__law_times) (defScope s__law_times) .none kV7 dc7 pm7 an7 cd7 ct7), sl7⟩) (c7 : PySem.W.codeIn K cd7 "_law_times" = true) (k7 : PySem.W.keepIn K (.ref f7) = true)
    {f8 : Addr} {oc8 kV8 dc8 pm8 cd8 ct8 : Value} {od8 an8 : Option Addr} {sl8 : Array (Option Value)}
    (a8 : PySem.W.nsIn K mainGlobals "_law_plain" = some (some (.ref f8)))
    (l8 : K.lookup f8 = some ⟨oc8, od8, .func (PySem.W.fnOf "_law_plain" "_law_plain" (defArgs s__law_plain) (defBody s__law_plain) (defScope s__law_plain) .none kV8 dc8 pm8 an8 cd8 ct8), sl8⟩) (c8 : PySem.W.codeIn K cd8 "_law_plain" = true) (k8 : PySem.W.keepIn K (.ref f8) = true)
    {f9 : Addr} {oc9 kV9 dc9 pm9 cd9 ct9 : Value} {od9 an9 : Option Addr} {sl9 : Array (Option Value)}
    (a9 : PySem.W.nsIn K mainGlobals "_law_hoop" = some (some (.ref f9)))
    (l9 : K.lookup f9 = some ⟨oc9, od9, .func (PySem.W.fnOf "_law_hoop" "_law_hoop" (defArgs s__law_hoop) (defBody s__law_hoop) (defScope s__law_hoop) .none kV9 dc9 pm9 an9 cd9 ct9), sl9⟩) (c9 : PySem.W.codeIn K cd9 "_law_hoop" = true) (k9 : PySem.W.keepIn K (.ref f9) = true)
    {f10 : Addr} {oc10 kV10 dc10 pm10 cd10 ct10 : Value} {od10 an10 : Option Addr} {sl10 : Array (Option Value)}
    (a10 : PySem.W.nsIn K mainGlobals "_law_one" = some (some (.ref f10)))
    (l10 : K.lookup f10 = some ⟨oc10, od10, .func (PySem.W.fnOf "_law_one" "_law_one" (defArgs s__law_one) (defBody s__law_one) (defScope s__law_one) .none kV10 dc10 pm10 an10 cd10 ct10), sl10⟩) (c10 : PySem.W.codeIn K cd10 "_law_one" = true) (k10 : PySem.W.keepIn K (.ref f10) = true)
    {f11 : Addr} {oc11 kV11 dc11 pm11 cd11 ct11 : Value} {od11 an11 : Option Addr} {sl11 : Array (Option Value)}
    (a11 : PySem.W.nsIn K mainGlobals "_law_deed" = some (some (.ref f11)))
    (l11 : K.lookup f11 = some ⟨oc11, od11, .func (PySem.W.fnOf "_law_deed" "_law_deed" (defArgs s__law_deed) (defBody s__law_deed) (defScope s__law_deed) .none kV11 dc11 pm11 an11 cd11 ct11), sl11⟩) (c11 : PySem.W.codeIn K cd11 "_law_deed" = true) (k11 : PySem.W.keepIn K (.ref f11) = true)
    {f12 : Addr} {oc12 kV12 dc12 pm12 cd12 ct12 : Value} {od12 an12 : Option Addr} {sl12 : Array (Option Value)}
    (a12 : PySem.W.nsIn K mainGlobals "_law_spread" = some (some (.ref f12)))
    (l12 : K.lookup f12 = some ⟨oc12, od12, .func (PySem.W.fnOf "_law_spread" "_law_spread" (defArgs s__law_spread) (defBody s__law_spread) (defScope s__law_spread) .none kV12 dc12 pm12 an12 cd12 ct12), sl12⟩) (c12 : PySem.W.codeIn K cd12 "_law_spread" = true) (k12 : PySem.W.keepIn K (.ref f12) = true)
    {f13 : Addr} {oc13 kV13 dc13 pm13 cd13 ct13 : Value} {od13 an13 : Option Addr} {sl13 : Array (Option Value)}
    (a13 : PySem.W.nsIn K mainGlobals "_law_has" = some (some (.ref f13)))
    (l13 : K.lookup f13 = some ⟨oc13, od13, .func (PySem.W.fnOf "_law_has" "_law_has" (defArgs s__law_has) (defBody s__law_has) (defScope s__law_has) .none kV13 dc13 pm13 an13 cd13 ct13), sl13⟩) (c13 : PySem.W.codeIn K cd13 "_law_has" = true) (k13 : PySem.W.keepIn K (.ref f13) = true)
    {f14 : Addr} {oc14 kV14 dc14 pm14 cd14 ct14 : Value} {od14 an14 : Option Addr} {sl14 : Array (Option Value)}
    (a14 : PySem.W.nsIn K mainGlobals "_law_minus" = some (some (.ref f14)))
    (l14 : K.lookup f14 = some ⟨oc14, od14, .func (PySem.W.fnOf "_law_minus" "_law_minus" (defArgs s__law_minus) (defBody s__law_minus) (defScope s__law_minus) .none kV14 dc14 pm14 an14 cd14 ct14), sl14⟩) (c14 : PySem.W.codeIn K cd14 "_law_minus" = true) (k14 : PySem.W.keepIn K (.ref f14) = true)
    {f15 : Addr} {oc15 kV15 dc15 pm15 cd15 ct15 : Value} {od15 an15 : Option Addr} {sl15 : Array (Option Value)}
    (a15 : PySem.W.nsIn K mainGlobals "_law_from" = some (some (.ref f15)))
    (l15 : K.lookup f15 = some ⟨oc15, od15, .func (PySem.W.fnOf "_law_from" "_law_from" (defArgs s__law_from) (defBody s__law_from) (defScope s__law_from) .none kV15 dc15 pm15 an15 cd15 ct15), sl15⟩) (c15 : PySem.W.codeIn K cd15 "_law_from" = true) (k15 : PySem.W.keepIn K (.ref f15) = true)
    {f16 : Addr} {oc16 kV16 dc16 pm16 cd16 ct16 : Value} {od16 an16 : Option Addr} {sl16 : Array (Option Value)}
    (a16 : PySem.W.nsIn K mainGlobals "_law_done" = some (some (.ref f16)))
    (l16 : K.lookup f16 = some ⟨oc16, od16, .func (PySem.W.fnOf "_law_done" "_law_done" (defArgs s__law_done) (defBody s__law_done) (defScope s__law_done) .none kV16 dc16 pm16 an16 cd16 ct16), sl16⟩) (c16 : PySem.W.codeIn K cd16 "_law_done" = true) (k16 : PySem.W.keepIn K (.ref f16) = true)
    {f17 : Addr} {oc17 kV17 dc17 pm17 cd17 ct17 : Value} {od17 an17 : Option Addr} {sl17 : Array (Option Value)}
    (a17 : PySem.W.nsIn K mainGlobals "_law_behind" = some (some (.ref f17)))
    (l17 : K.lookup f17 = some ⟨oc17, od17, .func (PySem.W.fnOf "_law_behind" "_law_behind" (defArgs s__law_behind) (defBody s__law_behind) (defScope s__law_behind) .none kV17 dc17 pm17 an17 cd17 ct17), sl17⟩) (c17 : PySem.W.codeIn K cd17 "_law_behind" = true) (k17 : PySem.W.keepIn K (.ref f17) = true)
    {f18 : Addr} {oc18 kV18 dc18 pm18 cd18 ct18 : Value} {od18 an18 : Option Addr} {sl18 : Array (Option Value)}
    (a18 : PySem.W.nsIn K mainGlobals "_law_both_of" = some (some (.ref f18)))
    (l18 : K.lookup f18 = some ⟨oc18, od18, .func (PySem.W.fnOf "_law_both_of" "_law_both_of" (defArgs s__law_both_of) (defBody s__law_both_of) (defScope s__law_both_of) .none kV18 dc18 pm18 an18 cd18 ct18), sl18⟩) (c18 : PySem.W.codeIn K cd18 "_law_both_of" = true) (k18 : PySem.W.keepIn K (.ref f18) = true)
    {f19 : Addr} {oc19 kV19 dc19 pm19 cd19 ct19 : Value} {od19 an19 : Option Addr} {sl19 : Array (Option Value)}
    (a19 : PySem.W.nsIn K mainGlobals "_law_length" = some (some (.ref f19)))
    (l19 : K.lookup f19 = some ⟨oc19, od19, .func (PySem.W.fnOf "_law_length" "_law_length" (defArgs s__law_length) (defBody s__law_length) (defScope s__law_length) .none kV19 dc19 pm19 an19 cd19 ct19), sl19⟩) (c19 : PySem.W.codeIn K cd19 "_law_length" = true) (k19 : PySem.W.keepIn K (.ref f19) = true)
    {f20 : Addr} {oc20 kV20 dc20 pm20 cd20 ct20 : Value} {od20 an20 : Option Addr} {sl20 : Array (Option Value)}
    (a20 : PySem.W.nsIn K mainGlobals "times" = some (some (.ref f20)))
    (l20 : K.lookup f20 = some ⟨oc20, od20, .func (PySem.W.fnOf "times" "times" (defArgs s_times) (defBody s_times) (defScope s_times) .none kV20 dc20 pm20 an20 cd20 ct20), sl20⟩) (c20 : PySem.W.codeIn K cd20 "times" = true) (k20 : PySem.W.keepIn K (.ref f20) = true)
    {f21 : Addr} {oc21 kV21 dc21 pm21 cd21 ct21 : Value} {od21 an21 : Option Addr} {sl21 : Array (Option Value)}
    (a21 : PySem.W.nsIn K mainGlobals "mirror" = some (some (.ref f21)))
    (l21 : K.lookup f21 = some ⟨oc21, od21, .func (PySem.W.fnOf "mirror" "mirror" (defArgs s_mirror) (defBody s_mirror) (defScope s_mirror) .none kV21 dc21 pm21 an21 cd21 ct21), sl21⟩) (c21 : PySem.W.codeIn K cd21 "mirror" = true) (k21 : PySem.W.keepIn K (.ref f21) = true)
    {f22 : Addr} {oc22 kV22 dc22 pm22 cd22 ct22 : Value} {od22 an22 : Option Addr} {sl22 : Array (Option Value)}
    (a22 : PySem.W.nsIn K mainGlobals "others" = some (some (.ref f22)))
    (l22 : K.lookup f22 = some ⟨oc22, od22, .func (PySem.W.fnOf "others" "others" (defArgs s_others) (defBody s_others) (defScope s_others) .none kV22 dc22 pm22 an22 cd22 ct22), sl22⟩) (c22 : PySem.W.codeIn K cd22 "others" = true) (k22 : PySem.W.keepIn K (.ref f22) = true)
    {f23 : Addr} {oc23 kV23 dc23 pm23 cd23 ct23 : Value} {od23 an23 : Option Addr} {sl23 : Array (Option Value)}
    (a23 : PySem.W.nsIn K mainGlobals "divisor_of" = some (some (.ref f23)))
    (l23 : K.lookup f23 = some ⟨oc23, od23, .func (PySem.W.fnOf "divisor_of" "divisor_of" (defArgs s_divisor_of) (defBody s_divisor_of) (defScope s_divisor_of) .none kV23 dc23 pm23 an23 cd23 ct23), sl23⟩) (c23 : PySem.W.codeIn K cd23 "divisor_of" = true) (k23 : PySem.W.keepIn K (.ref f23) = true)
    {f24 : Addr} {oc24 kV24 dc24 pm24 cd24 ct24 : Value} {od24 an24 : Option Addr} {sl24 : Array (Option Value)}
    (a24 : PySem.W.nsIn K mainGlobals "plain" = some (some (.ref f24)))
    (l24 : K.lookup f24 = some ⟨oc24, od24, .func (PySem.W.fnOf "plain" "plain" (defArgs s_plain) (defBody s_plain) (defScope s_plain) .none kV24 dc24 pm24 an24 cd24 ct24), sl24⟩) (c24 : PySem.W.codeIn K cd24 "plain" = true) (k24 : PySem.W.keepIn K (.ref f24) = true)
    {f25 : Addr} {oc25 kV25 dc25 pm25 cd25 ct25 : Value} {od25 an25 : Option Addr} {sl25 : Array (Option Value)}
    (a25 : PySem.W.nsIn K mainGlobals "turn_by" = some (some (.ref f25)))
    (l25 : K.lookup f25 = some ⟨oc25, od25, .func (PySem.W.fnOf "turn_by" "turn_by" (defArgs s_turn_by) (defBody s_turn_by) (defScope s_turn_by) .none kV25 dc25 pm25 an25 cd25 ct25), sl25⟩) (c25 : PySem.W.codeIn K cd25 "turn_by" = true) (k25 : PySem.W.keepIn K (.ref f25) = true)
    {f26 : Addr} {oc26 kV26 dc26 pm26 cd26 ct26 : Value} {od26 an26 : Option Addr} {sl26 : Array (Option Value)}
    (a26 : PySem.W.nsIn K mainGlobals "turn_place" = some (some (.ref f26)))
    (l26 : K.lookup f26 = some ⟨oc26, od26, .func (PySem.W.fnOf "turn_place" "turn_place" (defArgs s_turn_place) (defBody s_turn_place) (defScope s_turn_place) .none kV26 dc26 pm26 an26 cd26 ct26), sl26⟩) (c26 : PySem.W.codeIn K cd26 "turn_place" = true) (k26 : PySem.W.keepIn K (.ref f26) = true)
    {f27 : Addr} {oc27 kV27 dc27 pm27 cd27 ct27 : Value} {od27 an27 : Option Addr} {sl27 : Array (Option Value)}
    (a27 : PySem.W.nsIn K mainGlobals "plus" = some (some (.ref f27)))
    (l27 : K.lookup f27 = some ⟨oc27, od27, .func (PySem.W.fnOf "plus" "plus" (defArgs s_plus) (defBody s_plus) (defScope s_plus) .none kV27 dc27 pm27 an27 cd27 ct27), sl27⟩) (c27 : PySem.W.codeIn K cd27 "plus" = true) (k27 : PySem.W.keepIn K (.ref f27) = true)
    {f28 : Addr} {oc28 kV28 dc28 pm28 cd28 ct28 : Value} {od28 an28 : Option Addr} {sl28 : Array (Option Value)}
    (a28 : PySem.W.nsIn K mainGlobals "minus" = some (some (.ref f28)))
    (l28 : K.lookup f28 = some ⟨oc28, od28, .func (PySem.W.fnOf "minus" "minus" (defArgs s_minus) (defBody s_minus) (defScope s_minus) .none kV28 dc28 pm28 an28 cd28 ct28), sl28⟩) (c28 : PySem.W.codeIn K cd28 "minus" = true) (k28 : PySem.W.keepIn K (.ref f28) = true)
    {f29 : Addr} {oc29 kV29 dc29 pm29 cd29 ct29 : Value} {od29 an29 : Option Addr} {sl29 : Array (Option Value)}
    (a29 : PySem.W.nsIn K mainGlobals "mix" = some (some (.ref f29)))
    (l29 : K.lookup f29 = some ⟨oc29, od29, .func (PySem.W.fnOf "mix" "mix" (defArgs s_mix) (defBody s_mix) (defScope s_mix) .none kV29 dc29 pm29 an29 cd29 ct29), sl29⟩) (c29 : PySem.W.codeIn K cd29 "mix" = true) (k29 : PySem.W.keepIn K (.ref f29) = true)
    {f30 : Addr} {oc30 kV30 dc30 pm30 cd30 ct30 : Value} {od30 an30 : Option Addr} {sl30 : Array (Option Value)}
    (a30 : PySem.W.nsIn K mainGlobals "tie" = some (some (.ref f30)))
    (l30 : K.lookup f30 = some ⟨oc30, od30, .func (PySem.W.fnOf "tie" "tie" (defArgs s_tie) (defBody s_tie) (defScope s_tie) .none kV30 dc30 pm30 an30 cd30 ct30), sl30⟩) (c30 : PySem.W.codeIn K cd30 "tie" = true) (k30 : PySem.W.keepIn K (.ref f30) = true)
    {f31 : Addr} {oc31 kV31 dc31 pm31 cd31 ct31 : Value} {od31 an31 : Option Addr} {sl31 : Array (Option Value)}
    (a31 : PySem.W.nsIn K mainGlobals "exchange" = some (some (.ref f31)))
    (l31 : K.lookup f31 = some ⟨oc31, od31, .func (PySem.W.fnOf "exchange" "exchange" (defArgs s_exchange) (defBody s_exchange) (defScope s_exchange) .none kV31 dc31 pm31 an31 cd31 ct31), sl31⟩) (c31 : PySem.W.codeIn K cd31 "exchange" = true) (k31 : PySem.W.keepIn K (.ref f31) = true)
    {f32 : Addr} {oc32 kV32 dc32 pm32 cd32 ct32 : Value} {od32 an32 : Option Addr} {sl32 : Array (Option Value)}
    (a32 : PySem.W.nsIn K mainGlobals "lay" = some (some (.ref f32)))
    (l32 : K.lookup f32 = some ⟨oc32, od32, .func (PySem.W.fnOf "lay" "lay" (defArgs s_lay) (defBody s_lay) (defScope s_lay) .none kV32 dc32 pm32 an32 cd32 ct32), sl32⟩) (c32 : PySem.W.codeIn K cd32 "lay" = true) (k32 : PySem.W.keepIn K (.ref f32) = true)
    {f33 : Addr} {oc33 kV33 dc33 pm33 cd33 ct33 : Value} {od33 an33 : Option Addr} {sl33 : Array (Option Value)}
    (a33 : PySem.W.nsIn K mainGlobals "width" = some (some (.ref f33)))
    (l33 : K.lookup f33 = some ⟨oc33, od33, .func (PySem.W.fnOf "width" "width" (defArgs s_width) (defBody s_width) (defScope s_width) .none kV33 dc33 pm33 an33 cd33 ct33), sl33⟩) (c33 : PySem.W.codeIn K cd33 "width" = true) (k33 : PySem.W.keepIn K (.ref f33) = true)
    {f34 : Addr} {oc34 kV34 dc34 pm34 cd34 ct34 : Value} {od34 an34 : Option Addr} {sl34 : Array (Option Value)}
    (a34 : PySem.W.nsIn K mainGlobals "swapped" = some (some (.ref f34)))
    (l34 : K.lookup f34 = some ⟨oc34, od34, .func (PySem.W.fnOf "swapped" "swapped" (defArgs s_swapped) (defBody s_swapped) (defScope s_swapped) .none kV34 dc34 pm34 an34 cd34 ct34), sl34⟩) (c34 : PySem.W.codeIn K cd34 "swapped" = true) (k34 : PySem.W.keepIn K (.ref f34) = true)
    {f35 : Addr} {oc35 kV35 dc35 pm35 cd35 ct35 : Value} {od35 an35 : Option Addr} {sl35 : Array (Option Value)}
    (a35 : PySem.W.nsIn K mainGlobals "exchange_where" = some (some (.ref f35)))
    (l35 : K.lookup f35 = some ⟨oc35, od35, .func (PySem.W.fnOf "exchange_where" "exchange_where" (defArgs s_exchange_where) (defBody s_exchange_where) (defScope s_exchange_where) .none kV35 dc35 pm35 an35 cd35 ct35), sl35⟩) (c35 : PySem.W.codeIn K cd35 "exchange_where" = true) (k35 : PySem.W.keepIn K (.ref f35) = true)
    {f36 : Addr} {oc36 kV36 dc36 pm36 cd36 ct36 : Value} {od36 an36 : Option Addr} {sl36 : Array (Option Value)}
    (a36 : PySem.W.nsIn K mainGlobals "deed_done" = some (some (.ref f36)))
    (l36 : K.lookup f36 = some ⟨oc36, od36, .func (PySem.W.fnOf "deed_done" "deed_done" (defArgs s_deed_done) (defBody s_deed_done) (defScope s_deed_done) .none kV36 dc36 pm36 an36 cd36 ct36), sl36⟩) (c36 : PySem.W.codeIn K cd36 "deed_done" = true) (k36 : PySem.W.keepIn K (.ref f36) = true)
    {f37 : Addr} {oc37 kV37 dc37 pm37 cd37 ct37 : Value} {od37 an37 : Option Addr} {sl37 : Array (Option Value)}
    (a37 : PySem.W.nsIn K mainGlobals "meant_by" = some (some (.ref f37)))
    (l37 : K.lookup f37 = some ⟨oc37, od37, .func (PySem.W.fnOf "meant_by" "meant_by" (defArgs s_meant_by) (defBody s_meant_by) (defScope s_meant_by) .none kV37 dc37 pm37 an37 cd37 ct37), sl37⟩) (c37 : PySem.W.codeIn K cd37 "meant_by" = true) (k37 : PySem.W.keepIn K (.ref f37) = true)
    {f38 : Addr} {oc38 kV38 dc38 pm38 cd38 ct38 : Value} {od38 an38 : Option Addr} {sl38 : Array (Option Value)}
    (a38 : PySem.W.nsIn K mainGlobals "need_program" = some (some (.ref f38)))
    (l38 : K.lookup f38 = some ⟨oc38, od38, .func (PySem.W.fnOf "need_program" "need_program" (defArgs s_need_program) (defBody s_need_program) (defScope s_need_program) .none kV38 dc38 pm38 an38 cd38 ct38), sl38⟩) (c38 : PySem.W.codeIn K cd38 "need_program" = true) (k38 : PySem.W.keepIn K (.ref f38) = true)
    {f39 : Addr} {oc39 kV39 dc39 pm39 cd39 ct39 : Value} {od39 an39 : Option Addr} {sl39 : Array (Option Value)}
    (a39 : PySem.W.nsIn K mainGlobals "is_amount" = some (some (.ref f39)))
    (l39 : K.lookup f39 = some ⟨oc39, od39, .func (PySem.W.fnOf "is_amount" "is_amount" (defArgs s_is_amount) (defBody s_is_amount) (defScope s_is_amount) .none kV39 dc39 pm39 an39 cd39 ct39), sl39⟩) (c39 : PySem.W.codeIn K cd39 "is_amount" = true) (k39 : PySem.W.keepIn K (.ref f39) = true)
    {f40 : Addr} {oc40 kV40 dc40 pm40 cd40 ct40 : Value} {od40 an40 : Option Addr} {sl40 : Array (Option Value)}
    (a40 : PySem.W.nsIn K mainGlobals "is_spread" = some (some (.ref f40)))
    (l40 : K.lookup f40 = some ⟨oc40, od40, .func (PySem.W.fnOf "is_spread" "is_spread" (defArgs s_is_spread) (defBody s_is_spread) (defScope s_is_spread) .none kV40 dc40 pm40 an40 cd40 ct40), sl40⟩) (c40 : PySem.W.codeIn K cd40 "is_spread" = true) (k40 : PySem.W.keepIn K (.ref f40) = true)
    {f41 : Addr} {oc41 kV41 dc41 pm41 cd41 ct41 : Value} {od41 an41 : Option Addr} {sl41 : Array (Option Value)}
    (a41 : PySem.W.nsIn K mainGlobals "need_spread" = some (some (.ref f41)))
    (l41 : K.lookup f41 = some ⟨oc41, od41, .func (PySem.W.fnOf "need_spread" "need_spread" (defArgs s_need_spread) (defBody s_need_spread) (defScope s_need_spread) .none kV41 dc41 pm41 an41 cd41 ct41), sl41⟩) (c41 : PySem.W.codeIn K cd41 "need_spread" = true) (k41 : PySem.W.keepIn K (.ref f41) = true)
    {f42 : Addr} {oc42 kV42 dc42 pm42 cd42 ct42 : Value} {od42 an42 : Option Addr} {sl42 : Array (Option Value)}
    (a42 : PySem.W.nsIn K mainGlobals "need_wires" = some (some (.ref f42)))
    (l42 : K.lookup f42 = some ⟨oc42, od42, .func (PySem.W.fnOf "need_wires" "need_wires" (defArgs s_need_wires) (defBody s_need_wires) (defScope s_need_wires) .none kV42 dc42 pm42 an42 cd42 ct42), sl42⟩) (c42 : PySem.W.codeIn K cd42 "need_wires" = true) (k42 : PySem.W.keepIn K (.ref f42) = true)
    {f43 : Addr} {oc43 kV43 dc43 pm43 cd43 ct43 : Value} {od43 an43 : Option Addr} {sl43 : Array (Option Value)}
    (a43 : PySem.W.nsIn K mainGlobals "meaning" = some (some (.ref f43)))
    (l43 : K.lookup f43 = some ⟨oc43, od43, .func (PySem.W.fnOf "meaning" "meaning" (defArgs s_meaning) (defBody s_meaning) (defScope s_meaning) .none kV43 dc43 pm43 an43 cd43 ct43), sl43⟩) (c43 : PySem.W.codeIn K cd43 "meaning" = true) (k43 : PySem.W.keepIn K (.ref f43) = true)
    {f44 : Addr} {oc44 kV44 dc44 pm44 cd44 ct44 : Value} {od44 an44 : Option Addr} {sl44 : Array (Option Value)}
    (a44 : PySem.W.nsIn K mainGlobals "need_few" = some (some (.ref f44)))
    (l44 : K.lookup f44 = some ⟨oc44, od44, .func (PySem.W.fnOf "need_few" "need_few" (defArgs s_need_few) (defBody s_need_few) (defScope s_need_few) .none kV44 dc44 pm44 an44 cd44 ct44), sl44⟩) (c44 : PySem.W.codeIn K cd44 "need_few" = true) (k44 : PySem.W.keepIn K (.ref f44) = true)
    {f45 : Addr} {oc45 kV45 dc45 pm45 cd45 ct45 : Value} {od45 an45 : Option Addr} {sl45 : Array (Option Value)}
    (a45 : PySem.W.nsIn K mainGlobals "joined" = some (some (.ref f45)))
    (l45 : K.lookup f45 = some ⟨oc45, od45, .func (PySem.W.fnOf "joined" "joined" (defArgs s_joined) (defBody s_joined) (defScope s_joined) .none kV45 dc45 pm45 an45 cd45 ct45), sl45⟩) (c45 : PySem.W.codeIn K cd45 "joined" = true) (k45 : PySem.W.keepIn K (.ref f45) = true)
    {f46 : Addr} {oc46 kV46 dc46 pm46 cd46 ct46 : Value} {od46 an46 : Option Addr} {sl46 : Array (Option Value)}
    (a46 : PySem.W.nsIn K mainGlobals "turned_about" = some (some (.ref f46)))
    (l46 : K.lookup f46 = some ⟨oc46, od46, .func (PySem.W.fnOf "turned_about" "turned_about" (defArgs s_turned_about) (defBody s_turned_about) (defScope s_turned_about) .none kV46 dc46 pm46 an46 cd46 ct46), sl46⟩) (c46 : PySem.W.codeIn K cd46 "turned_about" = true) (k46 : PySem.W.keepIn K (.ref f46) = true)
    {f47 : Addr} {oc47 kV47 dc47 pm47 cd47 ct47 : Value} {od47 an47 : Option Addr} {sl47 : Array (Option Value)}
    (a47 : PySem.W.nsIn K mainGlobals "undone" = some (some (.ref f47)))
    (l47 : K.lookup f47 = some ⟨oc47, od47, .func (PySem.W.fnOf "undone" "undone" (defArgs s_undone) (defBody s_undone) (defScope s_undone) .none kV47 dc47 pm47 an47 cd47 ct47), sl47⟩) (c47 : PySem.W.codeIn K cd47 "undone" = true) (k47 : PySem.W.keepIn K (.ref f47) = true)
    {f48 : Addr} {oc48 kV48 dc48 pm48 cd48 ct48 : Value} {od48 an48 : Option Addr} {sl48 : Array (Option Value)}
    (a48 : PySem.W.nsIn K mainGlobals "_law_undone_right" = some (some (.ref f48)))
    (l48 : K.lookup f48 = some ⟨oc48, od48, .func (PySem.W.fnOf "_law_undone_right" "_law_undone_right" (defArgs s__law_undone_right) (defBody s__law_undone_right) (defScope s__law_undone_right) .none kV48 dc48 pm48 an48 cd48 ct48), sl48⟩) (c48 : PySem.W.codeIn K cd48 "_law_undone_right" = true) (k48 : PySem.W.keepIn K (.ref f48) = true)
    {f49 : Addr} {oc49 kV49 dc49 pm49 cd49 ct49 : Value} {od49 an49 : Option Addr} {sl49 : Array (Option Value)}
    (a49 : PySem.W.nsIn K mainGlobals "moved_on" = some (some (.ref f49)))
    (l49 : K.lookup f49 = some ⟨oc49, od49, .func (PySem.W.fnOf "moved_on" "moved_on" (defArgs s_moved_on) (defBody s_moved_on) (defScope s_moved_on) .none kV49 dc49 pm49 an49 cd49 ct49), sl49⟩) (c49 : PySem.W.codeIn K cd49 "moved_on" = true) (k49 : PySem.W.keepIn K (.ref f49) = true)
    {f50 : Addr} {oc50 kV50 dc50 pm50 cd50 ct50 : Value} {od50 an50 : Option Addr} {sl50 : Array (Option Value)}
    (a50 : PySem.W.nsIn K mainGlobals "aside" = some (some (.ref f50)))
    (l50 : K.lookup f50 = some ⟨oc50, od50, .func (PySem.W.fnOf "aside" "aside" (defArgs s_aside) (defBody s_aside) (defScope s_aside) .none kV50 dc50 pm50 an50 cd50 ct50), sl50⟩) (c50 : PySem.W.codeIn K cd50 "aside" = true) (k50 : PySem.W.keepIn K (.ref f50) = true)
    {f51 : Addr} {oc51 kV51 dc51 pm51 cd51 ct51 : Value} {od51 an51 : Option Addr} {sl51 : Array (Option Value)}
    (a51 : PySem.W.nsIn K mainGlobals "law" = some (some (.ref f51)))
    (l51 : K.lookup f51 = some ⟨oc51, od51, .func (PySem.W.fnOf "law" "law" (defArgs s_law) (defBody s_law) (defScope s_law) .none kV51 dc51 pm51 an51 cd51 ct51), sl51⟩) (c51 : PySem.W.codeIn K cd51 "law" = true) (k51 : PySem.W.keepIn K (.ref f51) = true)
    {kd_WIRES_IN : Addr} {ke_WIRES_IN : Array DictEntry} {kn_WIRES_IN : Nat} (q_WIRES_IN : PySem.W.nsIn K mainGlobals "WIRES_IN" = some (some (.ref kd_WIRES_IN))) (ql_WIRES_IN : K.lookup kd_WIRES_IN = some ⟨.type "dict", none, .dict ke_WIRES_IN kn_WIRES_IN, #[]⟩) (qk_WIRES_IN : PySem.W.KeysLit w.params ke_WIRES_IN.toList) (qs_WIRES_IN : (kd_WIRES_IN == sysModules) = false) (qd_WIRES_IN : DLit ke_WIRES_IN.toList [("turn", 1), ("mix", 1), ("sign", 2), ("not", 1), ("under", 2), ("swap", 2), ("both", 3)])
    (z_abs : PySem.W.nsIn K mainGlobals "abs" = some none)
    (z_all : PySem.W.nsIn K mainGlobals "all" = some none)
    (z_any : PySem.W.nsIn K mainGlobals "any" = some none)
    (z_bool : PySem.W.nsIn K mainGlobals "bool" = some none)
    (z_enumerate : PySem.W.nsIn K mainGlobals "enumerate" = some none)
    (z_int : PySem.W.nsIn K mainGlobals "int" = some none)
    (z_isinstance : PySem.W.nsIn K mainGlobals "isinstance" = some none)
    (z_len : PySem.W.nsIn K mainGlobals "len" = some none)
    (z_list : PySem.W.nsIn K mainGlobals "list" = some none)
    (z_range : PySem.W.nsIn K mainGlobals "range" = some none)
    (z_repr : PySem.W.nsIn K mainGlobals "repr" = some none)
    (z_set : PySem.W.nsIn K mainGlobals "set" = some none)
    (z_str : PySem.W.nsIn K mainGlobals "str" = some none)
    (z_sum : PySem.W.nsIn K mainGlobals "sum" = some none)
    (z_tuple : PySem.W.nsIn K mainGlobals "tuple" = some none)
    {tok_MOST_DEEDS : Tok} (q_MOST_DEEDS : PySem.W.nsIn K mainGlobals "MOST_DEEDS" = some (some (.int 200 tok_MOST_DEEDS)))
    {tok_MOST_PLACES : Tok} (q_MOST_PLACES : PySem.W.nsIn K mainGlobals "MOST_PLACES" = some (some (.int 12 tok_MOST_PLACES)))
    {tok_MOST_WIRES : Tok} (q_MOST_WIRES : PySem.W.nsIn K mainGlobals "MOST_WIRES" = some (some (.int 8 tok_MOST_WIRES)))
    {kt_NOTHING_0 kt_NOTHING_1 kt_NOTHING_2 kt_NOTHING_3 : Tok} {ka_NOTHING : Addr} {kd_NOTHING : Option Addr} {kn_NOTHING : Nat} {ks_NOTHING : Array (Option Value)} (q_NOTHING : PySem.W.nsIn K mainGlobals "NOTHING" = some (some (.ref ka_NOTHING))) (ql_NOTHING : K.lookup ka_NOTHING = some ⟨.type "tuple", kd_NOTHING, .seq #[.int 0 kt_NOTHING_0, .int 0 kt_NOTHING_1, .int 0 kt_NOTHING_2, .int 0 kt_NOTHING_3] kn_NOTHING, ks_NOTHING⟩)
    : ∃ fd : FuncData, (∀ (s : Shared) (v : Value), BindsTo s fd ⟨[v], []⟩ [("_law_script", v)]) ∧ ∀ base : Heap, K.In base → base.Ns mainGlobals mg → FnG q.prog w K mg base CX0 8 fa fd ["_law_script"] (dSp K (spLaw 63)) := by
  have e := hfa.symm.trans (PySem.W.mg_of X G a51)
  cases e
  have F0 := fun_mk (st := s__law_cooper) l0 c0 k0
  have B0 := F0.binds (ps := ["_law_script"]) fun _ _ _ _ _ _ us hl => match us, hl with | [_], _ => rfl
  have F1 := fun_mk (st := s_is_integer) l1 c1 k1
  have B1 := F1.binds (ps := ["value"]) fun _ _ _ _ _ _ us hl => match us, hl with | [_], _ => rfl
  have F2 := fun_mk (st := s_is_within) l2 c2 k2
  have B2 := F2.binds (ps := ["value", "least", "most"]) fun _ _ _ _ _ _ us hl => match us, hl with | [_, _, _], _ => rfl
  have F3 := fun_mk (st := s_is_deed) l3 c3 k3
  have B3 := F3.binds (ps := ["value", "wires"]) fun _ _ _ _ _ _ us hl => match us, hl with | [_, _], _ => rfl
  have F4 := fun_mk (st := s_Program___init__) l4 c4 k4
  have B4 := F4.binds (ps := ["self", "wires", "deeds"]) fun _ _ _ _ _ _ us hl => match us, hl with | [_, _, _], _ => rfl
  have F5 := fun_mk (st := s__law_plus) l5 c5 k5
  have B5 := F5.binds (ps := ["_law_one_here", "_law_other"]) fun _ _ _ _ _ _ us hl => match us, hl with | [_, _], _ => rfl
  have F6 := fun_mk (st := s__law_spun) l6 c6 k6
  have B6 := F6.binds (ps := ["_law_amount", "_law_turn"]) fun _ _ _ _ _ _ us hl => match us, hl with | [_, _], _ => rfl
  have F7 := fun_mk (st := s__law_times) l7 c7 k7
  have B7 := F7.binds (ps := ["_law_one_here", "_law_other"]) fun _ _ _ _ _ _ us hl => match us, hl with | [_, _], _ => rfl
  have F8 := fun_mk (st := s__law_plain) l8 c8 k8
  have B8 := F8.binds (ps := ["_law_spread_here"]) fun _ _ _ _ _ _ us hl => match us, hl with | [_], _ => rfl
  have F9 := fun_mk (st := s__law_hoop) l9 c9 k9
  have B9 := F9.binds (ps := ["_law_cooper_here", "_law_many"]) fun _ _ _ _ _ _ us hl => match us, hl with | [_, _], _ => rfl
  have F10 := fun_mk (st := s__law_one) l10 c10 k10
  have B10 := F10.binds (ps := ["_law_cooper_here", "_law_some"]) fun _ _ _ _ _ _ us hl => match us, hl with | [_, _], _ => rfl
  have F11 := fun_mk (st := s__law_deed) l11 c11 k11
  have B11 := F11.binds (ps := ["_law_cooper_here", "_law_wires"]) fun _ _ _ _ _ _ us hl => match us, hl with | [_, _], _ => rfl
  have F12 := fun_mk (st := s__law_spread) l12 c12 k12
  have B12 := F12.binds (ps := ["_law_cooper_here", "_law_places"]) fun _ _ _ _ _ _ us hl => match us, hl with | [_, _], _ => rfl
  have F13 := fun_mk (st := s__law_has) l13 c13 k13
  have B13 := F13.binds (ps := ["_law_at", "_law_wire"]) fun _ _ _ _ _ _ us hl => match us, hl with | [_, _], _ => rfl
  have F14 := fun_mk (st := s__law_minus) l14 c14 k14
  have B14 := F14.binds (ps := ["_law_amount"]) fun _ _ _ _ _ _ us hl => match us, hl with | [_], _ => rfl
  have F15 := fun_mk (st := s__law_from) l15 c15 k15
  have B15 := F15.binds (ps := ["_law_at", "_law_deed_here"]) fun _ _ _ _ _ _ us hl => match us, hl with | [_, _], _ => rfl
  have F16 := fun_mk (st := s__law_done) l16 c16 k16
  have B16 := F16.binds (ps := ["_law_spread_here", "_law_deed_here"]) fun _ _ _ _ _ _ us hl => match us, hl with | [_, _], _ => rfl
  have F17 := fun_mk (st := s__law_behind) l17 c17 k17
  have B17 := F17.binds (ps := ["_law_spread_here", "_law_deeds"]) fun _ _ _ _ _ _ us hl => match us, hl with | [_, _], _ => rfl
  have F18 := fun_mk (st := s__law_both_of) l18 c18 k18
  have B18 := F18.binds (ps := ["_law_one_here", "_law_other"]) fun _ _ _ _ _ _ us hl => match us, hl with | [_, _], _ => rfl
  have F19 := fun_mk (st := s__law_length) l19 c19 k19
  have B19 := F19.binds (ps := ["_law_spread_here"]) fun _ _ _ _ _ _ us hl => match us, hl with | [_], _ => rfl
  have F20 := fun_mk (st := s_times) l20 c20 k20
  have B20 := F20.binds (ps := ["one", "other"]) fun _ _ _ _ _ _ us hl => match us, hl with | [_, _], _ => rfl
  have F21 := fun_mk (st := s_mirror) l21 c21 k21
  have B21 := F21.binds (ps := ["amount"]) fun _ _ _ _ _ _ us hl => match us, hl with | [_], _ => rfl
  have F22 := fun_mk (st := s_others) l22 c22 k22
  have B22 := F22.binds (ps := ["amount"]) fun _ _ _ _ _ _ us hl => match us, hl with | [_], _ => rfl
  have F23 := fun_mk (st := s_divisor_of) l23 c23 k23
  have B23 := F23.binds (ps := ["amounts"]) fun _ _ _ _ _ _ us hl => match us, hl with | [_], _ => rfl
  have F24 := fun_mk (st := s_plain) l24 c24 k24
  have B24 := F24.binds (ps := ["spread"]) fun _ _ _ _ _ _ us hl => match us, hl with | [_], _ => rfl
  have F25 := fun_mk (st := s_turn_by) l25 c25 k25
  have B25 := F25.binds (ps := ["amount", "turn"]) fun _ _ _ _ _ _ us hl => match us, hl with | [_, _], _ => rfl
  have F26 := fun_mk (st := s_turn_place) l26 c26 k26
  have B26 := F26.binds (ps := ["spread", "place", "turn"]) fun _ _ _ _ _ _ us hl => match us, hl with | [_, _, _], _ => rfl
  have F27 := fun_mk (st := s_plus) l27 c27 k27
  have B27 := F27.binds (ps := ["one", "other"]) fun _ _ _ _ _ _ us hl => match us, hl with | [_, _], _ => rfl
  have F28 := fun_mk (st := s_minus) l28 c28 k28
  have B28 := F28.binds (ps := ["amount"]) fun _ _ _ _ _ _ us hl => match us, hl with | [_], _ => rfl
  have F29 := fun_mk (st := s_mix) l29 c29 k29
  have B29 := F29.binds (ps := ["spread", "place"]) fun _ _ _ _ _ _ us hl => match us, hl with | [_, _], _ => rfl
  have F30 := fun_mk (st := s_tie) l30 c30 k30
  have B30 := F30.binds (ps := ["spread", "one", "other"]) fun _ _ _ _ _ _ us hl => match us, hl with | [_, _, _], _ => rfl
  have F31 := fun_mk (st := s_exchange) l31 c31 k31
  have B31 := F31.binds (ps := ["spread", "place"]) fun _ _ _ _ _ _ us hl => match us, hl with | [_, _], _ => rfl
  have F32 := fun_mk (st := s_lay) l32 c32 k32
  have B32 := F32.binds (ps := ["spread", "order"]) fun _ _ _ _ _ _ us hl => match us, hl with | [_, _], _ => rfl
  have F33 := fun_mk (st := s_width) l33 c33 k33
  have B33 := F33.binds (ps := ["spread"]) fun _ _ _ _ _ _ us hl => match us, hl with | [_], _ => rfl
  have F34 := fun_mk (st := s_swapped) l34 c34 k34
  have B34 := F34.binds (ps := ["spread", "one", "other"]) fun _ _ _ _ _ _ us hl => match us, hl with | [_, _, _], _ => rfl
  have F35 := fun_mk (st := s_exchange_where) l35 c35 k35
  have B35 := F35.binds (ps := ["spread", "places", "place"]) fun _ _ _ _ _ _ us hl => match us, hl with | [_, _, _], _ => rfl
  have F36 := fun_mk (st := s_deed_done) l36 c36 k36
  have B36 := F36.binds (ps := ["spread", "deed"]) fun _ _ _ _ _ _ us hl => match us, hl with | [_, _], _ => rfl
  have F37 := fun_mk (st := s_meant_by) l37 c37 k37
  have B37 := F37.binds (ps := ["program", "spread"]) fun _ _ _ _ _ _ us hl => match us, hl with | [_, _], _ => rfl
  have F38 := fun_mk (st := s_need_program) l38 c38 k38
  have B38 := F38.binds (ps := ["value", "part"]) fun _ _ _ _ _ _ us hl => match us, hl with | [_, _], _ => rfl
  have F39 := fun_mk (st := s_is_amount) l39 c39 k39
  have B39 := F39.binds (ps := ["value"]) fun _ _ _ _ _ _ us hl => match us, hl with | [_], _ => rfl
  have F40 := fun_mk (st := s_is_spread) l40 c40 k40
  have B40 := F40.binds (ps := ["value"]) fun _ _ _ _ _ _ us hl => match us, hl with | [_], _ => rfl
  have F41 := fun_mk (st := s_need_spread) l41 c41 k41
  have B41 := F41.binds (ps := ["value", "part"]) fun _ _ _ _ _ _ us hl => match us, hl with | [_, _], _ => rfl
  have F42 := fun_mk (st := s_need_wires) l42 c42 k42
  have B42 := F42.binds (ps := ["program", "spread"]) fun _ _ _ _ _ _ us hl => match us, hl with | [_, _], _ => rfl
  have F43 := fun_mk (st := s_meaning) l43 c43 k43
  have B43 := F43.binds (ps := ["program", "spread"]) fun _ _ _ _ _ _ us hl => match us, hl with | [_, _], _ => rfl
  have F44 := fun_mk (st := s_need_few) l44 c44 k44
  have B44 := F44.binds (ps := ["deeds"]) fun _ _ _ _ _ _ us hl => match us, hl with | [_], _ => rfl
  have F45 := fun_mk (st := s_joined) l45 c45 k45
  have B45 := F45.binds (ps := ["one", "other"]) fun _ _ _ _ _ _ us hl => match us, hl with | [_, _], _ => rfl
  have F46 := fun_mk (st := s_turned_about) l46 c46 k46
  have B46 := F46.binds (ps := ["deed"]) fun _ _ _ _ _ _ us hl => match us, hl with | [_], _ => rfl
  have F47 := fun_mk (st := s_undone) l47 c47 k47
  have B47 := F47.binds (ps := ["program"]) fun _ _ _ _ _ _ us hl => match us, hl with | [_], _ => rfl
  have F48 := fun_mk (st := s__law_undone_right) l48 c48 k48
  have B48 := F48.binds (ps := ["_law_wires", "_law_deeds", "_law_spread_here"]) fun _ _ _ _ _ _ us hl => match us, hl with | [_, _, _], _ => rfl
  have F49 := fun_mk (st := s_moved_on) l49 c49 k49
  have B49 := F49.binds (ps := ["deed", "many"]) fun _ _ _ _ _ _ us hl => match us, hl with | [_, _], _ => rfl
  have F50 := fun_mk (st := s_aside) l50 c50 k50
  have B50 := F50.binds (ps := ["one", "other"]) fun _ _ _ _ _ _ us hl => match us, hl with | [_, _], _ => rfl
  have F51 := fun_mk (st := s_law) l51 c51 k51
  have B51 := F51.binds (ps := ["_law_script"]) fun _ _ _ _ _ _ us hl => match us, hl with | [_], _ => rfl
  let T : Txt w K mg := { f__law_cooper := f0, d__law_cooper := _, F__law_cooper := F0, b__law_cooper := B0, m__law_cooper := PySem.W.mg_of X G a0, f_is_integer := f1, d_is_integer := _, F_is_integer := F1, b_is_integer := B1, m_is_integer := PySem.W.mg_of X G a1, f_is_within := f2, d_is_within := _, F_is_within := F2, b_is_within := B2, m_is_within := PySem.W.mg_of X G a2, f_is_deed := f3, d_is_deed := _, F_is_deed := F3, b_is_deed := B3, m_is_deed := PySem.W.mg_of X G a3, f_Program___init__ := f4, d_Program___init__ := _, F_Program___init__ := F4, b_Program___init__ := B4, f__law_plus := f5, d__law_plus := _, F__law_plus := F5, b__law_plus := B5, m__law_plus := PySem.W.mg_of X G a5, f__law_spun := f6, d__law_spun := _, F__law_spun := F6, b__law_spun := B6, m__law_spun := PySem.W.mg_of X G a6, f__law_times := f7, d__law_times := _, F__law_times := F7, b__law_times := B7, m__law_times := PySem.W.mg_of X G a7, f__law_plain := f8, d__law_plain := _, F__law_plain := F8, b__law_plain := B8, m__law_plain := PySem.W.mg_of X G a8, f__law_hoop := f9, d__law_hoop := _, F__law_hoop := F9, b__law_hoop := B9, m__law_hoop := PySem.W.mg_of X G a9, f__law_one := f10, d__law_one := _, F__law_one := F10, b__law_one := B10, m__law_one := PySem.W.mg_of X G a10, f__law_deed := f11, d__law_deed := _, F__law_deed := F11, b__law_deed := B11, m__law_deed := PySem.W.mg_of X G a11, f__law_spread := f12, d__law_spread := _, F__law_spread := F12, b__law_spread := B12, m__law_spread := PySem.W.mg_of X G a12, f__law_has := f13, d__law_has := _, F__law_has := F13, b__law_has := B13, m__law_has := PySem.W.mg_of X G a13, f__law_minus := f14, d__law_minus := _, F__law_minus := F14, b__law_minus := B14, m__law_minus := PySem.W.mg_of X G a14, f__law_from := f15, d__law_from := _, F__law_from := F15, b__law_from := B15, m__law_from := PySem.W.mg_of X G a15, f__law_done := f16, d__law_done := _, F__law_done := F16, b__law_done := B16, m__law_done := PySem.W.mg_of X G a16, f__law_behind := f17, d__law_behind := _, F__law_behind := F17, b__law_behind := B17, m__law_behind := PySem.W.mg_of X G a17, f__law_both_of := f18, d__law_both_of := _, F__law_both_of := F18, b__law_both_of := B18, m__law_both_of := PySem.W.mg_of X G a18, f__law_length := f19, d__law_length := _, F__law_length := F19, b__law_length := B19, m__law_length := PySem.W.mg_of X G a19, f_times := f20, d_times := _, F_times := F20, b_times := B20, m_times := PySem.W.mg_of X G a20, f_mirror := f21, d_mirror := _, F_mirror := F21, b_mirror := B21, m_mirror := PySem.W.mg_of X G a21, f_others := f22, d_others := _, F_others := F22, b_others := B22, m_others := PySem.W.mg_of X G a22, f_divisor_of := f23, d_divisor_of := _, F_divisor_of := F23, b_divisor_of := B23, m_divisor_of := PySem.W.mg_of X G a23, f_plain := f24, d_plain := _, F_plain := F24, b_plain := B24, m_plain := PySem.W.mg_of X G a24, f_turn_by := f25, d_turn_by := _, F_turn_by := F25, b_turn_by := B25, m_turn_by := PySem.W.mg_of X G a25, f_turn_place := f26, d_turn_place := _, F_turn_place := F26, b_turn_place := B26, m_turn_place := PySem.W.mg_of X G a26, f_plus := f27, d_plus := _, F_plus := F27, b_plus := B27, m_plus := PySem.W.mg_of X G a27, f_minus := f28, d_minus := _, F_minus := F28, b_minus := B28, m_minus := PySem.W.mg_of X G a28, f_mix := f29, d_mix := _, F_mix := F29, b_mix := B29, m_mix := PySem.W.mg_of X G a29, f_tie := f30, d_tie := _, F_tie := F30, b_tie := B30, m_tie := PySem.W.mg_of X G a30, f_exchange := f31, d_exchange := _, F_exchange := F31, b_exchange := B31, m_exchange := PySem.W.mg_of X G a31, f_lay := f32, d_lay := _, F_lay := F32, b_lay := B32, m_lay := PySem.W.mg_of X G a32, f_width := f33, d_width := _, F_width := F33, b_width := B33, m_width := PySem.W.mg_of X G a33, f_swapped := f34, d_swapped := _, F_swapped := F34, b_swapped := B34, m_swapped := PySem.W.mg_of X G a34, f_exchange_where := f35, d_exchange_where := _, F_exchange_where := F35, b_exchange_where := B35, m_exchange_where := PySem.W.mg_of X G a35, f_deed_done := f36, d_deed_done := _, F_deed_done := F36, b_deed_done := B36, m_deed_done := PySem.W.mg_of X G a36, f_meant_by := f37, d_meant_by := _, F_meant_by := F37, b_meant_by := B37, m_meant_by := PySem.W.mg_of X G a37, f_need_program := f38, d_need_program := _, F_need_program := F38, b_need_program := B38, m_need_program := PySem.W.mg_of X G a38, f_is_amount := f39, d_is_amount := _, F_is_amount := F39, b_is_amount := B39, m_is_amount := PySem.W.mg_of X G a39, f_is_spread := f40, d_is_spread := _, F_is_spread := F40, b_is_spread := B40, m_is_spread := PySem.W.mg_of X G a40, f_need_spread := f41, d_need_spread := _, F_need_spread := F41, b_need_spread := B41, m_need_spread := PySem.W.mg_of X G a41, f_need_wires := f42, d_need_wires := _, F_need_wires := F42, b_need_wires := B42, m_need_wires := PySem.W.mg_of X G a42, f_meaning := f43, d_meaning := _, F_meaning := F43, b_meaning := B43, m_meaning := PySem.W.mg_of X G a43, f_need_few := f44, d_need_few := _, F_need_few := F44, b_need_few := B44, m_need_few := PySem.W.mg_of X G a44, f_joined := f45, d_joined := _, F_joined := F45, b_joined := B45, m_joined := PySem.W.mg_of X G a45, f_turned_about := f46, d_turned_about := _, F_turned_about := F46, b_turned_about := B46, m_turned_about := PySem.W.mg_of X G a46, f_undone := f47, d_undone := _, F_undone := F47, b_undone := B47, m_undone := PySem.W.mg_of X G a47, f__law_undone_right := f48, d__law_undone_right := _, F__law_undone_right := F48, b__law_undone_right := B48, m__law_undone_right := PySem.W.mg_of X G a48, f_moved_on := f49, d_moved_on := _, F_moved_on := F49, b_moved_on := B49, m_moved_on := PySem.W.mg_of X G a49, f_aside := f50, d_aside := _, F_aside := F50, b_aside := B50, m_aside := PySem.W.mg_of X G a50, f_law := fa, d_law := _, F_law := F51, b_law := B51, m_law := PySem.W.mg_of X G a51, cs := ⟨C_Program⟩, m_Program := PySem.W.mg_of X G ca_Program, c_Program := ⟨⟨cb_Program_0, cb_Program_1, cb_Program_2, cb_Program_3⟩, cb_Program_4, cb_Program_5, cb_Program_6, cb_Program_7, kitOne_self _ _, kitOne_no cb_Program_8 cb_Program_16 cb_Program_9, kitOne_no cb_Program_8 cb_Program_16 cb_Program_10, kitOne_no cb_Program_8 cb_Program_16 cb_Program_11, kitOne_no cb_Program_8 cb_Program_16 cb_Program_12, kitOne_no cb_Program_8 cb_Program_16 cb_Program_13, kitOne_no cb_Program_8 cb_Program_16 cb_Program_14, kitOne_no cb_Program_8 cb_Program_16 cb_Program_15⟩, M_Program := ⟨cm_Program, a4, fn4, ck_Program⟩, n_Program_wires := cn_Program_wires, n_Program_deeds := cn_Program_deeds, k_WIRES_IN := ⟨_, _, _, PySem.W.mg_of X G q_WIRES_IN, ql_WIRES_IN, qk_WIRES_IN, qs_WIRES_IN, qd_WIRES_IN⟩, z_abs := PySem.W.mg_none_of X G z_abs, z_all := PySem.W.mg_none_of X G z_all, z_any := PySem.W.mg_none_of X G z_any, z_bool := PySem.W.mg_none_of X G z_bool, z_enumerate := PySem.W.mg_none_of X G z_enumerate, z_int := PySem.W.mg_none_of X G z_int, z_isinstance := PySem.W.mg_none_of X G z_isinstance, z_len := PySem.W.mg_none_of X G z_len, z_list := PySem.W.mg_none_of X G z_list, z_range := PySem.W.mg_none_of X G z_range, z_repr := PySem.W.mg_none_of X G z_repr, z_set := PySem.W.mg_none_of X G z_set, z_str := PySem.W.mg_none_of X G z_str, z_sum := PySem.W.mg_none_of X G z_sum, z_tuple := PySem.W.mg_none_of X G z_tuple, k_MOST_DEEDS := kon_int X G q_MOST_DEEDS, k_MOST_PLACES := kon_int X G q_MOST_PLACES, k_MOST_WIRES := kon_int X G q_MOST_WIRES, k_NOTHING := kon_tup X G q_NOTHING ql_NOTHING [0, 0, 0, 0] (.cons ⟨_, rfl⟩ (.cons ⟨_, rfl⟩ (.cons ⟨_, rfl⟩ (.cons ⟨_, rfl⟩ (.nil))))) (by show 4 ≤ sizeLine; rw [sizeLine_eq]; decide) }
  exact ⟨T.d_law, fun s v => .of_eq rfl, fun base _ _ => ok_law T⟩
end
end Law
open PySem PySem.W PyProof.Rows
set_option maxRecDepth 100000 in
set_option maxHeartbeats 0 in
theorem PySem.Challenge.cw_lookmade_k16_whole_what_is_undone_and_be_holds : PySem.Challenge.rw_lookmade_k16_whole_what_is_undone_and_be.Holds := by
  w_on; o_law; k_head; (case hw => w_witness2)
  k_fill
  refine DL.walk_D (l := PySem.Challenge.rw_lookmade_k16_whole_what_is_undone_and_be) (n := 63) (k := 8) (x := "_law_script") rfl (by decide) rfl ⟨⟨rfl, by decide, by decide⟩, rfl⟩ (fun w h Y => PySem.W.kIn_of Y) ?F
  case F =>
    intro w mg fa h KX G hmg
    refine' Law.all_mk KX G hmg ?a0 ?l0 ?c0 ?k0 ?a1 ?l1 ?c1 ?k1 ?a2 ?l2 ?c2 ?k2 ?a3 ?l3 ?c3 ?k3 ?ca_Program ?cb_Program_0 ?cb_Program_1 ?cb_Program_2 ?cb_Program_3 ?cb_Program_4 ?cb_Program_5 ?cb_Program_6 ?cb_Program_7 ?cb_Program_8 ?cb_Program_9 ?cb_Program_10 ?cb_Program_11 ?cb_Program_12 ?cb_Program_13 ?cb_Program_14 ?cb_Program_15 ?cb_Program_16 ?cm_Program ?ck_Program ?cn_Program_wires ?cn_Program_deeds ?a4 ?l4 ?c4 ?k4 ?fn4 ?a5 ?l5 ?c5 ?k5 ?a6 ?l6 ?c6 ?k6 ?a7 ?l7 ?c7 ?k7 ?a8 ?l8 ?c8 ?k8 ?a9 ?l9 ?c9 ?k9 ?a10 ?l10 ?c10 ?k10 ?a11 ?l11 ?c11 ?k11 ?a12 ?l12 ?c12 ?k12 ?a13 ?l13 ?c13 ?k13 ?a14 ?l14 ?c14 ?k14 ?a15 ?l15 ?c15 ?k15 ?a16 ?l16 ?c16 ?k16 ?a17 ?l17 ?c17 ?k17 ?a18 ?l18 ?c18 ?k18 ?a19 ?l19 ?c19 ?k19 ?a20 ?l20 ?c20 ?k20 ?a21 ?l21 ?c21 ?k21 ?a22 ?l22 ?c22 ?k22 ?a23 ?l23 ?c23 ?k23 ?a24 ?l24 ?c24 ?k24 ?a25 ?l25 ?c25 ?k25 ?a26 ?l26 ?c26 ?k26 ?a27 ?l27 ?c27 ?k27 ?a28 ?l28 ?c28 ?k28 ?a29 ?l29 ?c29 ?k29 ?a30 ?l30 ?c30 ?k30 ?a31 ?l31 ?c31 ?k31 ?a32 ?l32 ?c32 ?k32 ?a33 ?l33 ?c33 ?k33 ?a34 ?l34 ?c34 ?k34 ?a35 ?l35 ?c35 ?k35 ?a36 ?l36 ?c36 ?k36 ?a37 ?l37 ?c37 ?k37 ?a38 ?l38 ?c38 ?k38 ?a39 ?l39 ?c39 ?k39 ?a40 ?l40 ?c40 ?k40 ?a41 ?l41 ?c41 ?k41 ?a42 ?l42 ?c42 ?k42 ?a43 ?l43 ?c43 ?k43 ?a44 ?l44 ?c44 ?k44 ?a45 ?l45 ?c45 ?k45 ?a46 ?l46 ?c46 ?k46 ?a47 ?l47 ?c47 ?k47 ?a48 ?l48 ?c48 ?k48 ?a49 ?l49 ?c49 ?k49 ?a50 ?l50 ?c50 ?k50 ?a51 ?l51 ?c51 ?k51 ?q_WIRES_IN ?ql_WIRES_IN ?qk_WIRES_IN ?qs_WIRES_IN ?qd_WIRES_IN ?z_abs ?z_all ?z_any ?z_bool ?z_enumerate ?z_int ?z_isinstance ?z_len ?z_list ?z_range ?z_repr ?z_set ?z_str ?z_sum ?z_tuple ?q_MOST_DEEDS ?q_MOST_PLACES ?q_MOST_WIRES ?q_NOTHING ?ql_NOTHING
    (case a0 => k_is)
    (case l0 => k_is)
    (case c0 => k_is)
    (case k0 => k_is)
    (case a1 => k_is)
    (case l1 => k_is)
    (case c1 => k_is)
    (case k1 => k_is)
    (case a2 => k_is)
    (case l2 => k_is)
    (case c2 => k_is)
    (case k2 => k_is)
    (case a3 => k_is)
    (case l3 => k_is)
    (case c3 => k_is)
    (case k3 => k_is)
    (case ca_Program => k_is)
    (case cb_Program_0 => k_is)
    (case cb_Program_1 => k_is)
    (case cb_Program_2 => k_is)
    (case cb_Program_3 => k_is)
    (case cb_Program_4 => k_is)
    (case cb_Program_5 => k_is)
    (case cb_Program_6 => k_is)
    (case cb_Program_7 => k_is)
    (case cb_Program_8 => k_is)
    (case cb_Program_9 => k_is)
    (case cb_Program_10 => k_is)
    (case cb_Program_11 => k_is)
    (case cb_Program_12 => k_is)
    (case cb_Program_13 => k_is)
    (case cb_Program_14 => k_is)
    (case cb_Program_15 => k_is)
    (case cb_Program_16 => k_is)
    (case cm_Program => k_is)
    (case ck_Program => k_is)
    (case cn_Program_wires => k_is)
    (case cn_Program_deeds => k_is)
    (case a4 => k_is)
    (case l4 => k_is)
    (case c4 => k_is)
    (case k4 => k_is)
    (case fn4 => k_is)
    (case a5 => k_is)
    (case l5 => k_is)
    (case c5 => k_is)
    (case k5 => k_is)
    (case a6 => k_is)
    (case l6 => k_is)
    (case c6 => k_is)
    (case k6 => k_is)
    (case a7 => k_is)
    (case l7 => k_is)
    (case c7 => k_is)
    (case k7 => k_is)
    (case a8 => k_is)
    (case l8 => k_is)
    (case c8 => k_is)
    (case k8 => k_is)
    (case a9 => k_is)
    (case l9 => k_is)
    (case c9 => k_is)
    (case k9 => k_is)
    (case a10 => k_is)
    (case l10 => k_is)
    (case c10 => k_is)
    (case k10 => k_is)
    (case a11 => k_is)
    (case l11 => k_is)
    (case c11 => k_is)
    (case k11 => k_is)
    (case a12 => k_is)
    (case l12 => k_is)
    (case c12 => k_is)
    (case k12 => k_is)
    (case a13 => k_is)
    (case l13 => k_is)
    (case c13 => k_is)
    (case k13 => k_is)
    (case a14 => k_is)
    (case l14 => k_is)
    (case c14 => k_is)
    (case k14 => k_is)
    (case a15 => k_is)
    (case l15 => k_is)
    (case c15 => k_is)
    (case k15 => k_is)
    (case a16 => k_is)
    (case l16 => k_is)
    (case c16 => k_is)
    (case k16 => k_is)
    (case a17 => k_is)
    (case l17 => k_is)
    (case c17 => k_is)
    (case k17 => k_is)
    (case a18 => k_is)
    (case l18 => k_is)
    (case c18 => k_is)
    (case k18 => k_is)
    (case a19 => k_is)
    (case l19 => k_is)
    (case c19 => k_is)
    (case k19 => k_is)
    (case a20 => k_is)
    (case l20 => k_is)
    (case c20 => k_is)
    (case k20 => k_is)
    (case a21 => k_is)
    (case l21 => k_is)
    (case c21 => k_is)
    (case k21 => k_is)
    (case a22 => k_is)
    (case l22 => k_is)
    (case c22 => k_is)
    (case k22 => k_is)
    (case a23 => k_is)
    (case l23 => k_is)
    (case c23 => k_is)
    (case k23 => k_is)
    (case a24 => k_is)
    (case l24 => k_is)
    (case c24 => k_is)
    (case k24 => k_is)
    (case a25 => k_is)
    (case l25 => k_is)
    (case c25 => k_is)
    (case k25 => k_is)
    (case a26 => k_is)
    (case l26 => k_is)
    (case c26 => k_is)
    (case k26 => k_is)
    (case a27 => k_is)
    (case l27 => k_is)
    (case c27 => k_is)
    (case k27 => k_is)
    (case a28 => k_is)
    (case l28 => k_is)
    (case c28 => k_is)
    (case k28 => k_is)
    (case a29 => k_is)
    (case l29 => k_is)
    (case c29 => k_is)
    (case k29 => k_is)
    (case a30 => k_is)
    (case l30 => k_is)
    (case c30 => k_is)
    (case k30 => k_is)
    (case a31 => k_is)
    (case l31 => k_is)
    (case c31 => k_is)
    (case k31 => k_is)
    (case a32 => k_is)
    (case l32 => k_is)
    (case c32 => k_is)
    (case k32 => k_is)
    (case a33 => k_is)
    (case l33 => k_is)
    (case c33 => k_is)
    (case k33 => k_is)
    (case a34 => k_is)
    (case l34 => k_is)
    (case c34 => k_is)
    (case k34 => k_is)
    (case a35 => k_is)
    (case l35 => k_is)
    (case c35 => k_is)
    (case k35 => k_is)
    (case a36 => k_is)
    (case l36 => k_is)
    (case c36 => k_is)
    (case k36 => k_is)
    (case a37 => k_is)
    (case l37 => k_is)
    (case c37 => k_is)
    (case k37 => k_is)
    (case a38 => k_is)
    (case l38 => k_is)
    (case c38 => k_is)
    (case k38 => k_is)
    (case a39 => k_is)
    (case l39 => k_is)
    (case c39 => k_is)
    (case k39 => k_is)
    (case a40 => k_is)
    (case l40 => k_is)
    (case c40 => k_is)
    (case k40 => k_is)
    (case a41 => k_is)
    (case l41 => k_is)
    (case c41 => k_is)
    (case k41 => k_is)
    (case a42 => k_is)
    (case l42 => k_is)
    (case c42 => k_is)
    (case k42 => k_is)
    (case a43 => k_is)
    (case l43 => k_is)
    (case c43 => k_is)
    (case k43 => k_is)
    (case a44 => k_is)
    (case l44 => k_is)
    (case c44 => k_is)
    (case k44 => k_is)
    (case a45 => k_is)
    (case l45 => k_is)
    (case c45 => k_is)
    (case k45 => k_is)
    (case a46 => k_is)
    (case l46 => k_is)
    (case c46 => k_is)
    (case k46 => k_is)
    (case a47 => k_is)
    (case l47 => k_is)
    (case c47 => k_is)
    (case k47 => k_is)
    (case a48 => k_is)
    (case l48 => k_is)
    (case c48 => k_is)
    (case k48 => k_is)
    (case a49 => k_is)
    (case l49 => k_is)
    (case c49 => k_is)
    (case k49 => k_is)
    (case a50 => k_is)
    (case l50 => k_is)
    (case c50 => k_is)
    (case k50 => k_is)
    (case a51 => k_is)
    (case l51 => k_is)
    (case c51 => k_is)
    (case k51 => k_is)
    (case q_WIRES_IN => k_is)
    (case ql_WIRES_IN => k_is)
    (case qk_WIRES_IN => k_keys)
    (case qs_WIRES_IN => first | rfl | decide)
    (case qd_WIRES_IN => exact ⟨_, _, _, _, _, rfl, rfl, rfl, ⟨_, _, _, _, _, rfl, rfl, rfl, ⟨_, _, _, _, _, rfl, rfl, rfl, ⟨_, _, _, _, _, rfl, rfl, rfl, ⟨_, _, _, _, _, rfl, rfl, rfl, ⟨_, _, _, _, _, rfl, rfl, rfl, ⟨_, _, _, _, _, rfl, rfl, rfl, rfl⟩⟩⟩⟩⟩⟩⟩)
    (case z_abs => k_is)
    (case z_all => k_is)
    (case z_any => k_is)
    (case z_bool => k_is)
    (case z_enumerate => k_is)
    (case z_int => k_is)
    (case z_isinstance => k_is)
    (case z_len => k_is)
    (case z_list => k_is)
    (case z_range => k_is)
    (case z_repr => k_is)
    (case z_set => k_is)
    (case z_str => k_is)
    (case z_sum => k_is)
    (case z_tuple => k_is)
    (case q_MOST_DEEDS => k_is)
    (case q_MOST_PLACES => k_is)
    (case q_MOST_WIRES => k_is)
    (case q_NOTHING => k_is)
    (case ql_NOTHING => k_is)
