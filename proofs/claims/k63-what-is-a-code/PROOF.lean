import PyProof.Rows.All
import Wide.All
import OpenK.AllK
import Wide.FinOn
import HandS.ForSpec
import HandS.ForMost
import HandS.IsInst
import HandS.Wide
import HandS.EndBits
import HandS.TupAny
import HandS.Flow
import HandS.Style
import HandS.Deep
import HandS.Rev
import HandS.TupMul
import PySem.Challenge.RW_takeleave_k63_what_is_a_code
set_option Elab.async false
set_option linter.all false
set_option maxRecDepth 100000
set_option maxHeartbeats 4000000
set_option autoImplicit false
/-! DL1: data as trees over a small store of the lists and dicts that change; results; the relation with the heap. -/
namespace DL
open PySem L2

inductive D where
  | non | bl (b : Bool) | int (i : Int) | str (x : Str) | tup (xs : List D) | lst (xs : List D) | fl (xs : List D) | ref (n : Nat)
inductive MO where
  | lst (xs : List D) | dct (kvs : List (Key × D))
abbrev Sto := List MO
/-- where the stored things stand; x: lists in the making, that no value may name -/
structure Mu where
  v : List Addr
  x : List Addr
structure Exc where
  cls : Str
  fs : List (Str × D)
inductive R (α : Type) where
  | ok (a : α) (S : Sto) | ex (e : Exc) (S : Sto) | bad
abbrev M (α : Type) := Sto → R α
def ret {α : Type} (a : α) : M α := fun S => .ok a S
def stuck {α : Type} : M α := fun _ => .bad
def raiz {α : Type} (e : Exc) : M α := fun S => .ex e S
def bnd {α β : Type} (m : M α) (k : α → M β) : M β := fun S => match m S with
  | .ok a S' => k a S'
  | .ex e S' => .ex e S'
  | .bad => .bad
abbrev Rho := List (Option D)

mutual
inductive RD (K : PySem.W.Frag) (μ : Mu) (H : Hp) : D → V → Prop
  | non : RD K μ H .non .non
  | bl (b : Bool) : RD K μ H (.bl b) (.bl b)
  | int (i : Int) : RD K μ H (.int i) (.int i)
  | str (x : Str) : RD K μ H (.str x) (.str x)
  | tup {a : Addr} {vs : List V} {ds : List D} : SqT K H a vs → RDs K μ H ds vs → RD K μ H (.tup ds) (.ref a)
  | fl {a : Addr} {vs : List V} {ds : List D} : ((∃ o, H a = some (.frz o (.lst vs))) ∨ (∃ (o : Obj) (its : Array Value) (n : Nat), K.lookup a = some o ∧ o.cls = .type "list" ∧ o.dict = none ∧ o.data = .seq its n ∧ its.size ≤ sizeLine ∧ Vals vs its.toList)) →
      RDs K μ H ds vs → RD K μ H (.fl ds) (.ref a)
  | lst {a : Addr} {vs : List V} {ds : List D} : H a = some (.lst vs) → (a ∉ μ.v ∧ a ∉ μ.x) → RDs K μ H ds vs → RD K μ H (.lst ds) (.ref a)
  | ref {n : Nat} {a : Addr} : μ.v[n]? = some a → RD K μ H (.ref n) (.ref a)
inductive RDs (K : PySem.W.Frag) (μ : Mu) (H : Hp) : List D → List V → Prop
  | nil : RDs K μ H [] []
  | cons {d : D} {ds : List D} {v : V} {vs : List V} : RD K μ H d v → RDs K μ H ds vs → RDs K μ H (d :: ds) (v :: vs)
end

def RKs (K : PySem.W.Frag) (μ : Mu) (H : Hp) : List (Key × D) → List (Key × V) → Prop := Paired fun p q => p.1 = q.1 ∧ RD K μ H p.2 q.2
def RFs (K : PySem.W.Frag) (μ : Mu) (H : Hp) : List (Str × D) → List (Str × V) → Prop := Paired fun p q => p.1 = q.1 ∧ RD K μ H p.2 q.2
def RM (K : PySem.W.Frag) (μ : Mu) (H : Hp) (a : Addr) : MO → Prop
  | .lst ds => ∃ vs, H a = some (.lst vs) ∧ RDs K μ H ds vs
  | .dct kvs => ∃ ws, H a = some (.dK ws) ∧ RKs K μ H kvs ws
def RX (K : PySem.W.Frag) (mg : Str → Option Value) (μ : Mu) (H : Hp) (e : Exc) (c : Value) (od : Option Addr) : Prop :=
  (∃ C, mg e.cls = some (.ref C) ∧ c = .ref C) ∧ match od with
    | none => e.fs = []
    | some d => ∃ fs, H d = some (.xd fs) ∧ RFs K μ H e.fs fs

structure Rel (K : PySem.W.Frag) (μ : Mu) (S : Sto) (H : Hp) : Prop where
  len : μ.v.length = S.length
  nd : μ.v.Nodup
  obj : ∀ (i : Nat) (a : Addr) (m : MO), μ.v[i]? = some a → S[i]? = some m → RM K μ H a m
  hid : ∀ a ∈ μ.x, H a ≠ none
  apt : ∀ a ∈ μ.v, a ∉ μ.x
structure Stp (μ : Mu) (H : Hp) (μ' : Mu) (H' : Hp) : Prop where
  pre : ∃ ν, μ' = ⟨μ.v ++ ν, μ.x⟩ ∧ ∀ p ∈ ν, H p = none
  keep : ∀ a u, H a = some u → a ∉ μ.v → H' a = some u
  thr : ∀ a, H a ≠ none → H' a ≠ none

theorem Stp.refl {μ : Mu} {H : Hp} : Stp μ H μ H := ⟨⟨[], by simp, by simp⟩, fun _ _ h _ => h, fun _ h => h⟩
theorem Stp.trans {μ μ1 μ2 : Mu} {H H1 H2 : Hp} (a : Stp μ H μ1 H1) (b : Stp μ1 H1 μ2 H2) : Stp μ H μ2 H2 := by
  obtain ⟨⟨ν1, rfl, f1⟩, k1, t1⟩ := a
  obtain ⟨⟨ν2, rfl, f2⟩, k2, t2⟩ := b
  refine ⟨⟨ν1 ++ ν2, by simp, fun p hp => ?_⟩, fun x u h hx => ?_, fun x h => t2 x (t1 x h)⟩
  · rcases List.mem_append.mp hp with q | q
    · exact f1 p q
    · by_cases h : H p = none
      · exact h
      · exact absurd (f2 p q) (t1 p h)
  · refine k2 x u (k1 x u h hx) fun q => ?_
    rcases List.mem_append.mp q with q | q
    · exact hx q
    · rw [f1 x q] at h; cases h
/-- a new object -/
theorem Stp.new {μ : Mu} {H : Hp} {p : Addr} {o : HO} (h : H p = none) : Stp μ H μ (upd H p o) :=
  ⟨⟨[], by simp, by simp⟩, fun a u e _ => by rw [upd_ne (ne_of_none e h)]; exact e, fun a e => by
    by_cases z : a = p
    · subst z; rw [upd_same]; simp
    · rw [upd_ne z]; exact e⟩
/-- a stored object changes -/
theorem Stp.put {μ : Mu} {H : Hp} {p : Addr} {o : HO} (h : p ∈ μ.v) : Stp μ H μ (upd H p o) :=
  ⟨⟨[], by simp, by simp⟩, fun a u e z => by rw [upd_ne (fun q => z (by rw [q]; exact h))]; exact e, fun a e => by
    by_cases z : a = p
    · subst z; rw [upd_same]; simp
    · rw [upd_ne z]; exact e⟩
def Mu.push (μ : Mu) (p : Addr) : Mu := ⟨μ.v ++ [p], μ.x⟩
def Mu.cut (μ : Mu) (n : Nat) : Mu := ⟨μ.v.take n, μ.x⟩
theorem Stp.push {μ μ' : Mu} {H H' : Hp} {p : Addr} (s : Stp μ H μ' H') (h : H p = none) : Stp μ H (μ'.push p) H' := by
  obtain ⟨⟨ν, rfl, f⟩, k, t⟩ := s
  refine ⟨⟨ν ++ [p], by simp [Mu.push], fun q hq => ?_⟩, k, t⟩
  rcases List.mem_append.mp hq with z | z
  · exact f q z
  · simp at z; rw [z]; exact h
theorem Stp.get {μ μ' : Mu} {H H' : Hp} (s : Stp μ H μ' H') {i : Nat} {a : Addr} (h : μ.v[i]? = some a) : μ'.v[i]? = some a := by
  obtain ⟨⟨ν, rfl, f⟩, k, t⟩ := s
  rw [List.getElem?_append_left (List.getElem?_eq_some_iff.mp h).1]; exact h
theorem Stp.out {μ μ' : Mu} {H H' : Hp} (s : Stp μ H μ' H') {a : Addr} {u : HO} (h : H a = some u) (h0 : a ∉ μ.v ∧ a ∉ μ.x) : a ∉ μ'.v ∧ a ∉ μ'.x := by
  obtain ⟨⟨ν, rfl, f⟩, k, t⟩ := s
  refine ⟨fun z => ?_, h0.2⟩
  rcases List.mem_append.mp z with z | z
  · exact h0.1 z
  · rw [f a z] at h; cases h
theorem Stp.x {μ μ' : Mu} {H H' : Hp} (s : Stp μ H μ' H') : μ'.x = μ.x := by
  obtain ⟨⟨ν, rfl, f⟩, k, t⟩ := s; rfl
/-- a new object, taken into the store -/
theorem Stp.alloc {μ : Mu} {H : Hp} {p : Addr} {o : HO} (h : H p = none) : Stp μ H (μ.push p) (upd H p o) := Stp.push (Stp.new h) h

section
variable {K : PySem.W.Frag} {μ μ' : Mu} {S : Sto} {H H' : Hp}
theorem Rel.mem (r : Rel K μ S H) {a : Addr} (h : a ∈ μ.v) : ∃ (i : Nat) (m : MO), μ.v[i]? = some a ∧ S[i]? = some m ∧ RM K μ H a m := by
  obtain ⟨i, hi⟩ := List.mem_iff_getElem?.mp h
  have hl := (List.getElem?_eq_some_iff.mp hi).1
  rw [r.len] at hl
  exact ⟨i, S[i], hi, List.getElem?_eq_getElem hl, r.obj i a _ hi (List.getElem?_eq_getElem hl)⟩
theorem Rel.kind (r : Rel K μ S H) {a : Addr} (h : a ∈ μ.v) : (∃ vs, H a = some (.lst vs)) ∨ ∃ ws, H a = some (.dK ws) := by
  obtain ⟨i, m, _, _, q⟩ := r.mem h
  cases m with
  | lst ds => obtain ⟨vs, e, _⟩ := q; exact .inl ⟨vs, e⟩
  | dct kvs => obtain ⟨ws, e, _⟩ := q; exact .inr ⟨ws, e⟩
theorem Rel.ntup (r : Rel K μ S H) {a : Addr} {vs : List V} (h : H a = some (.tup vs))   : a ∉ μ.v := fun z => by
  rcases r.kind z with ⟨_, e⟩ | ⟨_, e⟩ <;> rw [h] at e <;> cases e
theorem Rel.nfrz (r : Rel K μ S H) {a : Addr} {o : Obj} {u : HO} (h : H a = some (.frz o u))   : a ∉ μ.v := fun z => by
  rcases r.kind z with ⟨_, e⟩ | ⟨_, e⟩ <;> rw [h] at e <;> cases e
theorem Rel.there (r : Rel K μ S H) {a : Addr} (h : a ∈ μ.v) : H a ≠ none := fun z => by
  rcases r.kind h with ⟨_, e⟩ | ⟨_, e⟩ <;> rw [z] at e <;> cases e
theorem SqT.stp {a : Addr} {vs : List V} (h : SqT K H a vs) (r : Rel K μ S H) (s : Stp μ H μ' H') : SqT K H' a vs := by
  rcases h with (h | ⟨o, h⟩) | h
  · exact .inl (.inl (s.keep a _ h (r.ntup h)))
  · exact .inl (.inr ⟨o, s.keep a _ h (r.nfrz h)⟩)
  · exact .inr h
mutual
theorem RD.stp (r : Rel K μ S H) (s : Stp μ H μ' H') : ∀ (d : D) (v : V), RD K μ H d v → RD K μ' H' d v
  | .non, _, h => by cases h; exact .non
  | .bl _, _, h => by cases h; exact .bl _
  | .int _, _, h => by cases h; exact .int _
  | .str _, _, h => by cases h; exact .str _
  | .tup ds, _, h => by
    cases h with
    | tup h1 h2 => exact .tup (SqT.stp h1 r s) (RDs.stp r s ds _ h2)
  | .fl ds, _, h => by
    cases h with
    | fl h1 h2 =>
      refine .fl ?_ (RDs.stp r s ds _ h2)
      rcases h1 with ⟨o, h1⟩ | h1
      · exact .inl ⟨o, s.keep _ _ h1 (r.nfrz h1)⟩
      · exact .inr h1
  | .lst ds, _, h => by
    cases h with
    | lst h1 h0 h2 => exact .lst (s.keep _ _ h1 h0.1) (s.out h1 h0) (RDs.stp r s ds _ h2)
  | .ref n, _, h => by
    cases h with
    | ref h1 => exact .ref (s.get h1)
theorem RDs.stp (r : Rel K μ S H) (s : Stp μ H μ' H') : ∀ (ds : List D) (vs : List V), RDs K μ H ds vs → RDs K μ' H' ds vs
  | [], _, h => by cases h; exact .nil
  | d :: ds, _, h => by
    cases h with
    | cons h1 h2 => exact .cons (RD.stp r s d _ h1) (RDs.stp r s ds _ h2)
end
theorem RD.step {d : D} {v : V} (h : RD K μ H d v) (r : Rel K μ S H) (s : Stp μ H μ' H') : RD K μ' H' d v := RD.stp r s d v h
theorem RDs.step {ds : List D} {vs : List V} (h : RDs K μ H ds vs) (r : Rel K μ S H) (s : Stp μ H μ' H') : RDs K μ' H' ds vs := RDs.stp r s ds vs h
theorem RKs.step {ks : List (Key × D)} {ws : List (Key × V)} (h : RKs K μ H ks ws) (r : Rel K μ S H) (s : Stp μ H μ' H') : RKs K μ' H' ks ws := by
  unfold RKs at *
  exact Paired.mapP h fun p q z => ⟨z.1, z.2.step r s⟩
theorem RDs.length : ∀ {ds : List D} {vs : List V}, RDs K μ H ds vs → ds.length = vs.length
  | [], _, h => by cases h; rfl
  | d :: ds, _, h => by
    cases h with
    | cons h1 h2 => simp [RDs.length h2]
theorem RDs.get : ∀ {ds : List D} {vs : List V} {i : Nat} {d : D}, RDs K μ H ds vs → ds[i]? = some d → ∃ v, vs[i]? = some v ∧ RD K μ H d v
  | [], _, _, _, _, e => by simp at e
  | d :: ds, _, i, x, h, e => by
    cases h with
    | cons h1 h2 =>
      cases i with
      | zero => simp at e; subst e; exact ⟨_, by simp, h1⟩
      | succ i => simp at e; obtain ⟨v, q1, q2⟩ := RDs.get h2 e; exact ⟨v, by simpa using q1, q2⟩
theorem RDs.getv : ∀ {ds : List D} {vs : List V} {i : Nat} {v : V}, RDs K μ H ds vs → vs[i]? = some v → ∃ d, ds[i]? = some d ∧ RD K μ H d v
  | [], _, i, _, h, e => by cases h; simp at e
  | d :: ds, _, i, x, h, e => by
    cases h with
    | cons h1 h2 =>
      cases i with
      | zero => simp at e; subst e; exact ⟨_, by simp, h1⟩
      | succ i => simp at e; obtain ⟨v, q1, q2⟩ := RDs.getv h2 e; exact ⟨v, by simpa using q1, q2⟩
theorem RDs.append : ∀ {ds es : List D} {vs ws : List V}, RDs K μ H ds vs → RDs K μ H es ws → RDs K μ H (ds ++ es) (vs ++ ws)
  | [], _, _, _, h, g => by cases h; exact g
  | d :: ds, _, _, _, h, g => by
    cases h with
    | cons h1 h2 => exact .cons h1 (RDs.append h2 g)
theorem RDs.take : ∀ {ds : List D} {vs : List V} (n : Nat), RDs K μ H ds vs → RDs K μ H (ds.take n) (vs.take n)
  | [], _, n, h => by cases h; simp; exact .nil
  | d :: ds, _, n, h => by
    cases h with
    | cons h1 h2 =>
      cases n with
      | zero => simp; exact .nil
      | succ n => simp only [List.take_succ_cons]; exact .cons h1 (RDs.take n h2)
theorem RDs.drop : ∀ {ds : List D} {vs : List V} (n : Nat), RDs K μ H ds vs → RDs K μ H (ds.drop n) (vs.drop n)
  | [], _, n, h => by cases h; simp; exact .nil
  | d :: ds, _, n, h => by
    cases h with
    | cons h1 h2 =>
      cases n with
      | zero => simp; exact .cons h1 h2
      | succ n => simp only [List.drop_succ_cons]; exact RDs.drop n h2
theorem RDs.reverse : ∀ {ds : List D} {vs : List V}, RDs K μ H ds vs → RDs K μ H ds.reverse vs.reverse
  | [], _, h => by cases h; exact .nil
  | d :: ds, _, h => by
    cases h with
    | cons h1 h2 => simp only [List.reverse_cons]; exact (RDs.reverse h2).append (.cons h1 .nil)
theorem RDs.set : ∀ {ds : List D} {vs : List V} (i : Nat) {d : D} {v : V}, RDs K μ H ds vs → RD K μ H d v → RDs K μ H (ds.set i d) (vs.set i v)
  | [], _, i, _, _, h, _ => by cases h; exact .nil
  | d :: ds, _, i, x, y, h, g => by
    cases h with
    | cons h1 h2 =>
      cases i with
      | zero => simp; exact .cons g h2
      | succ i => simp only [List.set_cons_succ]; exact .cons h1 (RDs.set i h2 g)
theorem RDs.eraseIdx : ∀ {ds : List D} {vs : List V} (i : Nat), RDs K μ H ds vs → RDs K μ H (ds.eraseIdx i) (vs.eraseIdx i)
  | [], _, i, h => by cases h; simp; exact .nil
  | d :: ds, _, i, h => by
    cases h with
    | cons h1 h2 =>
      cases i with
      | zero => simp; exact h2
      | succ i => simp only [List.eraseIdx_cons_succ]; exact .cons h1 (RDs.eraseIdx i h2)
theorem RDs.dropLast {ds : List D} {vs : List V} (h : RDs K μ H ds vs) : RDs K μ H ds.dropLast vs.dropLast := by
  rw [List.dropLast_eq_take, List.dropLast_eq_take, h.length]; exact h.take _
theorem RDs.ints : ∀ {ns : List Int} {vs : List V}, RDs K μ H (ns.map D.int) vs → vs = ns.map V.int
  | [], _, h => by cases h; rfl
  | n :: ns, _, h => by
    cases h with
    | cons h1 h2 => cases h1; simp [RDs.ints h2]
theorem RDs.of_ints : ∀ (ns : List Int), RDs K μ H (ns.map D.int) (ns.map V.int)
  | [] => .nil
  | n :: ns => .cons (.int n) (RDs.of_ints ns)
theorem RDs.strs : ∀ {ns : List Str} {vs : List V}, RDs K μ H (ns.map D.str) vs → vs = ns.map V.str
  | [], _, h => by cases h; rfl
  | n :: ns, _, h => by
    cases h with
    | cons h1 h2 => cases h1; simp [RDs.strs h2]
theorem RDs.of_strs : ∀ (ns : List Str), RDs K μ H (ns.map D.str) (ns.map V.str)
  | [] => .nil
  | n :: ns => .cons (.str n) (RDs.of_strs ns)
theorem RDs.bls : ∀ {ns : List Bool} {vs : List V}, RDs K μ H (ns.map D.bl) vs → vs = ns.map V.bl
  | [], _, h => by cases h; rfl
  | n :: ns, _, h => by
    cases h with
    | cons h1 h2 => cases h1; simp [RDs.bls h2]
/-- objects untouched keep what they are -/
theorem RM.step {a : Addr} {m : MO} (h : RM K μ H a m) (e : H' a = H a) (r : Rel K μ S H) (s : Stp μ H μ' H') : RM K μ' H' a m := by
  cases m with
  | lst ds => obtain ⟨vs, q, z⟩ := h; exact ⟨vs, e.trans q, z.step r s⟩
  | dct kvs => obtain ⟨ws, q, z⟩ := h; exact ⟨ws, e.trans q, z.step r s⟩
/-- a heap that grows by a new object -/
theorem Rel.new {p : Addr} {o : HO} (r : Rel K μ S H) (h : H p = none) : Rel K μ S (upd H p o) := by
  refine ⟨r.len, r.nd, fun i a m h1 h2 => (r.obj i a m h1 h2).step (upd_ne fun z => ?_) r (Stp.new h), fun a ha => (Stp.new (μ := μ) h).thr a (r.hid a ha), r.apt⟩
  subst z
  exact r.there (List.mem_of_getElem? h1) h
/-- the i-th object changes -/
theorem Rel.put {i : Nat} {p : Addr} {o : HO} {m : MO} (r : Rel K μ S H) (h : μ.v[i]? = some p) (hm : RM K μ (upd H p o) p m) : Rel K μ (S.set i m) (upd H p o) := by
  have hp : p ∈ μ.v := List.mem_of_getElem? h
  refine ⟨by rw [List.length_set]; exact r.len, r.nd, fun j a n h1 h2 => ?_, fun a ha => (Stp.put (μ := μ) hp).thr a (r.hid a ha), r.apt⟩
  by_cases hij : i = j
  · subst hij
    rw [h] at h1; cases h1
    have hl := (List.getElem?_eq_some_iff.mp h).1
    rw [r.len] at hl
    rw [List.getElem?_set_self hl] at h2
    cases h2
    exact hm
  · rw [List.getElem?_set_ne hij] at h2
    refine (r.obj j a n h1 h2).step (upd_ne fun z => hij ?_) r (Stp.put hp)
    subst z
    obtain ⟨l1, e1⟩ := List.getElem?_eq_some_iff.mp h
    obtain ⟨l2, e2⟩ := List.getElem?_eq_some_iff.mp h1
    exact (List.getElem_inj r.nd).mp (e1.trans e2.symm)
/-- a new object is taken into the store -/
theorem Rel.alloc {p : Addr} {o : HO} {m : MO} (r : Rel K μ S H) (h : H p = none) (hm : RM K (μ.push p) (upd H p o) p m) : Rel K (μ.push p) (S ++ [m]) (upd H p o) := by
  have hp : p ∉ μ.v := fun z => r.there z h
  refine ⟨by simp [r.len, Mu.push], ?_, fun i a n h1 h2 => ?_, fun a ha => (Stp.alloc (μ := μ) h).thr a (r.hid a ha), fun a ha hx => ?_⟩
  · unfold Mu.push
    rw [List.nodup_append]
    refine ⟨r.nd, by simp, fun a ha b hb => ?_⟩
    simp at hb; subst hb
    exact fun z => hp (by rw [← z]; exact ha)
  · unfold Mu.push at h1
    by_cases hi : i < μ.v.length
    · rw [List.getElem?_append_left hi] at h1
      rw [List.getElem?_append_left (by rw [← r.len]; exact hi)] at h2
      exact (r.obj i a n h1 h2).step (upd_ne fun z => hp (by rw [← z]; exact List.mem_of_getElem? h1)) r (Stp.alloc h)
    · have hi' : i = μ.v.length := by
        have := (List.getElem?_eq_some_iff.mp h1).1
        simp at this; omega
      subst hi'
      rw [List.getElem?_append_right (Nat.le_refl _)] at h1
      rw [r.len, List.getElem?_append_right (Nat.le_refl _)] at h2
      simp at h1 h2
      subst h1 h2
      exact hm
  · rcases List.mem_append.mp (show a ∈ μ.v ++ [p] from ha) with q | q
    · exact r.apt a q hx
    · simp at q; subst q; exact r.hid a hx h

/-! the store cut back at a def's end -/
mutual
def D.lo (n : Nat) : D → Bool
  | .ref k => decide (k < n)
  | .tup xs => D.los n xs
  | .lst xs => D.los n xs
  | .fl xs => D.los n xs
  | _ => true
def D.los (n : Nat) : List D → Bool
  | [] => true
  | x :: xs => D.lo n x && D.los n xs
end
def loK (n : Nat) : List (Key × D) → Bool
  | [] => true
  | x :: xs => D.lo n x.2 && loK n xs
def MO.lo (n : Nat) : MO → Bool
  | .lst xs => D.los n xs
  | .dct ks => loK n ks
mutual
theorem RD.cut {n : Nat} : ∀ (d : D) (v : V), RD K μ H d v → d.lo n = true → RD K (μ.cut n) H d v
  | .non, _, h, _ => by cases h; exact .non
  | .bl _, _, h, _ => by cases h; exact .bl _
  | .int _, _, h, _ => by cases h; exact .int _
  | .str _, _, h, _ => by cases h; exact .str _
  | .tup ds, _, h, b => by
    cases h with
    | tup h1 h2 => exact .tup h1 (RDs.cut ds _ h2 (by simpa [D.lo] using b))
  | .fl ds, _, h, b => by
    cases h with
    | fl h1 h2 => exact .fl h1 (RDs.cut ds _ h2 (by simpa [D.lo] using b))
  | .lst ds, _, h, b => by
    cases h with
    | lst h1 h0 h2 => exact .lst h1 ⟨fun z => h0.1 (List.mem_of_mem_take z), h0.2⟩ (RDs.cut ds _ h2 (by simpa [D.lo] using b))
  | .ref k, _, h, b => by
    cases h with
    | ref h1 => exact .ref (by unfold Mu.cut; rw [List.getElem?_take_of_lt (by simpa [D.lo] using b)]; exact h1)
theorem RDs.cut {n : Nat} : ∀ (ds : List D) (vs : List V), RDs K μ H ds vs → D.los n ds = true → RDs K (μ.cut n) H ds vs
  | [], _, h, _ => by cases h; exact .nil
  | d :: ds, _, h, b => by
    have b' : d.lo n = true ∧ D.los n ds = true := by simpa [D.los] using b
    cases h with
    | cons h1 h2 => exact .cons (RD.cut d _ h1 b'.1) (RDs.cut ds _ h2 b'.2)
end
theorem RKs.cut {n : Nat} : ∀ {ks : List (Key × D)} {ws : List (Key × V)}, RKs K μ H ks ws → loK n ks = true → RKs K (μ.cut n) H ks ws
  | [], _, h, _ => by unfold RKs at *; cases h; exact .nil
  | k :: ks, _, h, b => by
    have b' : k.2.lo n = true ∧ loK n ks = true := by simpa [loK] using b
    unfold RKs at *
    cases h with
    | cons h1 h2 => exact .cons ⟨h1.1, RD.cut _ _ h1.2 b'.1⟩ (RKs.cut h2 b'.2)
theorem RM.cut {n : Nat} {a : Addr} {m : MO} (h : RM K μ H a m) (b : m.lo n = true) : RM K (μ.cut n) H a m := by
  cases m with
  | lst ds => obtain ⟨vs, q, z⟩ := h; exact ⟨vs, q, z.cut _ _ b⟩
  | dct kvs => obtain ⟨ws, q, z⟩ := h; exact ⟨ws, q, RKs.cut z b⟩
theorem Rel.cut {n : Nat} (r : Rel K μ S H) (b : (S.take n).all (MO.lo n) = true) : Rel K (μ.cut n) (S.take n) H := by
  refine ⟨by simp [r.len, Mu.cut], r.nd.sublist (List.take_sublist _ _), fun i a m h1 h2 => ?_, r.hid, fun a ha => r.apt a (List.mem_of_mem_take ha)⟩
  unfold Mu.cut at h1
  have hb : m.lo n = true := List.all_eq_true.mp b m (List.mem_of_getElem? h2)
  have hi : i < n := by
    have := (List.getElem?_eq_some_iff.mp h1).1
    simp at this; omega
  rw [List.getElem?_take_of_lt hi] at h1 h2
  exact (r.obj i a m h1 h2).cut hb
/-- a list that leaves the store -/
theorem RD.freed {n k : Nat} {ds : List D} {v : V} (r : Rel K μ S H) (h : RD K μ H (.ref k) v) (hk : n ≤ k) (e : S[k]? = some (.lst ds)) (b : D.los n ds = true) : RD K (μ.cut n) H (.lst ds) v := by
  cases h with
  | @ref _ a h1 =>
    obtain ⟨vs, q, z⟩ := r.obj k a _ h1 e
    refine .lst q ⟨fun hm => ?_, r.apt a (List.mem_of_getElem? h1)⟩ (z.cut _ _ b)
    unfold Mu.cut at hm
    obtain ⟨j, hj⟩ := List.mem_iff_getElem?.mp hm
    have hjn : j < n := by
      have := (List.getElem?_eq_some_iff.mp hj).1
      simp at this; omega
    rw [List.getElem?_take_of_lt hjn] at hj
    obtain ⟨l1, e1⟩ := List.getElem?_eq_some_iff.mp hj
    obtain ⟨l2, e2⟩ := List.getElem?_eq_some_iff.mp h1
    have := (List.getElem_inj r.nd).mp (e1.trans e2.symm)
    omega
theorem Stp.cut (s : Stp μ H μ' H') : Stp μ H (μ'.cut μ.v.length) H' := by
  obtain ⟨⟨ν, rfl, f⟩, k, t⟩ := s
  refine ⟨⟨[], by simp [Mu.cut], by simp⟩, k, t⟩
end

/-! ### a list in the making -/
section
variable {K : PySem.W.Frag} {μ : Mu} {S : Sto} {H : Hp}
def Mu.hide (μ : Mu) (p : Addr) : Mu := ⟨μ.v, p :: μ.x⟩
mutual
theorem RD.hide {p : Addr} {o : HO} (hp : H p = none) : ∀ (d : D) (v : V), RD K μ H d v → RD K (μ.hide p) (upd H p o) d v
  | .non, _, h => by cases h; exact .non
  | .bl _, _, h => by cases h; exact .bl _
  | .int _, _, h => by cases h; exact .int _
  | .str _, _, h => by cases h; exact .str _
  | .tup ds, _, h => by
    cases h with
    | tup h1 h2 =>
      refine .tup ?_ (RDs.hide hp ds _ h2)
      rcases h1 with (h1 | ⟨o, h1⟩) | h1
      · exact .inl (.inl (by rw [upd_ne (ne_of_none h1 hp)]; exact h1))
      · exact .inl (.inr ⟨o, by rw [upd_ne (ne_of_none h1 hp)]; exact h1⟩)
      · exact .inr h1
  | .fl ds, _, h => by
    cases h with
    | fl h1 h2 =>
      refine .fl ?_ (RDs.hide hp ds _ h2)
      rcases h1 with ⟨o, h1⟩ | h1
      · exact .inl ⟨o, by rw [upd_ne (ne_of_none h1 hp)]; exact h1⟩
      · exact .inr h1
  | .lst ds, _, h => by
    cases h with
    | lst h1 h0 h2 =>
      have ne := ne_of_none h1 hp
      refine .lst (by rw [upd_ne ne]; exact h1) ⟨h0.1, fun z => ?_⟩ (RDs.hide hp ds _ h2)
      rcases List.mem_cons.mp z with z | z
      · exact ne z
      · exact h0.2 z
  | .ref n, _, h => by
    cases h with
    | ref h1 => exact .ref h1
theorem RDs.hide {p : Addr} {o : HO} (hp : H p = none) : ∀ (ds : List D) (vs : List V), RDs K μ H ds vs → RDs K (μ.hide p) (upd H p o) ds vs
  | [], _, h => by cases h; exact .nil
  | d :: ds, _, h => by
    cases h with
    | cons h1 h2 => exact .cons (RD.hide hp d _ h1) (RDs.hide hp ds _ h2)
end
mutual
/-- the hidden list changes: nobody sees it -/
theorem RD.seen {p : Addr} {xs ys : List V} (hp : H p = some (.lst xs)) : ∀ (d : D) (v : V), RD K (μ.hide p) H d v → RD K (μ.hide p) (upd H p (.lst ys)) d v
  | .non, _, h => by cases h; exact .non
  | .bl _, _, h => by cases h; exact .bl _
  | .int _, _, h => by cases h; exact .int _
  | .str _, _, h => by cases h; exact .str _
  | .tup ds, _, h => by
    cases h with
    | tup h1 h2 =>
      refine .tup ?_ (RDs.seen hp ds _ h2)
      rcases h1 with (h1 | ⟨o, h1⟩) | h1
      · exact .inl (.inl (by rw [upd_ne (ne_of h1 hp (fun z => nomatch z))]; exact h1))
      · exact .inl (.inr ⟨o, by rw [upd_ne (ne_of h1 hp (fun z => nomatch z))]; exact h1⟩)
      · exact .inr h1
  | .fl ds, _, h => by
    cases h with
    | fl h1 h2 =>
      refine .fl ?_ (RDs.seen hp ds _ h2)
      rcases h1 with ⟨o, h1⟩ | h1
      · exact .inl ⟨o, by rw [upd_ne (ne_of h1 hp (fun z => nomatch z))]; exact h1⟩
      · exact .inr h1
  | .lst ds, _, h => by
    cases h with
    | lst h1 h0 h2 =>
      refine .lst (by rw [upd_ne (fun z => h0.2 (by rw [z]; exact List.mem_cons_self))]; exact h1) h0 (RDs.seen hp ds _ h2)
  | .ref n, _, h => by
    cases h with
    | ref h1 => exact .ref h1
theorem RDs.seen {p : Addr} {xs ys : List V} (hp : H p = some (.lst xs)) : ∀ (ds : List D) (vs : List V), RDs K (μ.hide p) H ds vs → RDs K (μ.hide p) (upd H p (.lst ys)) ds vs
  | [], _, h => by cases h; exact .nil
  | d :: ds, _, h => by
    cases h with
    | cons h1 h2 => exact .cons (RD.seen hp d _ h1) (RDs.seen hp ds _ h2)
end
mutual
theorem RD.show {p : Addr} : ∀ (d : D) (v : V), RD K (μ.hide p) H d v → RD K μ H d v
  | .non, _, h => by cases h; exact .non
  | .bl _, _, h => by cases h; exact .bl _
  | .int _, _, h => by cases h; exact .int _
  | .str _, _, h => by cases h; exact .str _
  | .tup ds, _, h => by cases h with | tup h1 h2 => exact .tup h1 (RDs.show ds _ h2)
  | .fl ds, _, h => by cases h with | fl h1 h2 => exact .fl h1 (RDs.show ds _ h2)
  | .lst ds, _, h => by cases h with | lst h1 h0 h2 => exact .lst h1 ⟨h0.1, fun z => h0.2 (List.mem_cons_of_mem _ z)⟩ (RDs.show ds _ h2)
  | .ref n, _, h => by cases h with | ref h1 => exact .ref h1
theorem RDs.show {p : Addr} : ∀ (ds : List D) (vs : List V), RDs K (μ.hide p) H ds vs → RDs K μ H ds vs
  | [], _, h => by cases h; exact .nil
  | d :: ds, _, h => by
    cases h with
    | cons h1 h2 => exact .cons (RD.show d _ h1) (RDs.show ds _ h2)
end
theorem RM.map {μ' : Mu} {H' : Hp} {a : Addr} {m : MO} (h : RM K μ H a m) (e : H' a = H a) (f : ∀ d v, RD K μ H d v → RD K μ' H' d v) (fs : ∀ d v, RDs K μ H d v → RDs K μ' H' d v) : RM K μ' H' a m := by
  cases m with
  | lst ds => obtain ⟨vs, q, z⟩ := h; exact ⟨vs, e.trans q, fs _ _ z⟩
  | dct kvs => obtain ⟨ws, q, z⟩ := h; exact ⟨ws, e.trans q, Paired.mapP z fun p q z => ⟨z.1, f _ _ z.2⟩⟩
theorem Rel.hide {p : Addr} {o : HO} (r : Rel K μ S H) (hp : H p = none) : Rel K (μ.hide p) S (upd H p o) := by
  refine ⟨r.len, r.nd, fun i a m h1 h2 => (r.obj i a m h1 h2).map (upd_ne fun z => ?_) (RD.hide hp) (RDs.hide hp), fun a ha => ?_, fun a ha hx => ?_⟩
  · subst z; exact r.there (List.mem_of_getElem? h1) hp
  · rcases List.mem_cons.mp ha with z | z
    · rw [z, upd_same]; simp
    · exact (Stp.new (μ := μ) hp).thr a (r.hid a z)
  · rcases List.mem_cons.mp hx with z | z
    · subst z; exact r.there ha hp
    · exact r.apt a ha z
theorem Rel.seen {p : Addr} {xs ys : List V} (r : Rel K (μ.hide p) S H) (hp : H p = some (.lst xs)) : Rel K (μ.hide p) S (upd H p (.lst ys)) := by
  refine ⟨r.len, r.nd, fun i a m h1 h2 => (r.obj i a m h1 h2).map (upd_ne fun z => ?_) (RD.seen hp) (RDs.seen hp), fun a ha => ?_, r.apt⟩
  · exact r.apt a (List.mem_of_getElem? h1) (by rw [z]; exact List.mem_cons_self)
  · by_cases z : a = p
    · rw [z, upd_same]; simp
    · rw [upd_ne z]; exact r.hid a ha
theorem Rel.show {p : Addr} (r : Rel K (μ.hide p) S H) : Rel K μ S H :=
  ⟨r.len, r.nd, fun i a m h1 h2 => (r.obj i a m h1 h2).map rfl RD.show RDs.show, fun a ha => r.hid a (List.mem_cons_of_mem _ ha), fun a ha hx => r.apt a ha (List.mem_cons_of_mem _ hx)⟩
/-- a step beside the hidden list is a step -/
theorem Stp.show {μ' : Mu} {p : Addr} {H' : Hp} (s : Stp (μ.hide p) H μ' H') : ∃ μ1, μ' = μ1.hide p ∧ Stp μ H μ1 H' := by
  obtain ⟨⟨ν, rfl, f⟩, k, t⟩ := s
  exact ⟨⟨μ.v ++ ν, μ.x⟩, rfl, ⟨ν, rfl, f⟩, k, t⟩
end

/-! ### slots -/
structure RE (K : PySem.W.Frag) (μ : Mu) (H : Hp) (σ : L2.St) (ρ : Rho) : Prop where
  len : σ.length = ρ.length
  val : ∀ (i : Nat) (d : D), ρ[i]? = some (some d) → ∃ v, σ[i]? = some (some v) ∧ RD K μ H d v
section
variable {K : PySem.W.Frag} {μ μ' : Mu} {S : Sto} {H H' : Hp} {σ : L2.St} {ρ : Rho}
theorem RE.step (h : RE K μ H σ ρ) (r : Rel K μ S H) (s : Stp μ H μ' H') : RE K μ' H' σ ρ := ⟨h.len, fun i d e => by
  obtain ⟨v, e1, z⟩ := h.val i d e
  exact ⟨v, e1, z.step r s⟩⟩
theorem RE.set {d : D} {v : V} (h : RE K μ H σ ρ) (z : RD K μ H d v) (i : Nat) : RE K μ H (σ.set i (some v)) (ρ.set i (some d)) := by
  refine ⟨by simp [h.len], fun j e q => ?_⟩
  by_cases hij : i = j
  · subst hij
    by_cases hl : i < ρ.length
    · rw [List.getElem?_set_self hl] at q
      cases q
      exact ⟨v, List.getElem?_set_self (by rw [h.len]; exact hl), z⟩
    · rw [List.getElem?_eq_none (by simpa using hl)] at q; cases q
  · rw [List.getElem?_set_ne hij] at q ⊢
    exact h.val j e q
def wipeR (ρ : Rho) : List Nat → Rho
  | [] => ρ
  | v :: vs => (wipeR ρ vs).set v none
theorem RE.drop {i : Nat} (h : RE K μ H σ ρ) : RE K μ H (σ.set i none) (ρ.set i none) := by
  refine ⟨by simp [h.len], fun j e q => ?_⟩
  by_cases hij : i = j
  · subst hij
    by_cases hl : i < ρ.length
    · rw [List.getElem?_set_self hl] at q; cases q
    · rw [List.getElem?_eq_none (by simpa using hl)] at q; cases q
  · rw [List.getElem?_set_ne hij] at q ⊢
    exact h.val j e q
theorem RE.wipe (h : RE K μ H σ ρ) : ∀ vs, RE K μ H (L2.wipe σ vs) (wipeR ρ vs)
  | [] => h
  | v :: vs => by unfold L2.wipe wipeR; exact (RE.wipe h vs).drop
end

theorem RE.mapR {K : PySem.W.Frag} {μ μ' : Mu} {H H' : Hp} {σ : L2.St} {ρ : Rho} (h : RE K μ H σ ρ) (f : ∀ d v, RD K μ H d v → RD K μ' H' d v) : RE K μ' H' σ ρ := ⟨h.len, fun i d e => by
  obtain ⟨v, e1, z⟩ := h.val i d e
  exact ⟨v, e1, f _ _ z⟩⟩

/-! ### what is wanted of a result -/
section
variable (K : PySem.W.Frag) (mg : Str → Option Value) (W : WX)
def Post {α : Type} (μ : Mu) (σ : L2.St) (H : Hp) (r : R α) (Q : α → Mu → Hp → Prop) : Prop := match r with
  | .ok a S' => ∀ μ' H', Stp μ H μ' H' → Rel K μ' S' H' → Q a μ' H'
  | .ex e S' => ∀ μ' H' c od, Stp μ H μ' H' → Rel K μ' S' H' → RX K mg μ' H' e c od → W c od σ H'
  | .bad => False
abbrev EvD := Rho → M D
abbrev EvB := Rho → M Bool
abbrev EvL := Rho → M (List D)
def QD (Q : VK) : D → Mu → Hp → Prop := fun d μ' H' => ∀ v, RD K μ' H' d v → Q v H'
def tD (F : EvD) : TE := fun σ H Q => ∃ ρ S μ, RE K μ H σ ρ ∧ Rel K μ S H ∧ Post K mg W μ σ H (F ρ S) (QD K Q)
def tT (F : EvB) : TT := fun σ H Q => ∃ ρ S μ, RE K μ H σ ρ ∧ Rel K μ S H ∧ Post K mg W μ σ H (F ρ S) (fun b _ H' => Q b H')
def tA (F : EvL) : TA := fun σ H Q => ∃ ρ S μ, RE K μ H σ ρ ∧ Rel K μ S H ∧ Post K mg W μ σ H (F ρ S) (fun ds μ' H' => ∀ vs, RDs K μ' H' ds vs → Q vs H')
end
section
variable {K : PySem.W.Frag} {mg : Str → Option Value} {W : WX} {μ μ1 : Mu} {σ : L2.St} {H H1 : Hp} {α β : Type}
theorem Post.mono {r : R α} {Q : α → Mu → Hp → Prop} (h : Post K mg W μ σ H r Q) (s : Stp μ H μ1 H1) : Post K mg W μ1 σ H1 r Q := by
  cases r with
  | ok a S => exact fun μ' H' q => h μ' H' (s.trans q)
  | ex e S => exact fun μ' H' c od q => h μ' H' c od (s.trans q)
  | bad => exact h
theorem Post.imp {r : R α} {Q Q' : α → Mu → Hp → Prop} (h : Post K mg W μ σ H r Q) (f : ∀ a S' μ' H', r = .ok a S' → Stp μ H μ' H' → Rel K μ' S' H' → Q a μ' H' → Q' a μ' H') : Post K mg W μ σ H r Q' := by
  cases r with
  | ok a S => exact fun μ' H' s q => f a S μ' H' rfl s q (h μ' H' s q)
  | ex e S => exact h
  | bad => exact h
theorem Post.bnd {m : M α} {k : α → M β} {S : Sto} {Q : β → Mu → Hp → Prop} {Q1 : α → Mu → Hp → Prop} (h : Post K mg W μ σ H (bnd m k S) Q)
    (f : ∀ a S1 μ1 H1, Stp μ H μ1 H1 → Rel K μ1 S1 H1 → Post K mg W μ1 σ H1 (k a S1) Q → Q1 a μ1 H1) : Post K mg W μ σ H (m S) Q1 := by
  unfold DL.bnd at h
  cases e : m S with
  | ok a S1 =>
    rw [e] at h
    intro μ' H' s r
    exact f a S1 μ' H' s r (Post.mono h s)
  | ex x S1 => rw [e] at h; exact h
  | bad => rw [e] at h; exact h
/-- a result that is there -/
theorem Post.now {a : α} {S : Sto} {Q : α → Mu → Hp → Prop} (h : Post K mg W μ σ H (.ok a S) Q) (r : Rel K μ S H) : Q a μ H := h μ H .refl r
end
theorem PE.imp {X : Cx} {e : Expr} {t t' : TE} (h : PE X e t) (f : ∀ σ H Q, t' σ H Q → t σ H Q) : PE X e t' := ⟨fun pins s σ H Q I q => h.run pins s σ H Q I (f σ H Q q)⟩
theorem PT.imp {X : Cx} {e : Expr} {t t' : TT} (h : PT X e t) (f : ∀ σ H Q, t' σ H Q → t σ H Q) : PT X e t' := ⟨fun pins s σ H Q I q => h.run pins s σ H Q I (f σ H Q q)⟩
theorem PW.imp {X : Cx} {e : Expr} {t t' : TT} (h : PW X e t) (f : ∀ σ H Q, t' σ H Q → t σ H Q) : PW X e t' := ⟨fun w pins s σ H Q I q => h.run w pins s σ H Q I (f σ H Q q)⟩
theorem PA.imp {X : Cx} {e : List Expr} {t t' : TA} (h : PA X e t) (f : ∀ σ H Q, t' σ H Q → t σ H Q) : PA X e t' := ⟨fun p pins s σ H Q I q => h.run p pins s σ H Q I (f σ H Q q)⟩
theorem PS.imp {X : Cx} {e : Stmt} {t t' : TS} (h : PS X e t) (f : ∀ D σ H, t' D σ H → t D σ H) : PS X e t' := ⟨fun pins s σ H D I q => h.run pins s σ H D I (f D σ H q)⟩
theorem PSs.imp {X : Cx} {e : List Stmt} {t t' : TS} (h : PSs X e t) (f : ∀ D σ H, t' D σ H → t D σ H) : PSs X e t' := ⟨fun pins s σ H D I q => h.run pins s σ H D I (f D σ H q)⟩
end DL

/-! DL2: expressions. -/
namespace DL
open PySem L2

/-! ### readers -/
def atL (S : Sto) (n : Nat) : Option (List D) := match S[n]? with
  | some (.lst ds) => some ds
  | _ => none
theorem atL_ok {S : Sto} {n : Nat} {ds : List D} (h : atL S n = some ds) : S[n]? = some (.lst ds) := by
  unfold atL at h
  split at h
  · rename_i hs; cases h; exact hs
  · cases h
def iLst (S : Sto) : D → Option (List D)
  | .tup ds => some ds
  | .lst ds => some ds
  | .fl ds => some ds
  | .ref n => atL S n
  | _ => none
/-- a list that the heap tracks as one -/
def iTrk (S : Sto) : D → Option (List D)
  | .lst ds => some ds
  | .ref n => atL S n
  | _ => none
/-- a list, not a tuple -/
def iSeq (S : Sto) : D → Option (List D)
  | .lst ds => some ds
  | .fl ds => some ds
  | .ref n => atL S n
  | _ => none
section
variable {K : PySem.W.Frag} {μ μ' : Mu} {S : Sto} {H H' : Hp}
theorem iTrk_ok {d : D} {ds : List D} {v : V} (e : iTrk S d = some ds) (r : Rel K μ S H) (h : RD K μ H d v) : ∃ a vs, v = .ref a ∧ H a = some (.lst vs) ∧ RDs K μ H ds vs := by
  cases h with
  | lst h1 h0 h2 => cases e; exact ⟨_, _, rfl, h1, h2⟩
  | @ref n a h1 =>
    obtain ⟨vs, q, z⟩ := r.obj n a _ h1 (atL_ok (show atL S n = some ds from e))
    exact ⟨a, vs, rfl, q, z⟩
  | _ => cases e
theorem iSeq_ok {d : D} {ds : List D} {v : V} (e : iSeq S d = some ds) (r : Rel K μ S H) (h : RD K μ H d v) : ∃ a vs, v = .ref a ∧ SqL K H a vs ∧ RDs K μ H ds vs := by
  cases h with
  | lst h1 h0 h2 => cases e; exact ⟨_, _, rfl, (.inl (.inl h1)), h2⟩
  | fl h1 h2 =>
    cases e
    rcases h1 with ⟨o, h1⟩ | h1
    · exact ⟨_, _, rfl, (.inl (.inr ⟨o, h1⟩)), h2⟩
    · exact ⟨_, _, rfl, (.inr h1), h2⟩
  | @ref n a h1 =>
    obtain ⟨vs, q, z⟩ := r.obj n a _ h1 (atL_ok (show atL S n = some ds from e))
    exact ⟨a, vs, rfl, .inl (.inl q), z⟩
  | _ => cases e
theorem iLst_ok {d : D} {ds : List D} {v : V} (e : iLst S d = some ds) (r : Rel K μ S H) (h : RD K μ H d v) : ∃ a vs, v = .ref a ∧ (SqL K H a vs ∨ SqT K H a vs) ∧ RDs K μ H ds vs := by
  cases d with
  | tup ds' => cases h with | tup h1 h2 => cases e; exact ⟨_, _, rfl, .inr h1, h2⟩
  | lst ds' => obtain ⟨a, vs, q1, q2, q3⟩ := iSeq_ok (d := .lst ds') e r h; exact ⟨a, vs, q1, .inl q2, q3⟩
  | fl ds' => obtain ⟨a, vs, q1, q2, q3⟩ := iSeq_ok (d := .fl ds') e r h; exact ⟨a, vs, q1, .inl q2, q3⟩
  | ref n => obtain ⟨a, vs, q1, q2, q3⟩ := iSeq_ok (d := .ref n) e r h; exact ⟨a, vs, q1, .inl q2, q3⟩
  | _ => cases e
end

/-! ### names, constants -/
def eVar (i : Nat) : EvD := fun ρ S => match ρ[i]? with
  | some (some d) => .ok d S
  | _ => .bad
def eC (d : D) : EvD := fun _ S => .ok d S
def eBin (g : D → D → M D) (a b : EvD) : EvD := fun ρ => bnd (a ρ) fun x => bnd (b ρ) fun y => g x y
def eUn (g : D → M D) (a : EvD) : EvD := fun ρ => bnd (a ρ) g
section
variable {X : Cx} {W : WX} {pos : Pos}
theorem d_var (i : Nat) {x : Str} (hN : X.N[i]? = some x := by rfl) (hv : Vis X.env.scope x := by first | exact Or.inl rfl | exact Or.inr (Or.inl rfl) | exact Or.inr (Or.inr rfl)) (hd : (x == ("__debug__" : Str)) = false := by decide)
    (hcd : (x == ("__classdict__" : Str)) = false := by decide) : PE X (.Name x pos) (tD X.K X.mg W (eVar i)) := by
  refine PE.imp (pe_var hN hv hd hcd) fun σ H Q ⟨ρ, S, μ, e, s, h⟩ => ?_
  unfold eVar at h
  split at h
  · rename_i d hd
    obtain ⟨v, e1, z⟩ := e.val i d hd
    exact ⟨v, e1, h.now s v z⟩
  · exact h.elim
theorem d_const {e : Expr} {d : D} {v : V} (h : PE X e (tC v)) (hd : ∀ μ H, RD X.K μ H d v) : PE X e (tD X.K X.mg W (eC d)) :=
  PE.imp h fun σ H Q ⟨ρ, S, μ, e, s, h⟩ => h.now s v (hd μ H)
theorem d_int {i j} : PE X (.Constant (.int i) j pos) (tD X.K X.mg W (eC (.int i))) := d_const pe_int fun _ _ => .int i
theorem d_bl {i j} : PE X (.Constant (.bool i) j pos) (tD X.K X.mg W (eC (.bl i))) := d_const pe_bl fun _ _ => .bl i
theorem d_str {i j} : PE X (.Constant (.str i) j pos) (tD X.K X.mg W (eC (.str i))) := d_const pe_str fun _ _ => .str i
theorem d_non {j} : PE X (.Constant .none j pos) (tD X.K X.mg W (eC .non)) := d_const pe_non fun _ _ => .non
theorem d_glob {x : Str} {d : D} {v : V} {u : Value} (hg : Gl X x) (hm : X.mg x = some u) (r : RelV v u) (hd : ∀ μ H, RD X.K μ H d v) (hdb : (x == ("__debug__" : Str)) = false := by decide) : PE X (.Name x pos) (tD X.K X.mg W (eC d)) :=
  d_const (pe_glob hg hm r hdb) hd

/-! ### operations -/
def ORD (X : Cx) (W : WX) (f : Value → Value → Sem Value) (g : D → D → M D) : Prop := ∃ r : R2, OpR X f r ∧
  ∀ x y v w μ S σ H Q, Rel X.K μ S H → RD X.K μ H x v → RD X.K μ H y w → Post X.K X.mg W μ σ H (g x y S) (QD X.K Q) → r v w H Q
theorem bin_ok {r : R2} {g : D → D → M D} {ta tb : EvD} {σ : L2.St} {H : Hp} {Q : VK} (hr : ∀ x y v w μ S σ H Q, Rel X.K μ S H → RD X.K μ H x v → RD X.K μ H y w → Post X.K X.mg W μ σ H (g x y S) (QD X.K Q) → r v w H Q)
    (h : tD X.K X.mg W (eBin g ta tb) σ H Q) : tOp r (tD X.K X.mg W ta) (tD X.K X.mg W tb) σ H Q := by
  obtain ⟨ρ, S, μ, e, s, h⟩ := h
  refine ⟨ρ, S, μ, e, s, h.bnd fun x S1 μ1 H1 s1 r1 h1 v rv => ?_⟩
  refine ⟨ρ, S1, μ1, e.step s s1, r1, h1.bnd fun y S2 μ2 H2 s2 r2 h2 w rw => ?_⟩
  exact hr _ _ _ _ μ2 S2 σ H2 Q r2 (rv.step r1 s2) rw h2
theorem d_bin {a b : Expr} {op : Operator} {g : D → D → M D} {ta tb : EvD} (o : ORD X W (binaryOp op) g) (ha : PE X a (tD X.K X.mg W ta)) (hb : PE X b (tD X.K X.mg W tb)) : PE X (.BinOp a op b pos) (tD X.K X.mg W (eBin g ta tb)) := by
  obtain ⟨r, ho, hr⟩ := o
  exact PE.imp (pe_op ho ha hb) fun σ H Q h => bin_ok hr h
theorem d_cmp {a b : Expr} {op : CmpOp} {g : D → D → M D} {ta tb : EvD} (o : ORD X W (compareOp op) g) (ha : PE X a (tD X.K X.mg W ta)) (hb : PE X b (tD X.K X.mg W tb)) (hm : behindInMarks op b = false) : PE X (.Compare a [op] [b] pos) (tD X.K X.mg W (eBin g ta tb)) := by
  obtain ⟨r, ho, hr⟩ := o
  exact PE.imp (pe_cmpR ho ha hb hm) fun σ H Q h => bin_ok hr h
def URD (X : Cx) (W : WX) (f : Value → Sem Value) (g : D → M D) : Prop := ∃ r, UnR X f r ∧
  ∀ x v μ S σ H Q, Rel X.K μ S H → RD X.K μ H x v → Post X.K X.mg W μ σ H (g x S) (QD X.K Q) → r v H Q
theorem d_un {a : Expr} {op : UnaryOp} {g : D → M D} {ta : EvD} (o : URD X W (unaryOp op) g) (ha : PE X a (tD X.K X.mg W ta)) : PE X (.UnaryOp op a pos) (tD X.K X.mg W (eUn g ta)) := by
  obtain ⟨r, ho, hr⟩ := o
  refine PE.imp (pe_un ho ha) fun σ H Q ⟨ρ, S, μ, e, s, h⟩ => ?_
  exact ⟨ρ, S, μ, e, s, h.bnd fun x S1 μ1 H1 s1 r1 h1 v rv => hr _ _ μ1 S1 σ H1 Q r1 rv h1⟩

/-! arithmetic -/
def gAdd (x y : D) : M D := fun S => match x, y with
  | .int i, .int j => .ok (.int (i + j)) S
  | .str a, .str b => if a.length + b.length ≤ sizeLine then .ok (.str (a ++ b)) S else .bad
  | .tup a, .tup b => if a.length + b.length ≤ sizeLine then .ok (.tup (a ++ b)) S else .bad
  | x, y => match iTrk S x, iTrk S y with
    | some a, some b => if a.length + b.length ≤ sizeLine then .ok (.lst (a ++ b)) S else .bad
    | _, _ => .bad
theorem o_add : ORD X W (binaryOp .Add) gAdd := by
  refine ⟨_, op_add.or (op_add_str.or (op_catA.or op_cat)), fun x y v w μ S σ H Q r rx ry h => ?_⟩
  unfold gAdd at h
  split at h
  · cases rx; cases ry
    exact .inl ⟨_, _, rfl, rfl, h.now r _ (.int _)⟩
  · cases rx; cases ry
    split at h
    · rename_i hl
      exact .inr (.inl ⟨_, _, rfl, rfl, hl, h.now r _ (.str _)⟩)
    · exact h.elim
  · cases rx with
    | @tup a1 vs1 ds1 h1 h2 =>
      cases ry with
      | @tup a2 vs2 ds2 g1 g2 =>
        split at h
        · rename_i hl
          rw [h2.length, g2.length] at hl
          refine .inr (.inr (.inl ⟨_, _, _, _, rfl, rfl, h1, g1, hl, fun e => ?_, fun e1 e2 => ?_, fun e1 e2 p hp => ?_⟩))
          · subst e
            cases h2
            exact h.now r _ (.tup g1 g2)
          · subst e2
            cases g2
            exact h.now r _ (.tup h1 (by simpa using h2))
          · exact h μ _ (Stp.new hp) (r.new hp) _ (.tup (.inl (.inl upd_same)) ((h2.step r (Stp.new hp)).append (g2.step r (Stp.new hp))))
        · exact h.elim
  · split at h
    · rename_i a b ea eb
      split at h
      · rename_i hl
        obtain ⟨p1, v1, rfl, q1, z1⟩ := iTrk_ok ea r rx
        obtain ⟨p2, v2, rfl, q2, z2⟩ := iTrk_ok eb r ry
        rw [z1.length, z2.length] at hl
        refine .inr (.inr (.inr ⟨_, _, _, _, rfl, rfl, q1, q2, hl, fun p hp => ?_⟩))
        exact h μ _ (Stp.new hp) (r.new hp) _ (.lst upd_same ⟨fun z => r.there z hp, fun z => r.hid _ z hp⟩ ((z1.step r (Stp.new hp)).append (z2.step r (Stp.new hp))))
      · exact h.elim
    · exact h.elim
def gI (C : Int → Int → Bool) (f : Int → Int → Int) (x y : D) : M D := fun S => match x, y with
  | .int i, .int j => if C i j then .ok (.int (f i j)) S else .bad
  | _, _ => .bad
theorem o_int {f : Value → Value → Sem Value} {C : Int → Int → Bool} {CP : Int → Int → Prop} {k : Int → Int → Int} (ho : OpR X f (rI CP fun i j => .int (k i j))) (hC : ∀ i j, C i j = true → CP i j) : ORD X W f (gI C k) := by
  refine ⟨_, ho, fun x y v w μ S σ H Q r rx ry h => ?_⟩
  unfold gI at h
  split at h
  · cases rx; cases ry
    split at h
    · rename_i hc
      exact ⟨_, _, rfl, rfl, hC _ _ hc, h.now r _ (.int _)⟩
    · exact h.elim
  · exact h.elim
abbrev gSub := gI (fun _ _ => true) fun i j => i - j
theorem op_subC : OpR X (binaryOp .Sub) (rI (fun _ _ => True) fun i j => .int (i - j)) := fun pins s σ H x y v u Q I rx ry h => by
  obtain ⟨i, j, e1, e2, _, q⟩ := h
  exact op_sub pins s σ H x y v u Q I rx ry ⟨i, j, e1, e2, q⟩
theorem o_sub : ORD X W (binaryOp .Sub) gSub := o_int op_subC fun _ _ _ => trivial
/-- one factor below 2^64 -/
def cMul (i j : Int) : Bool := decide (i.natAbs < 18446744073709551616) || decide (j.natAbs < 18446744073709551616)
theorem cMul_ok {i j : Int} (h : cMul i j = true) : CMul i j := by
  unfold cMul at h
  simp only [Bool.or_eq_true, decide_eq_true_eq] at h
  unfold CMul
  omega
abbrev gMul := gI cMul fun i j => i * j
theorem o_mul : ORD X W (binaryOp .Mult) gMul := o_int op_mul fun _ _ h => cMul_ok h
def cDiv (_ j : Int) : Bool := decide (0 < j) && decide (j.natAbs.log2 < 9000)
abbrev gDiv := gI cDiv fun i j => i / j
theorem o_div : ORD X W (binaryOp .FloorDiv) gDiv := o_int op_fdivW fun _ _ h => by
  unfold cDiv at h
  simpa [CDivW] using h
abbrev gMod := gI (fun _ j => decide (0 < j)) fun i j => i % j
theorem o_mod : ORD X W (binaryOp .Mod) gMod := o_int op_mod fun _ _ h => by simpa using h
def cPow (i j : Int) : Bool := decide (0 ≤ j ∧ j ≤ 1000000) && decide (i.natAbs < 18446744073709551616)
abbrev gPow := gI cPow fun i j => i ^ j.toNat
theorem o_pow : ORD X W (binaryOp .Pow) gPow := o_int op_pow fun _ _ h => by
  unfold cPow at h
  simp only [Bool.and_eq_true, decide_eq_true_eq] at h
  exact ⟨h.1.1, h.1.2, h.2⟩
def gNeg (x : D) : M D := fun S => match x with
  | .int i => .ok (.int (-i)) S
  | _ => .bad
theorem o_neg : URD X W (unaryOp .USub) gNeg := by
  refine ⟨_, un_neg, fun x v μ S σ H Q r rx h => ?_⟩
  unfold gNeg at h
  split at h
  · cases rx
    exact ⟨_, rfl, h.now r _ (.int _)⟩
  · exact h.elim

/-! comparisons -/
def gC (f : Int → Int → Bool) (x y : D) : M D := fun S => match x, y with
  | .int i, .int j => .ok (.bl (f i j)) S
  | _, _ => .bad
theorem o_cmp {f : Value → Value → Sem Value} {k : Int → Int → Bool} (ho : OpR X f (rI0 fun i j => .bl (k i j))) : ORD X W f (gC k) := by
  refine ⟨_, ho, fun x y v w μ S σ H Q r rx ry h => ?_⟩
  unfold gC at h
  split at h
  · cases rx; cases ry
    exact ⟨_, _, rfl, rfl, h.now r _ (.bl _)⟩
  · exact h.elim
abbrev gLt := gC fun i j => decide (i < j)
abbrev gLe := gC fun i j => decide (i ≤ j)
abbrev gGt := gC fun i j => decide (j < i)
abbrev gGe := gC fun i j => decide (j ≤ i)
theorem o_lt : ORD X W (compareOp .Lt) gLt := o_cmp op_lt
theorem o_le : ORD X W (compareOp .LtE) gLe := o_cmp op_le
theorem o_gt : ORD X W (compareOp .Gt) gGt := o_cmp op_gt
theorem o_ge : ORD X W (compareOp .GtE) gGe := o_cmp op_ge

/-! == of data -/
end
mutual
def toPy : D → Option PyData
  | .non => some .none
  | .bl b => some (.bool b)
  | .int i => some (.int i)
  | .str x => some (.str x)
  | .tup ds => (toPys ds).map .tuple
  | .lst ds => (toPys ds).map .list
  | .fl ds => (toPys ds).map .list
  | .ref _ => none
def toPys : List D → Option (List PyData)
  | [] => some []
  | d :: ds => match toPy d, toPys ds with
    | some p, some ps => some (p :: ps)
    | _, _ => none
end
/-- .. a stored list at the top -/
def toPyS (S : Sto) : D → Option PyData
  | .ref n => match atL S n with
    | some ds => (toPys ds).map .list
    | none => none
  | d => toPy d
section
variable {K : PySem.W.Frag} {μ : Mu} {S : Sto} {H : Hp}
mutual
theorem toPy_ok : ∀ (d : D) (p : PyData) (v : V), toPy d = some p → RD K μ H d v → Dp K H v p
  | .non, _, _, e, h => by cases e; cases h; exact .non
  | .bl _, _, _, e, h => by cases e; cases h; exact .bl _
  | .int _, _, _, e, h => by cases e; cases h; exact .int _
  | .str _, _, _, e, h => by cases e; cases h; exact .str _
  | .tup ds, _, _, e, h => by
    simp only [toPy, Option.map_eq_some_iff] at e
    obtain ⟨ps, e, rfl⟩ := e
    cases h with
    | tup h1 h2 => exact .tup h1 (toPys_ok ds ps _ e h2)
  | .lst ds, _, _, e, h => by
    simp only [toPy, Option.map_eq_some_iff] at e
    obtain ⟨ps, e, rfl⟩ := e
    cases h with
    | lst h1 h0 h2 => exact .lst (.inl (.inl h1)) (toPys_ok ds ps _ e h2)
  | .fl ds, _, _, e, h => by
    simp only [toPy, Option.map_eq_some_iff] at e
    obtain ⟨ps, e, rfl⟩ := e
    cases h with
    | fl h1 h2 =>
      rcases h1 with ⟨o, h1⟩ | h1
      · exact .lst (.inl (.inr ⟨o, h1⟩)) (toPys_ok ds ps _ e h2)
      · exact .lst (.inr h1) (toPys_ok ds ps _ e h2)
  | .ref _, _, _, e, _ => by simp [toPy] at e
theorem toPys_ok : ∀ (ds : List D) (ps : List PyData) (vs : List V), toPys ds = some ps → RDs K μ H ds vs → DpAll K H vs ps
  | [], _, _, e, h => by cases h; simp [toPys] at e; subst e; exact .nil
  | d :: ds, ps, _, e, h => by
    cases h with
    | cons h1 h2 =>
      unfold toPys at e
      split at e
      · rename_i p ps' e1 e2
        cases e
        exact .cons (toPy_ok d p _ e1 h1) (toPys_ok ds ps' _ e2 h2)
      · cases e
end
theorem toPyS_ok {d : D} {p : PyData} {v : V} (e : toPyS S d = some p) (r : Rel K μ S H) (h : RD K μ H d v) : Dp K H v p := by
  cases d with
  | ref n =>
    unfold toPyS at e
    simp only at e
    split at e
    · rename_i ds hs
      simp only [Option.map_eq_some_iff] at e
      obtain ⟨ps, e, rfl⟩ := e
      cases h with
      | @ref _ a h1 =>
        obtain ⟨vs, q, z⟩ := r.obj n a _ h1 (atL_ok hs)
        exact .lst (.inl (.inl q)) (toPys_ok ds ps _ e z)
    · cases e
  | _ => exact toPy_ok _ _ _ e h
end
/-- the answer of ==, where the model tells one -/
def eqD (S : Sto) (x y : D) : Option Bool := match x, y with
  | .str a, .str b => some (decide (a = b))
  | .int a, .int b => some (decide (a = b))
  | .bl a, .bl b => some (decide (a = b))
  | .non, .non => some true
  | .non, .int _ => some false
  | .int _, .non => some false
  | .non, .str _ => some false
  | .str _, .non => some false
  | .int _, .str _ => some false
  | .str _, .int _ => some false
  | x, y => match toPyS S x, toPyS S y with
    | some p, some q => if SeqAt.shaped p && SeqAt.shaped q then some (PyData.eqv p q) else none
    | _, _ => none
def gEq (x y : D) : M D := fun S => match eqD S x y with
  | some b => .ok (.bl b) S
  | none => .bad
def gNe (x y : D) : M D := fun S => match eqD S x y with
  | some b => .ok (.bl (!b)) S
  | none => .bad
theorem eqD_ok {K : PySem.W.Frag} {μ : Mu} {S : Sto} {H : Hp} {x y : D} {v w : V} {b : Bool} (e : eqD S x y = some b) (r : Rel K μ S H) (rx : RD K μ H x v) (ry : RD K μ H y w) :
    (scal v w = true ∧ b = decide (v = w)) ∨ ∃ p q, Dp K H v p ∧ Dp K H w q ∧ SeqAt.shaped p = true ∧ SeqAt.shaped q = true ∧ b = PyData.eqv p q := by
  unfold eqD at e
  split at e
  iterate 10 (· cases rx; cases ry; cases e; refine .inl ⟨rfl, ?_⟩; first | rfl | (simp; done))
  split at e
  · rename_i p q hp hq
    split at e
    · rename_i hs
      simp only [Bool.and_eq_true] at hs
      cases e
      exact .inr ⟨p, q, toPyS_ok hp r rx, toPyS_ok hq r ry, hs.1, hs.2, rfl⟩
    · cases e
  · cases e
section
variable {X : Cx} {W : WX} {pos : Pos}
theorem o_eq (hu : X.A.units + 64 < cLine) : ORD X W (compareOp .Eq) gEq := by
  refine ⟨_, op_eq.or (op_eqD hu), fun x y v w μ S σ H Q r rx ry h => ?_⟩
  unfold gEq at h
  split at h
  · rename_i b e
    rcases eqD_ok e r rx ry with ⟨z, rfl⟩ | ⟨p, q, h1, h2, h3, h4, rfl⟩
    · exact .inl ⟨z, h.now r _ (.bl _)⟩
    · exact .inr ⟨p, q, h1, h2, h3, h4, h.now r _ (.bl _)⟩
  · exact h.elim
theorem o_ne (hu : X.A.units + 64 < cLine) : ORD X W (compareOp .NotEq) gNe := by
  refine ⟨_, op_ne.or (op_neD hu), fun x y v w μ S σ H Q r rx ry h => ?_⟩
  unfold gNe at h
  split at h
  · rename_i b e
    rcases eqD_ok e r rx ry with ⟨z, rfl⟩ | ⟨p, q, h1, h2, h3, h4, rfl⟩
    · exact .inl ⟨z, h.now r _ (.bl _)⟩
    · exact .inr ⟨p, q, h1, h2, h3, h4, h.now r _ (.bl _)⟩
  · exact h.elim

/-! is None, is True -/
def gIs (x y : D) : M D := fun S => match x, y with
  | .bl a, .bl b => .ok (.bl (decide (a = b))) S
  | .non, .non => .ok (.bl true) S
  | _, .non => .ok (.bl false) S
  | _, _ => .bad
def gIsNot (x y : D) : M D := fun S => match x, y with
  | .bl a, .bl b => .ok (.bl (!decide (a = b))) S
  | .non, .non => .ok (.bl false) S
  | _, .non => .ok (.bl true) S
  | _, _ => .bad
theorem o_is : ORD X W (compareOp .Is) gIs := by
  refine ⟨_, op_isBl.or op_isN, fun x y v w μ S σ H Q r rx ry h => ?_⟩
  unfold gIs at h
  split at h
  · cases rx; cases ry
    exact .inl ⟨_, _, rfl, rfl, h.now r _ (.bl _)⟩
  · cases rx; cases ry
    exact .inr ⟨rfl, by simpa using h.now r _ (.bl _)⟩
  · rename_i hx
    cases ry
    have : decide (v = V.non) = false := by
      cases rx <;> first | rfl | exact absurd rfl (by assumption)
    exact .inr ⟨rfl, by rw [this]; exact h.now r _ (.bl _)⟩
  · exact h.elim
theorem o_isnot : ORD X W (compareOp .IsNot) gIsNot := by
  refine ⟨_, op_notBl.or op_notN, fun x y v w μ S σ H Q r rx ry h => ?_⟩
  unfold gIsNot at h
  split at h
  · cases rx; cases ry
    exact .inl ⟨_, _, rfl, rfl, h.now r _ (.bl _)⟩
  · cases rx; cases ry
    exact .inr ⟨rfl, by simpa using h.now r _ (.bl _)⟩
  · rename_i hx
    cases ry
    have : decide (v = V.non) = false := by
      cases rx <;> first | rfl | exact absurd rfl (by assumption)
    exact .inr ⟨rfl, by rw [this]; exact h.now r _ (.bl _)⟩
  · exact h.elim

/-! in -/
def flatD : D → Option V
  | .non => some .non
  | .bl b => some (.bl b)
  | .int i => some (.int i)
  | .str x => some (.str x)
  | _ => none
def flatDs : List D → Option (List V)
  | [] => some []
  | d :: ds => match flatD d, flatDs ds with
    | some v, some vs => some (v :: vs)
    | _, _ => none
theorem flatD_ok {K : PySem.W.Frag} {μ : Mu} {H : Hp} {d : D} {v w : V} (e : flatD d = some w) (h : RD K μ H d v) : v = w ∧ flatV w = true := by
  cases h <;> first | (cases e; exact ⟨rfl, rfl⟩) | cases e
theorem flatDs_ok {K : PySem.W.Frag} {μ : Mu} {H : Hp} : ∀ {ds : List D} {vs ws : List V}, flatDs ds = some ws → RDs K μ H ds vs → vs = ws ∧ ws.all flatV = true
  | [], _, _, e, h => by cases h; cases e; exact ⟨rfl, rfl⟩
  | d :: ds, _, _, e, h => by
    cases h with
    | cons h1 h2 =>
      unfold flatDs at e
      split at e
      · rename_i v' vs' e1 e2
        cases e
        obtain ⟨rfl, f1⟩ := flatD_ok e1 h1
        obtain ⟨rfl, f2⟩ := flatDs_ok e2 h2
        exact ⟨rfl, by simp only [List.all_cons, f1, f2, Bool.and_self]⟩
      · cases e
/-- the answer of in -/
def inD (S : Sto) (x y : D) : Option Bool := match x, y with
  | .str a, .str b => some (!(Builtin.Str.occurrences b a 0 b.length 1).isEmpty)
  | x, y => match flatD x, (iLst S y).bind flatDs with
    | some v, some vs => some (inV v vs)
    | _, _ => none
def gIn (x y : D) : M D := fun S => match inD S x y with
  | some b => .ok (.bl b) S
  | none => .bad
def gNotIn (x y : D) : M D := fun S => match inD S x y with
  | some b => .ok (.bl (!b)) S
  | none => .bad
theorem inD_ok {K : PySem.W.Frag} {μ : Mu} {S : Sto} {H : Hp} {x y : D} {v w : V} {b : Bool} (e : inD S x y = some b) (r : Rel K μ S H) (rx : RD K μ H x v) (ry : RD K μ H y w) :
    (∃ i j, v = .str i ∧ w = .str j ∧ b = !(Builtin.Str.occurrences j i 0 j.length 1).isEmpty) ∨
    ∃ p xs, w = .ref p ∧ (SqL K H p xs ∨ SqT K H p xs) ∧ flatV v = true ∧ xs.all flatV = true ∧ b = inV v xs := by
  unfold inD at e
  split at e
  · cases rx; cases ry; cases e
    exact .inl ⟨_, _, rfl, rfl, rfl⟩
  · split at e
    · rename_i v' vs' e1 e2
      cases e
      rw [Option.bind_eq_some_iff] at e2
      obtain ⟨ds, e2, e3⟩ := e2
      obtain ⟨rfl, f1⟩ := flatD_ok e1 rx
      obtain ⟨a, us, rfl, q, z⟩ := iLst_ok e2 r ry
      obtain ⟨rfl, f2⟩ := flatDs_ok e3 z
      exact .inr ⟨a, _, rfl, q, f1, f2, rfl⟩
    · cases e
theorem o_in : ORD X W (compareOp .In) gIn := by
  refine ⟨_, op_in_str.or op_in_seq, fun x y v w μ S σ H Q r rx ry h => ?_⟩
  unfold gIn at h
  split at h
  · rename_i b e
    rcases inD_ok e r rx ry with ⟨i, j, rfl, rfl, rfl⟩ | ⟨p, xs, rfl, q, f1, f2, rfl⟩
    · exact .inl ⟨_, _, rfl, rfl, h.now r _ (.bl _)⟩
    · exact .inr ⟨_, _, rfl, q, f1, f2, h.now r _ (.bl _)⟩
  · exact h.elim
theorem o_notin : ORD X W (compareOp .NotIn) gNotIn := by
  refine ⟨_, op_notin_str.or op_notIn_seq, fun x y v w μ S σ H Q r rx ry h => ?_⟩
  unfold gNotIn at h
  split at h
  · rename_i b e
    rcases inD_ok e r rx ry with ⟨i, j, rfl, rfl, rfl⟩ | ⟨p, xs, rfl, q, f1, f2, rfl⟩
    · exact .inl ⟨_, _, rfl, rfl, h.now r _ (.bl _)⟩
    · exact .inr ⟨_, _, rfl, q, f1, f2, h.now r _ (.bl _)⟩
  · exact h.elim
end
end DL

/-! DL3: tests, displays, calls of built-ins, methods, subscripts, slices. -/
namespace DL
open PySem L2

def gTruth (d : D) : M Bool := fun S => match d with
  | .bl b => .ok b S
  | .non => .ok false S
  | .int i => .ok (i != 0) S
  | .str x => if x.length ≤ sizeLine then .ok ((x.length : Int) != 0) S else .bad
  | d => match iLst S d with
    | some ds => .ok (!ds.isEmpty) S
    | none => .bad
def asBl : D → M Bool
  | .bl b => ret b
  | _ => stuck
def eT (a : EvD) : EvB := fun ρ => bnd (a ρ) gTruth
def eTb (a : EvD) : EvB := fun ρ => bnd (a ρ) asBl
def bAnd (a b : EvB) : EvB := fun ρ => bnd (a ρ) fun c => if c = true then b ρ else ret false
def bOr (a b : EvB) : EvB := fun ρ => bnd (a ρ) fun c => if c = true then ret true else b ρ
def bNot (a : EvB) : EvB := fun ρ => bnd (a ρ) fun c => ret (!c)
def eIf (c : EvB) (a b : EvD) : EvD := fun ρ => bnd (c ρ) fun k => if k = true then a ρ else b ρ
def eAnd (a b : EvD) : EvD := fun ρ => bnd (a ρ) fun x => match x with
  | .bl true => b ρ
  | .bl false => ret (.bl false)
  | _ => stuck
def eOr (a b : EvD) : EvD := fun ρ => bnd (a ρ) fun x => match x with
  | .bl true => ret (.bl true)
  | .bl false => b ρ
  | _ => stuck
def eNot (a : EvD) : EvD := fun ρ => bnd (a ρ) fun x => match x with
  | .bl c => ret (.bl (!c))
  | _ => stuck
def aNil : EvL := fun _ => ret []
def aCons (a : EvD) (as : EvL) : EvL := fun ρ => bnd (a ρ) fun x => bnd (as ρ) fun xs => ret (x :: xs)
def eTup (as : EvL) : EvD := fun ρ => bnd (as ρ) fun ds S => if ds.length ≤ sizeLine then .ok (.tup ds) S else .bad
def eLst (as : EvL) : EvD := fun ρ => bnd (as ρ) fun ds S => if ds.length ≤ sizeLine then .ok (.lst ds) S else .bad
/-- a list that will change -/
def eLstM (as : EvL) : EvD := fun ρ => bnd (as ρ) fun ds S => if ds.length ≤ sizeLine then .ok (.ref S.length) (S ++ [.lst ds]) else .bad
def eCall (g : List D → M D) (as : EvL) : EvD := fun ρ => bnd (as ρ) g
/-- e1 < e2 < e3 -/
def eChain (g g' : D → D → M D) (a b c : EvD) : EvD := fun ρ => bnd (a ρ) fun x => bnd (b ρ) fun y => bnd (g x y) fun z => match z with
  | .bl true => bnd (c ρ) fun w => g' y w
  | .bl false => ret (.bl false)
  | _ => stuck

theorem new_ref {K : PySem.W.Frag} {μ : Mu} {S : Sto} {H H' : Hp} {p : Addr} (r : Rel K μ S H) : RD K (μ.push p) H' (.ref S.length) (.ref p) := .ref (by rw [← r.len]; simp [Mu.push])
section
variable {X : Cx} {W : WX} {pos : Pos}
theorem truth_ok {K : PySem.W.Frag} {mg : Str → Option Value} {μ : Mu} {S : Sto} {σ : L2.St} {H : Hp} {d : D} {v : V} {Q : Bool → Hp → Prop} (r : Rel K μ S H) (h : RD K μ H d v) (q : Post K mg W μ σ H (gTruth d S) (fun b _ H' => Q b H')) : ∃ k, TruV K v H k ∧ Q k H := by
  unfold gTruth at q
  split at q
  · cases h; exact ⟨_, rfl, q.now r⟩
  · cases h; exact ⟨_, rfl, q.now r⟩
  · cases h; exact ⟨_, rfl, q.now r⟩
  · cases h
    split at q
    · rename_i hl; exact ⟨_, ⟨hl, rfl⟩, q.now r⟩
    · exact q.elim
  · split at q
    · rename_i ds e
      obtain ⟨a, vs, rfl, qq, z⟩ := iLst_ok e r h
      have eq : (!ds.isEmpty) = !vs.isEmpty := by
        have := z.length
        cases ds <;> cases vs <;> simp_all
      refine ⟨_, ?_, q.now r⟩
      rcases qq with qq | qq
      · exact .inl ⟨vs, qq, eq⟩
      · exact .inr (.inl ⟨vs, qq, eq⟩)
    · exact q.elim
theorem t_truth {a : Expr} {ta : EvD} (ha : PE X a (tD X.K X.mg W ta)) (he : ∀ whole, isTrue a X.env whole = (do let v ← whole; standAt a.pos; holding [v] (truthy v)) := by intro _; rfl) : PT X a (tT X.K X.mg W (eT ta)) := by
  refine PT.imp (pt_truth ha he) fun σ H Q ⟨ρ, S, μ, e, s, h⟩ => ?_
  exact ⟨ρ, S, μ, e, s, h.bnd fun x S1 μ1 H1 s1 r1 h1 v rv => truth_ok r1 rv h1⟩
theorem asBl_ok {K : PySem.W.Frag} {mg : Str → Option Value} {μ : Mu} {S : Sto} {σ : L2.St} {H : Hp} {d : D} {v : V} {Q : Bool → Hp → Prop} (r : Rel K μ S H) (h : RD K μ H d v) (q : Post K mg W μ σ H (asBl d S) (fun b _ H' => Q b H')) : ∃ k, v = .bl k ∧ Q k H := by
  unfold asBl at q
  split at q
  · cases h; exact ⟨_, rfl, q.now r⟩
  · exact q.elim
theorem t_cmp {a b : Expr} {op : CmpOp} {g : D → D → M D} {ta tb : EvD} (o : ORD X W (compareOp op) g) (ha : PE X a (tD X.K X.mg W ta)) (hb : PE X b (tD X.K X.mg W tb)) (hm : behindInMarks op b = false) : PT X (.Compare a [op] [b] pos) (tT X.K X.mg W (eTb (eBin g ta tb))) := by
  obtain ⟨r, ho, hr⟩ := o
  refine PT.imp (pt_cmpR ho ha hb hm) fun σ H Q ⟨ρ, S, μ, e, s, h⟩ => ?_
  refine bin_ok hr ⟨ρ, S, μ, e, s, ?_⟩
  exact h.bnd fun x S1 μ1 H1 s1 r1 h1 v rv => asBl_ok r1 rv h1
theorem t_not {a : Expr} {ta : EvB} (ha : PT X a (tT X.K X.mg W ta)) : PT X (.UnaryOp .Not a pos) (tT X.K X.mg W (bNot ta)) := by
  refine PT.imp (pt_not ha) fun σ H Q ⟨ρ, S, μ, e, s, h⟩ => ?_
  exact ⟨ρ, S, μ, e, s, h.bnd fun x S1 μ1 H1 s1 r1 h1 => h1.now r1⟩
theorem w_one_and {a : Expr} {ta : EvB} (ha : PT X a (tT X.K X.mg W ta)) : PW X (.BoolOp .And [a] pos) (tT X.K X.mg W ta) := pw_and1 ha
theorem w_one_or {a : Expr} {ta : EvB} (ha : PT X a (tT X.K X.mg W ta)) : PW X (.BoolOp .Or [a] pos) (tT X.K X.mg W ta) := pw_or1 ha
theorem w_and {a b : Expr} {rest : List Expr} {ta tb : EvB} (ha : PT X a (tT X.K X.mg W ta)) (hb : PW X (.BoolOp .And (b :: rest) pos) (tT X.K X.mg W tb)) : PW X (.BoolOp .And (a :: b :: rest) pos) (tT X.K X.mg W (bAnd ta tb)) := by
  refine PW.imp (pw_and ha hb) fun σ H Q ⟨ρ, S, μ, e, s, h⟩ => ?_
  refine ⟨ρ, S, μ, e, s, h.bnd fun x S1 μ1 H1 s1 r1 h1 => ?_⟩
  cases x with
  | true => rw [if_pos rfl] at h1 ⊢; exact ⟨ρ, S1, μ1, e.step s s1, r1, h1⟩
  | false => rw [if_neg Bool.false_ne_true] at h1 ⊢; exact h1.now r1
theorem w_or {a b : Expr} {rest : List Expr} {ta tb : EvB} (ha : PT X a (tT X.K X.mg W ta)) (hb : PW X (.BoolOp .Or (b :: rest) pos) (tT X.K X.mg W tb)) : PW X (.BoolOp .Or (a :: b :: rest) pos) (tT X.K X.mg W (bOr ta tb)) := by
  refine PW.imp (pw_or ha hb) fun σ H Q ⟨ρ, S, μ, e, s, h⟩ => ?_
  refine ⟨ρ, S, μ, e, s, h.bnd fun x S1 μ1 H1 s1 r1 h1 => ?_⟩
  cases x with
  | true => rw [if_pos rfl] at h1 ⊢; exact h1.now r1
  | false => rw [if_neg Bool.false_ne_true] at h1 ⊢; exact ⟨ρ, S1, μ1, e.step s s1, r1, h1⟩
theorem d_ifExp {c a b : Expr} {tc : EvB} {ta tb : EvD} (hc : PT X c (tT X.K X.mg W tc)) (ha : PE X a (tD X.K X.mg W ta)) (hb : PE X b (tD X.K X.mg W tb)) : PE X (.IfExp c a b pos) (tD X.K X.mg W (eIf tc ta tb)) := by
  refine PE.imp (pe_ifExp hc ha hb) fun σ H Q ⟨ρ, S, μ, e, s, h⟩ => ?_
  refine ⟨ρ, S, μ, e, s, h.bnd fun x S1 μ1 H1 s1 r1 h1 => ?_⟩
  cases x with
  | true => rw [if_pos rfl] at h1 ⊢; exact ⟨ρ, S1, μ1, e.step s s1, r1, h1⟩
  | false => rw [if_neg Bool.false_ne_true] at h1 ⊢; exact ⟨ρ, S1, μ1, e.step s s1, r1, h1⟩
theorem d_one {op : BoolOp} {a : Expr} {ta : EvD} (ha : PE X a (tD X.K X.mg W ta)) : PE X (.BoolOp op [a] pos) (tD X.K X.mg W ta) := pe_one ha
theorem d_and {a b : Expr} {rest : List Expr} {ta tb : EvD} (ha : PE X a (tD X.K X.mg W ta)) (hb : PE X (.BoolOp .And (b :: rest) pos) (tD X.K X.mg W tb)) : PE X (.BoolOp .And (a :: b :: rest) pos) (tD X.K X.mg W (eAnd ta tb)) := by
  refine PE.imp (pe_and ha hb) fun σ H Q ⟨ρ, S, μ, e, s, h⟩ => ?_
  refine ⟨ρ, S, μ, e, s, h.bnd fun x S1 μ1 H1 s1 r1 h1 v rv => ?_⟩
  split at h1
  · cases rv; exact ⟨true, rfl, by rw [if_pos rfl]; exact ⟨ρ, S1, μ1, e.step s s1, r1, h1⟩⟩
  · cases rv; exact ⟨false, rfl, by rw [if_neg Bool.false_ne_true]; exact h1.now r1 _ (.bl _)⟩
  · exact h1.elim
theorem d_or {a b : Expr} {rest : List Expr} {ta tb : EvD} (ha : PE X a (tD X.K X.mg W ta)) (hb : PE X (.BoolOp .Or (b :: rest) pos) (tD X.K X.mg W tb)) : PE X (.BoolOp .Or (a :: b :: rest) pos) (tD X.K X.mg W (eOr ta tb)) := by
  refine PE.imp (pe_or ha hb) fun σ H Q ⟨ρ, S, μ, e, s, h⟩ => ?_
  refine ⟨ρ, S, μ, e, s, h.bnd fun x S1 μ1 H1 s1 r1 h1 v rv => ?_⟩
  split at h1
  · cases rv; exact ⟨true, rfl, by rw [if_pos rfl]; exact h1.now r1 _ (.bl _)⟩
  · cases rv; exact ⟨false, rfl, by rw [if_neg Bool.false_ne_true]; exact ⟨ρ, S1, μ1, e.step s s1, r1, h1⟩⟩
  · exact h1.elim
theorem d_not {a : Expr} {ta : EvD} (ha : PE X a (tD X.K X.mg W ta)) : PE X (.UnaryOp .Not a pos) (tD X.K X.mg W (eNot ta)) := by
  refine PE.imp (pe_not ha) fun σ H Q ⟨ρ, S, μ, e, s, h⟩ => ?_
  refine ⟨ρ, S, μ, e, s, h.bnd fun x S1 μ1 H1 s1 r1 h1 v rv => ?_⟩
  split at h1
  · cases rv; exact ⟨_, rfl, h1.now r1 _ (.bl _)⟩
  · exact h1.elim
theorem a_nil : PA X [] (tA X.K X.mg W aNil) := PA.imp pa_nil fun σ H Q ⟨ρ, S, μ, e, s, h⟩ => h.now s _ .nil
theorem a_cons {e : Expr} {es : List Expr} {te : EvD} {t : EvL} (ha : PE X e (tD X.K X.mg W te)) (hr : PA X es (tA X.K X.mg W t)) (hs : starEach (e :: es) X.env = (false, eval e X.env) :: starEach es X.env := by rfl) : PA X (e :: es) (tA X.K X.mg W (aCons te t)) := by
  refine PA.imp (pa_cons ha hr hs) fun σ H Q ⟨ρ, S, μ, e, s, h⟩ => ?_
  refine ⟨ρ, S, μ, e, s, h.bnd fun x S1 μ1 H1 s1 r1 h1 v rv => ?_⟩
  exact ⟨ρ, S1, μ1, e.step s s1, r1, h1.bnd fun xs S2 μ2 H2 s2 r2 h2 vs rvs => h2.now r2 _ (.cons (rv.step r1 s2) rvs)⟩
theorem d_tup {es : List Expr} {t : EvL} {k : Nat} (h : PA X es (tA X.K X.mg W t)) : PE X (.Tuple es k pos) (tD X.K X.mg W (eTup t)) := by
  refine PE.imp (pe_tup h) fun σ H Q ⟨ρ, S, μ, e, s, h⟩ => ?_
  refine ⟨ρ, S, μ, e, s, h.bnd fun xs S1 μ1 H1 s1 r1 h1 vs rvs => ?_⟩
  split at h1
  · rename_i hl
    exact ⟨by rw [← rvs.length]; exact hl, fun p hp => h1 μ1 _ (Stp.new hp) (r1.new hp) _ (.tup (.inl (.inl upd_same)) (rvs.step r1 (Stp.new hp)))⟩
  · exact h1.elim
theorem d_lst {es : List Expr} {t : EvL} (h : PA X es (tA X.K X.mg W t)) : PE X (.List es pos) (tD X.K X.mg W (eLst t)) := by
  refine PE.imp (pe_lst h) fun σ H Q ⟨ρ, S, μ, e, s, h⟩ => ?_
  refine ⟨ρ, S, μ, e, s, h.bnd fun xs S1 μ1 H1 s1 r1 h1 vs rvs => ?_⟩
  split at h1
  · rename_i hl
    exact ⟨by rw [← rvs.length]; exact hl, fun p hp => h1 μ1 _ (Stp.new hp) (r1.new hp) _ (.lst upd_same ⟨fun z => r1.there z hp, fun z => r1.hid _ z hp⟩ (rvs.step r1 (Stp.new hp)))⟩
  · exact h1.elim
theorem d_lstM {es : List Expr} {t : EvL} (h : PA X es (tA X.K X.mg W t)) : PE X (.List es pos) (tD X.K X.mg W (eLstM t)) := by
  refine PE.imp (pe_lst h) fun σ H Q ⟨ρ, S, μ, e, s, h⟩ => ?_
  refine ⟨ρ, S, μ, e, s, h.bnd fun xs S1 μ1 H1 s1 r1 h1 vs rvs => ?_⟩
  split at h1
  · rename_i hl
    refine ⟨by rw [← rvs.length]; exact hl, fun p hp => ?_⟩
    exact h1 (μ1.push p) _ (Stp.alloc hp) (r1.alloc hp ⟨vs, upd_same, rvs.step r1 (Stp.alloc hp)⟩) _ (new_ref r1)
  · exact h1.elim
theorem d_chain {a b c : Expr} {op op' : CmpOp} {g g' : D → D → M D} {ta tb tc : EvD} (o : ORD X W (compareOp op) g) (o' : ORD X W (compareOp op') g') (ha : PE X a (tD X.K X.mg W ta)) (hb : PE X b (tD X.K X.mg W tb)) (hc : PE X c (tD X.K X.mg W tc))
    (hm : lastMarks [op, op'] [b, c] = false) : PE X (.Compare a [op, op'] [b, c] pos) (tD X.K X.mg W (eChain g g' ta tb tc)) := by
  obtain ⟨r, ho, hr⟩ := o
  obtain ⟨r', ho', hr'⟩ := o'
  refine PE.imp (pe_chain ho ho' ha hb hc hm) fun σ H Q ⟨ρ, S, μ, e, s, h⟩ => ?_
  refine ⟨ρ, S, μ, e, s, h.bnd fun x S1 μ1 H1 s1 r1 h1 v rv => ?_⟩
  refine ⟨ρ, S1, μ1, e.step s s1, r1, h1.bnd fun y S2 μ2 H2 s2 r2 h2 w rw => ?_⟩
  refine hr _ _ _ _ μ2 S2 σ H2 _ r2 (rv.step r1 s2) rw (h2.bnd fun z S3 μ3 H3 s3 r3 h3 u ru => ?_)
  split at h3
  · cases ru
    refine ⟨true, rfl, ?_⟩
    rw [if_pos rfl]
    refine ⟨ρ, S3, μ3, ((e.step s s1).step r1 s2).step r2 s3, r3, h3.bnd fun q S4 μ4 H4 s4 r4 h4 uu ruu => ?_⟩
    exact hr' _ _ _ _ μ4 S4 σ H4 Q r4 ((rw.step r2 s3).step r3 s4) ruu h4
  · cases ru
    refine ⟨false, rfl, ?_⟩
    rw [if_neg Bool.false_ne_true]
    exact h3.now r3 _ (.bl _)
  · exact h3.elim

theorem chain_ok {r r' : R2} {g g' : D → D → M D} {ta tb tc : EvD} {σ : L2.St} {H : Hp} {Q : VK} (hr : ∀ x y v w μ S σ H Q, Rel X.K μ S H → RD X.K μ H x v → RD X.K μ H y w → Post X.K X.mg W μ σ H (g x y S) (QD X.K Q) → r v w H Q)
    (hr' : ∀ x y v w μ S σ H Q, Rel X.K μ S H → RD X.K μ H x v → RD X.K μ H y w → Post X.K X.mg W μ σ H (g' x y S) (QD X.K Q) → r' v w H Q) (hh : tD X.K X.mg W (eChain g g' ta tb tc) σ H Q) : tChain r r' (tD X.K X.mg W ta) (tD X.K X.mg W tb) (tD X.K X.mg W tc) σ H Q := by
  obtain ⟨ρ, S, μ, e, s, h⟩ := hh
  refine ⟨ρ, S, μ, e, s, h.bnd fun x S1 μ1 H1 s1 r1 h1 v rv => ?_⟩
  refine ⟨ρ, S1, μ1, e.step s s1, r1, h1.bnd fun y S2 μ2 H2 s2 r2 h2 w rw => ?_⟩
  refine hr _ _ _ _ μ2 S2 σ H2 _ r2 (rv.step r1 s2) rw (h2.bnd fun z S3 μ3 H3 s3 r3 h3 u ru => ?_)
  split at h3
  · cases ru
    refine ⟨true, rfl, ?_⟩
    rw [if_pos rfl]
    refine ⟨ρ, S3, μ3, ((e.step s s1).step r1 s2).step r2 s3, r3, h3.bnd fun q S4 μ4 H4 s4 r4 h4 uu ruu => ?_⟩
    exact hr' _ _ _ _ μ4 S4 σ H4 Q r4 ((rw.step r2 s3).step r3 s4) ruu h4
  · cases ru
    refine ⟨false, rfl, ?_⟩
    rw [if_neg Bool.false_ne_true]
    exact h3.now r3 _ (.bl _)
  · exact h3.elim
theorem t_chain {a b c : Expr} {op op' : CmpOp} {g g' : D → D → M D} {ta tb tc : EvD} (o : ORD X W (compareOp op) g) (o' : ORD X W (compareOp op') g') (ha : PE X a (tD X.K X.mg W ta)) (hb : PE X b (tD X.K X.mg W tb)) (hc : PE X c (tD X.K X.mg W tc))
    (hm : lastMarks [op, op'] [b, c] = false) : PT X (.Compare a [op, op'] [b, c] pos) (tT X.K X.mg W (eTb (eChain g g' ta tb tc))) := by
  obtain ⟨r, ho, hr⟩ := o
  obtain ⟨r', ho', hr'⟩ := o'
  refine PT.imp (pt_chain ho ho' ha hb hc hm) fun σ H Q ⟨ρ, S, μ, e, s, h⟩ => ?_
  refine chain_ok hr hr' ⟨ρ, S, μ, e, s, ?_⟩
  exact h.bnd fun x S1 μ1 H1 s1 r1 h1 v rv => asBl_ok r1 rv h1

/-! ### calls of built-ins -/
def CRD (X : Cx) (W : WX) (f : Value) (g : List D → M D) : Prop := ∃ r, CallR X f r ∧
  ∀ ds vs μ S σ H Q, Rel X.K μ S H → RDs X.K μ H ds vs → Post X.K X.mg W μ σ H (g ds S) (QD X.K Q) → r vs H Q
theorem d_callB {id : String} {x : Str} {p : Pos} {e : Expr} {es : List Expr} {g : List D → M D} {t : EvL} (o : CRD X W (.builtin id) g) (hg : Gl X x) (hm : X.mg x = none) (hv : bootBuiltins x = some (.builtin id)) (ha : PA X (e :: es) (tA X.K X.mg W t))
    (hn : x ≠ "__name__" := by decide) (hdb : (x == ("__debug__" : Str)) = false := by decide)
    (he : starEach (e :: es) X.env = (false, eval e X.env) :: starEach es X.env := by rfl) (hpl : (backTo pos (starEach es X.env)).any (·.1) = false := by rfl) : PE X (.Call (.Name x p) (e :: es) [] pos) (tD X.K X.mg W (eCall g t)) := by
  obtain ⟨r, ho, hr⟩ := o
  refine PE.imp (pe_callB ho hg hm hv ha hn hdb he hpl) fun σ H Q ⟨ρ, S, μ, e, s, h⟩ => ?_
  exact ⟨ρ, S, μ, e, s, h.bnd fun xs S1 μ1 H1 s1 r1 h1 vs rvs => hr _ _ _ _ _ _ _ r1 rvs h1⟩
theorem d_callTy {T : String} {x : Str} {p : Pos} {e : Expr} {es : List Expr} {g : List D → M D} {t : EvL} (o : CRD X W (.type T) g) (hg : Gl X x) (hm : X.mg x = none) (hv : bootBuiltins x = some (.type T)) (ha : PA X (e :: es) (tA X.K X.mg W t))
    (hn : x ≠ "__name__" := by decide) (hdb : (x == ("__debug__" : Str)) = false := by decide)
    (he : starEach (e :: es) X.env = (false, eval e X.env) :: starEach es X.env := by rfl) (hpl : (backTo pos (starEach es X.env)).any (·.1) = false := by rfl) : PE X (.Call (.Name x p) (e :: es) [] pos) (tD X.K X.mg W (eCall g t)) := by
  obtain ⟨r, ho, hr⟩ := o
  refine PE.imp (pe_callTy ho hg hm hv ha hn hdb he hpl) fun σ H Q ⟨ρ, S, μ, e, s, h⟩ => ?_
  exact ⟨ρ, S, μ, e, s, h.bnd fun xs S1 μ1 H1 s1 r1 h1 vs rvs => hr _ _ _ _ _ _ _ r1 rvs h1⟩

def gLen (xs : List D) : M D := fun S => match xs with
  | [.str x] => if x.length ≤ sizeLine then .ok (.int x.length) S else .bad
  | [d] => match iLst S d with
    | some ds => .ok (.int ds.length) S
    | none => .bad
  | _ => .bad
theorem c_len : CRD X W (.builtin "len") gLen := by
  refine ⟨_, call_len, fun ds vs μ S σ H Q r rds h => ?_⟩
  unfold gLen at h
  split at h
  · split at h
    · rename_i hl
      cases rds with
      | cons h1 h2 => cases h1; cases h2; exact ⟨_, _, rfl, ⟨hl, rfl⟩, h.now r _ (.int _)⟩
    · exact h.elim
  · cases rds with
    | cons h1 h2 =>
      cases h2
      split at h
      · rename_i ds e
        obtain ⟨a, vs, rfl, q, z⟩ := iLst_ok e r h1
        have hl := z.length
        refine ⟨_, vs.length, rfl, ?_, by rw [← hl]; exact h.now r _ (.int _)⟩
        rcases q with q | q
        · exact .inl ⟨vs, q, rfl⟩
        · exact .inr ⟨vs, q, rfl⟩
      · exact h.elim
  · exact h.elim
def gInt (xs : List D) : M D := fun S => match xs with
  | [.int i] => .ok (.int i) S
  | [.bl k] => .ok (.int (if k then 1 else 0)) S
  | _ => .bad
theorem c_int : CRD X W (.type "int") gInt := by
  refine ⟨_, call_int1, fun ds vs μ S σ H Q r rds h => ?_⟩
  unfold gInt at h
  split at h
  · cases rds with
    | cons h1 h2 => cases h1; cases h2; exact .inl ⟨_, rfl, h.now r _ (.int _)⟩
  · cases rds with
    | cons h1 h2 => cases h1; cases h2; exact .inr ⟨_, rfl, h.now r _ (.int _)⟩
  · exact h.elim
def gStr (xs : List D) : M D := fun S => match xs with
  | [.int i] => if i.natAbs.log2 < 1920 then .ok (.str (toString i)) S else .bad
  | _ => .bad
theorem c_str : CRD X W (.type "str") gStr := by
  refine ⟨_, call_str_int, fun ds vs μ S σ H Q r rds h => ?_⟩
  unfold gStr at h
  split at h
  · cases rds with
    | cons h1 h2 =>
      cases h1; cases h2
      split at h
      · rename_i hl; exact ⟨_, rfl, hl, h.now r _ (.str _)⟩
      · exact h.elim
  · exact h.elim
def gList (xs : List D) : M D := fun S => match xs with
  | [d] => match iLst S d with
    | some ds => .ok (.lst ds) S
    | none => .bad
  | _ => .bad
def gListM (xs : List D) : M D := fun S => match xs with
  | [d] => match iLst S d with
    | some ds => .ok (.ref S.length) (S ++ [.lst ds])
    | none => .bad
  | _ => .bad
theorem c_list : CRD X W (.type "list") gList := by
  refine ⟨_, call_list_of, fun ds vs μ S σ H Q r rds h => ?_⟩
  unfold gList at h
  split at h
  · cases rds with
    | cons h1 h2 =>
      cases h2
      split at h
      · rename_i ds e
        obtain ⟨a, vs, rfl, q, z⟩ := iLst_ok e r h1
        exact ⟨_, _, rfl, q, fun p hp => h μ _ (Stp.new hp) (r.new hp) _ (.lst upd_same ⟨fun z => r.there z hp, fun z => r.hid _ z hp⟩ (z.step r (Stp.new hp)))⟩
      · exact h.elim
  · exact h.elim
theorem c_listM : CRD X W (.type "list") gListM := by
  refine ⟨_, call_list_of, fun ds vs μ S σ H Q r rds h => ?_⟩
  unfold gListM at h
  split at h
  · cases rds with
    | cons h1 h2 =>
      cases h2
      split at h
      · rename_i ds e
        obtain ⟨a, vs, rfl, q, z⟩ := iLst_ok e r h1
        exact ⟨_, _, rfl, q, fun p hp => h (μ.push p) _ (Stp.alloc hp) (r.alloc hp ⟨vs, upd_same, z.step r (Stp.alloc hp)⟩) _ (new_ref r)⟩
      · exact h.elim
  · exact h.elim
def gTuple (xs : List D) : M D := fun S => match xs with
  | [d] => match iLst S d with
    | some ds => .ok (.tup ds) S
    | none => .bad
  | _ => .bad
theorem c_tuple : CRD X W (.type "tuple") gTuple := by
  refine ⟨_, call_tuple_of, fun ds vs μ S σ H Q r rds h => ?_⟩
  unfold gTuple at h
  split at h
  · cases rds with
    | cons h1 h2 =>
      cases h2
      split at h
      · rename_i ds e
        obtain ⟨a, vs, rfl, q, z⟩ := iLst_ok e r h1
        refine ⟨_, vs, rfl, ?_⟩
        rcases q with q | q
        · exact .inl ⟨q, fun p hp => h μ _ (Stp.new hp) (r.new hp) _ (.tup (.inl (.inl upd_same)) (z.step r (Stp.new hp)))⟩
        · exact .inr ⟨q, h.now r _ (.tup q z)⟩
      · exact h.elim
  · exact h.elim
def blsOf : List D → Option (List Bool)
  | [] => some []
  | .bl b :: ds => (blsOf ds).map (b :: ·)
  | _ :: _ => none
def intsOf : List D → Option (List Int)
  | [] => some []
  | .int b :: ds => (intsOf ds).map (b :: ·)
  | _ :: _ => none
def strsOf : List D → Option (List Str)
  | [] => some []
  | .str b :: ds => (strsOf ds).map (b :: ·)
  | _ :: _ => none
theorem blsOf_ok : ∀ {ds : List D} {bs : List Bool}, blsOf ds = some bs → ds = bs.map D.bl
  | [], _, h => by cases h; rfl
  | d :: ds, bs, h => by
    unfold blsOf at h
    split at h
    · rename_i e; cases e
    · rename_i b ds' e; cases e
      rw [Option.map_eq_some_iff] at h
      obtain ⟨bs', e, rfl⟩ := h
      simp [blsOf_ok e]
    · cases h
theorem intsOf_ok : ∀ {ds : List D} {bs : List Int}, intsOf ds = some bs → ds = bs.map D.int
  | [], _, h => by cases h; rfl
  | d :: ds, bs, h => by
    unfold intsOf at h
    split at h
    · rename_i e; cases e
    · rename_i b ds' e; cases e
      rw [Option.map_eq_some_iff] at h
      obtain ⟨bs', e, rfl⟩ := h
      simp [intsOf_ok e]
    · cases h
theorem strsOf_ok : ∀ {ds : List D} {bs : List Str}, strsOf ds = some bs → ds = bs.map D.str
  | [], _, h => by cases h; rfl
  | d :: ds, bs, h => by
    unfold strsOf at h
    split at h
    · rename_i e; cases e
    · rename_i b ds' e; cases e
      rw [Option.map_eq_some_iff] at h
      obtain ⟨bs', e, rfl⟩ := h
      simp [strsOf_ok e]
    · cases h
theorem intsOf_map : ∀ ns : List Int, intsOf (ns.map D.int) = some ns
  | [] => rfl
  | n :: ns => by simp [intsOf, intsOf_map ns]
theorem blsOf_map : ∀ ns : List Bool, blsOf (ns.map D.bl) = some ns
  | [] => rfl
  | n :: ns => by simp [blsOf, blsOf_map ns]
theorem strsOf_map : ∀ ns : List Str, strsOf (ns.map D.str) = some ns
  | [] => rfl
  | n :: ns => by simp [strsOf, strsOf_map ns]
def gAll (xs : List D) : M D := fun S => match xs with
  | [d] => match (iSeq S d).bind blsOf with
    | some bs => .ok (.bl (bs.all id)) S
    | none => .bad
  | _ => .bad
def gAny (xs : List D) : M D := fun S => match xs with
  | [d] => match (iSeq S d).bind blsOf with
    | some bs => .ok (.bl (bs.any id)) S
    | none => .bad
  | _ => .bad
def gSum (xs : List D) : M D := fun S => match xs with
  | [d] => match (iSeq S d).bind intsOf with
    | some ns => .ok (.int ns.sum) S
    | none => .bad
  | _ => .bad
theorem c_all (hc : X.calm = true) : CRD X W (.builtin "all") gAll := by
  refine ⟨_, cr_all hc, fun ds vs μ S σ H Q r rds h => ?_⟩
  unfold gAll at h
  split at h
  · cases rds with
    | cons h1 h2 =>
      cases h2
      split at h
      · rename_i bs e
        rw [Option.bind_eq_some_iff] at e
        obtain ⟨ds, e1, e2⟩ := e
        obtain ⟨a, vs, rfl, q, z⟩ := iSeq_ok e1 r h1
        rw [blsOf_ok e2] at z
        rw [z.bls] at q
        exact ⟨_, _, rfl, q, h.now r _ (.bl _)⟩
      · exact h.elim
  · exact h.elim
theorem c_any (hc : X.calm = true) : CRD X W (.builtin "any") gAny := by
  refine ⟨_, cr_any hc, fun ds vs μ S σ H Q r rds h => ?_⟩
  unfold gAny at h
  split at h
  · cases rds with
    | cons h1 h2 =>
      cases h2
      split at h
      · rename_i bs e
        rw [Option.bind_eq_some_iff] at e
        obtain ⟨ds, e1, e2⟩ := e
        obtain ⟨a, vs, rfl, q, z⟩ := iSeq_ok e1 r h1
        rw [blsOf_ok e2] at z
        rw [z.bls] at q
        exact ⟨_, _, rfl, q, h.now r _ (.bl _)⟩
      · exact h.elim
  · exact h.elim
theorem c_sum (hc : X.calm = true) : CRD X W (.builtin "sum") gSum := by
  refine ⟨_, cr_sum hc, fun ds vs μ S σ H Q r rds h => ?_⟩
  unfold gSum at h
  split at h
  · cases rds with
    | cons h1 h2 =>
      cases h2
      split at h
      · rename_i bs e
        rw [Option.bind_eq_some_iff] at e
        obtain ⟨ds, e1, e2⟩ := e
        obtain ⟨a, vs, rfl, q, z⟩ := iSeq_ok e1 r h1
        rw [intsOf_ok e2] at z
        rw [z.ints] at q
        exact ⟨_, _, rfl, q, h.now r _ (.int _)⟩
      · exact h.elim
  · exact h.elim
def gMax2 (xs : List D) : M D := fun S => match xs with
  | [.int i, .int j] => .ok (.int (if j > i then j else i)) S
  | _ => .bad
def gMin2 (xs : List D) : M D := fun S => match xs with
  | [.int i, .int j] => .ok (.int (if j < i then j else i)) S
  | _ => .bad
theorem c_max2 (hc : X.calm = true) : CRD X W (.builtin "max") gMax2 := by
  refine ⟨_, call_max2 hc, fun ds vs μ S σ H Q r rds h => ?_⟩
  unfold gMax2 at h
  split at h
  · cases rds with
    | cons h1 h2 => cases h1; cases h2 with
      | cons h3 h4 => cases h3; cases h4; exact ⟨_, _, rfl, h.now r _ (.int _)⟩
  · exact h.elim
theorem c_min2 (hc : X.calm = true) : CRD X W (.builtin "min") gMin2 := by
  refine ⟨_, call_min2 hc, fun ds vs μ S σ H Q r rds h => ?_⟩
  unfold gMin2 at h
  split at h
  · cases rds with
    | cons h1 h2 => cases h1; cases h2 with
      | cons h3 h4 => cases h3; cases h4; exact ⟨_, _, rfl, h.now r _ (.int _)⟩
  · exact h.elim

/-! isinstance with a built-in type -/
def typN (S : Sto) : D → Option String
  | .non => some "NoneType"
  | .bl _ => some "bool"
  | .int _ => some "int"
  | .str _ => some "str"
  | .tup _ => some "tuple"
  | .lst _ => some "list"
  | .fl _ => some "list"
  | .ref n => match S[n]? with
    | some (.lst _) => some "list"
    | some (.dct _) => some "dict"
    | none => none
def isiN (a b : String) : Bool := a == b || (a == "bool" && b == "int")
def gIsi (T : String) (d : D) : M D := fun S => match typN S d with
  | some a => .ok (.bl (isiN a T)) S
  | none => .bad
def eIsi (T : String) (a : EvD) : EvD := fun ρ => bnd (a ρ) (gIsi T)
theorem typN_ok {K : PySem.W.Frag} {μ : Mu} {S : Sto} {H : Hp} {d : D} {v : V} {a : String} (e : typN S d = some a) (r : Rel K μ S H) (h : RD K μ H d v) : TyX K H v (.type a) ∧ a ∈ ["NoneType", "bool", "int", "str", "tuple", "list", "dict"] := by
  cases h with
  | non => cases e; exact ⟨.base .non, by decide⟩
  | bl b => cases e; exact ⟨.base (.bl _), by decide⟩
  | int b => cases e; exact ⟨.base (.int _), by decide⟩
  | str b => cases e; exact ⟨.base (.str _), by decide⟩
  | tup h1 h2 =>
    cases e
    refine ⟨?_, by decide⟩
    rcases h1 with (h1 | ⟨o, h1⟩) | ⟨o, its, n, h1, h3, _⟩
    · exact .base (.tup h1)
    · exact .fTuple h1
    · exact .kTuple h1 h3
  | lst h1 _ _ => cases e; exact ⟨.base (.lst h1), by decide⟩
  | fl h1 _ =>
    cases e
    refine ⟨?_, by decide⟩
    rcases h1 with ⟨o, h1⟩ | ⟨o, its, n, h1, h3, _⟩
    · exact .base (.frz h1)
    · exact .kList h1 h3
  | @ref n a h1 =>
    unfold typN at e
    simp only at e
    split at e
    · rename_i hs; cases e
      obtain ⟨vs, q, z⟩ := r.obj _ _ _ h1 hs
      exact ⟨.base (.lst q), by decide⟩
    · rename_i hs; cases e
      obtain ⟨vs, q, z⟩ := r.obj _ _ _ h1 hs
      exact ⟨.base (.dK q), by decide⟩
    · cases e
theorem isiN_ok {K : PySem.W.Frag} {a b : String} (ha : a ∈ ["NoneType", "bool", "int", "str", "tuple", "list", "dict"]) (hb : b ∈ ["bool", "int", "str", "tuple", "list", "dict"]) : PySem.W.kitOne K (.type a) (.type b) = some (isiN a b) := by
  have key : (["NoneType", "bool", "int", "str", "tuple", "list", "dict"].all fun a => ["bool", "int", "str", "tuple", "list", "dict"].all fun b => decide (kitB a b = some (isiN a b))) = true := by decide +kernel
  exact kit_ty (of_decide_eq_true (List.all_eq_true.mp (List.all_eq_true.mp key a ha) b hb))
theorem d_isi {e : Expr} {te : EvD} {p1 p2 : Pos} (T : String) {tn : Str} (hg : Gl X "isinstance") (hm : X.mg "isinstance" = none) (he : PE X e (tD X.K X.mg W te)) (gt : Gl X tn) (mt : X.mg tn = none) (bt : bootBuiltins tn = some (.type T)) (hT : T ∈ ["bool", "int", "str", "tuple", "list", "dict"])
    (nt : tn ≠ "__name__" := by decide) (dt : (tn == ("__debug__" : Str)) = false := by decide)
    (hs : starEach [e, .Name tn p2] X.env = (false, eval e X.env) :: starEach [.Name tn p2] X.env := by rfl) :
    PE X (.Call (.Name "isinstance" p1) [e, .Name tn p2] [] pos) (tD X.K X.mg W (eIsi T te)) := by
  refine PE.imp (pe_callB call_isi hg hm (by decide +kernel) (pa_cons he (pa_cons (pe_bltn gt mt bt (v := .ty T) rfl nt dt) pa_nil) hs) (by decide) (by decide) hs) fun σ H Q ⟨ρ, S, μ, e, s, h⟩ => ?_
  refine ⟨ρ, S, μ, e, s, h.bnd fun d S1 μ1 H1 s1 r1 h1 v rv => ?_⟩
  unfold gIsi at h1
  split at h1
  · rename_i a ea
    obtain ⟨ty, ma⟩ := typN_ok ea r1 rv
    exact ⟨_, _, _, _, _, rfl, .ty T, ty, isiN_ok ma hT, h1.now r1 _ (.bl _)⟩
  · exact h1.elim

/-! ### subscripts, slices -/
def gIx (x i : D) : M D := fun S => match x, i with
  | .str z, .int k => if z.length ≤ sizeLine then match atI z.cps.toList k with
      | some c => .ok (.str ⟨#[c]⟩) S
      | none => .bad
    else .bad
  | x, .int k => match iLst S x with
    | some ds => match atI ds k with
      | some d => .ok d S
      | none => .bad
    | none => .bad
  | _, _ => .bad
theorem atI_rel {K : PySem.W.Frag} {μ : Mu} {H : Hp} {ds : List D} {vs : List V} {i : Int} {d : D} (z : RDs K μ H ds vs) (e : atI ds i = some d) : ∃ v, atI vs i = some v ∧ RD K μ H d v := by
  unfold atI at e ⊢
  rw [Option.bind_eq_some_iff] at e
  obtain ⟨j, e1, e2⟩ := e
  obtain ⟨v, e3, rv⟩ := z.get e2
  exact ⟨v, by rw [← z.length, e1]; exact e3, rv⟩
theorem d_ix {a b : Expr} {ta tb : EvD} (ha : PE X a (tD X.K X.mg W ta)) (hb : PE X b (tD X.K X.mg W tb)) (hs : PlainIx b := by exact fun _ _ => rfl) : PE X (.Subscript a b pos) (tD X.K X.mg W (eBin gIx ta tb)) := by
  refine PE.imp (pe_ix ix_seq ha hb hs) fun σ H Q h => bin_ok (fun x y v w μ S σ H Q r rx ry h => ?_) h
  unfold gIx at h
  split at h
  · cases rx; cases ry
    split at h
    · rename_i hl
      split at h
      · rename_i c hc
        exact .inr (.inr ⟨_, _, _, rfl, rfl, hl, hc, h.now r _ (.str _)⟩)
      · exact h.elim
    · exact h.elim
  · cases ry
    split at h
    · rename_i ds e
      split at h
      · rename_i d ed
        obtain ⟨a, vs, rfl, q, z⟩ := iLst_ok e r rx
        obtain ⟨v, ev, rv⟩ := atI_rel z ed
        rcases q with q | q
        · exact .inl ⟨_, _, _, _, rfl, rfl, q, ev, h.now r _ rv⟩
        · exact .inr (.inl ⟨_, _, _, _, rfl, rfl, q, ev, h.now r _ rv⟩)
      · exact h.elim
    · exact h.elim
  · exact h.elim
abbrev EvO := Rho → M (Option Int)
def oNone : EvO := fun _ => ret none
def oSome (a : EvD) : EvO := fun ρ => bnd (a ρ) fun x => match x with
  | .int i => ret (some i)
  | _ => stuck
def tO (K : PySem.W.Frag) (mg : Str → Option Value) (W : WX) (F : EvO) : TO := fun σ H Q => ∃ ρ S μ, RE K μ H σ ρ ∧ Rel K μ S H ∧ Post K mg W μ σ H (F ρ S) (fun o _ H' => Q o H')
theorem PO.imp {e : Option Expr} {t t' : TO} (h : PO X e t) (f : ∀ σ H Q, t' σ H Q → t σ H Q) : PO X e t' := ⟨fun pins s σ H Q I q => h.run pins s σ H Q I (f σ H Q q)⟩
theorem o_none : PO X none (tO X.K X.mg W oNone) := PO.imp po_none fun σ H Q ⟨ρ, S, μ, e, s, h⟩ => h.now s
theorem o_some {e : Expr} {te : EvD} (h : PE X e (tD X.K X.mg W te)) : PO X (some e) (tO X.K X.mg W (oSome te)) := by
  refine PO.imp (po_some h) fun σ H Q ⟨ρ, S, μ, e, s, h⟩ => ?_
  refine ⟨ρ, S, μ, e, s, h.bnd fun x S1 μ1 H1 s1 r1 h1 v rv => ?_⟩
  split at h1
  · cases rv; exact ⟨_, rfl, h1.now r1⟩
  · exact h1.elim
def cutD (xs : List D) (lo hi : Option Int) : List D := (xs.drop (HT.sIx xs.length 0 lo)).take (HT.sIx xs.length xs.length hi - HT.sIx xs.length 0 lo)
theorem cut_rel {K : PySem.W.Frag} {μ : Mu} {H : Hp} {ds : List D} {vs : List V} (z : RDs K μ H ds vs) (lo hi : Option Int) : RDs K μ H (cutD ds lo hi) (cutV vs lo hi) := by
  unfold cutD cutV
  rw [z.length]
  exact (z.drop _).take _
def gSl (mu : Bool) (x : D) (lo hi : Option Int) : M D := fun S => match x with
  | .str z => if z.length ≤ sizeLine then .ok (.str (cutS z lo hi)) S else .bad
  | .tup ds => .ok (.tup (cutD ds lo hi)) S
  | x => match iSeq S x with
    | some ds => if mu then .ok (.ref S.length) (S ++ [.lst (cutD ds lo hi)]) else .ok (.lst (cutD ds lo hi)) S
    | none => .bad
def eSl (mu : Bool) (a : EvD) (lo hi : EvO) : EvD := fun ρ => bnd (a ρ) fun x => bnd (lo ρ) fun l => bnd (hi ρ) fun h => gSl mu x l h
theorem d_slice (mu : Bool) {e : Expr} {lo hi : Option Expr} {te : EvD} {tl th : EvO} {p2 : Pos} (he : PE X e (tD X.K X.mg W te)) (hl : PO X lo (tO X.K X.mg W tl)) (hu : PO X hi (tO X.K X.mg W th)) : PE X (.Subscript e (.Slice lo hi none p2) pos) (tD X.K X.mg W (eSl mu te tl th)) := by
  refine PE.imp (pe_slice (sl_str.or (sl_tupA.or sl_list)) he hl hu) fun σ H Q ⟨ρ, S, μ, e, s, h⟩ => ?_
  refine ⟨ρ, S, μ, e, s, h.bnd fun x S1 μ1 H1 s1 r1 h1 v rv => ?_⟩
  refine ⟨ρ, S1, μ1, e.step s s1, r1, h1.bnd fun l S2 μ2 H2 s2 r2 h2 => ?_⟩
  refine ⟨ρ, S2, μ2, (e.step s s1).step r1 s2, r2, h2.bnd fun u S3 μ3 H3 s3 r3 h3 => ?_⟩
  have rv3 := (rv.step r1 s2).step r2 s3
  unfold gSl at h3
  split at h3
  · cases rv3
    split at h3
    · rename_i hz; exact .inl ⟨_, rfl, hz, h3.now r3 _ (.str _)⟩
    · exact h3.elim
  · cases rv3 with
    | @tup a vs ds q z =>
      have hcut : HT.sIx vs.length 0 l = 0 ∧ HT.sIx vs.length vs.length u = vs.length → cutV vs l u = vs := fun ⟨e1, e2⟩ => by
        unfold cutV; rw [e1, e2]; simp
      refine .inr (.inl ⟨_, _, rfl, q, fun w => h3.now r3 _ (.tup q ?_), fun _ p hp => h3 μ3 _ (Stp.new hp) (r3.new hp) _ (.tup (.inl (.inl upd_same)) ((cut_rel z l u).step r3 (Stp.new hp)))⟩)
      have := cut_rel z l u
      rw [hcut w] at this
      exact this
  · split at h3
    · rename_i ds e
      obtain ⟨a, vs, rfl, q, z⟩ := iSeq_ok e r3 rv3
      refine .inr (.inr ⟨_, _, rfl, q, fun p hp => ?_⟩)
      cases mu with
      | true => exact h3 (μ3.push p) _ (Stp.alloc hp) (r3.alloc hp ⟨_, upd_same, (cut_rel z l u).step r3 (Stp.alloc hp)⟩) _ (new_ref r3)
      | false => exact h3 μ3 _ (Stp.new hp) (r3.new hp) _ (.lst upd_same ⟨fun z => r3.there z hp, fun z => r3.hid _ z hp⟩ ((cut_rel z l u).step r3 (Stp.new hp)))
    · exact h3.elim
def gRev (mu : Bool) (x : D) : M D := fun S => match iSeq S x with
  | some ds => if mu then .ok (.ref S.length) (S ++ [.lst ds.reverse]) else .ok (.lst ds.reverse) S
  | none => .bad
/-- xs[::-1] -/
theorem d_rev (mu : Bool) {e : Expr} {te : EvD} {k : Nat} {p1 p2 p3 : Pos} (he : PE X e (tD X.K X.mg W te)) : PE X (.Subscript e (.Slice none none (some (.UnaryOp .USub (.Constant (.int 1) k p1) p2)) p3) pos) (tD X.K X.mg W (eUn (gRev mu) te)) := by
  refine PE.imp (pe_revL he) fun σ H Q ⟨ρ, S, μ, e, s, h⟩ => ?_
  refine ⟨ρ, S, μ, e, s, h.bnd fun x S1 μ1 H1 s1 r1 h1 v rv => ?_⟩
  unfold gRev at h1
  split at h1
  · rename_i ds e
    obtain ⟨a, vs, rfl, q, z⟩ := iSeq_ok e r1 rv
    refine ⟨_, _, rfl, q, fun p hp => ?_⟩
    cases mu with
    | true => exact h1 (μ1.push p) _ (Stp.alloc hp) (r1.alloc hp ⟨_, upd_same, z.reverse.step r1 (Stp.alloc hp)⟩) _ (new_ref r1)
    | false => exact h1 μ1 _ (Stp.new hp) (r1.new hp) _ (.lst upd_same ⟨fun z => r1.there z hp, fun z => r1.hid _ z hp⟩ (z.reverse.step r1 (Stp.new hp)))
  · exact h1.elim
end
end DL

/-! DL4: methods, what is walked, comprehensions. -/
namespace DL
open PySem L2

/-! ### methods -/
def isTy (S : Sto) (T : String) (d : D) : Bool := match d with
  | .str _ => T == "str"
  | .lst _ => T == "list"
  | .fl _ => T == "list"
  | .ref n => match S[n]? with
    | some (.lst _) => T == "list"
    | some (.dct _) => T == "dict"
    | none => false
  | _ => false
def chkT (T : String) (d : D) : M D := fun S => if isTy S T d = true then .ok d S else .bad
def eMeth (T : String) (g : D → List D → M D) (o : EvD) (as : EvL) : EvD := fun ρ => bnd (o ρ) fun x => bnd (chkT T x) fun x => bnd (as ρ) fun xs => g x xs
section
variable {X : Cx} {W : WX} {pos : Pos}
theorem isTy_ok {K : PySem.W.Frag} {μ : Mu} {S : Sto} {H : Hp} {T : String} {d : D} {v : V} (e : isTy S T d = true) (r : Rel K μ S H) (h : RD K μ H d v) : tyV K T v H := by
  unfold isTy at e
  split at e
  · cases h; exact eq_of_beq e
  · cases h with | lst h1 _ _ => exact .inl ⟨eq_of_beq e, _, .inl (.inl h1)⟩
  · cases h with
    | fl h1 _ =>
      rcases h1 with ⟨o, h1⟩ | h1
      · exact .inl ⟨eq_of_beq e, _, .inl (.inr ⟨o, h1⟩)⟩
      · exact .inl ⟨eq_of_beq e, _, .inr h1⟩
  · cases h with
    | @ref n a h1 =>
      split at e
      · rename_i hs
        obtain ⟨vs, q, z⟩ := r.obj _ _ _ h1 hs
        exact .inl ⟨eq_of_beq e, _, .inl (.inl q)⟩
      · rename_i hs
        obtain ⟨vs, q, z⟩ := r.obj _ _ _ h1 hs
        exact .inr (.inr (.inl ⟨eq_of_beq e, .inl ⟨_, q⟩⟩))
      · cases e
  · cases e
def MRD (X : Cx) (W : WX) (id : String) (g : D → List D → M D) : Prop := ∃ r, MtR X id r ∧
  ∀ d ds v vs μ S σ H Q, Rel X.K μ S H → RD X.K μ H d v → RDs X.K μ H ds vs → Post X.K X.mg W μ σ H (g d ds S) (QD X.K Q) → r v vs H Q
theorem d_meth {o e : Expr} {es : List Expr} {to : EvD} {t : EvL} {name : Str} {apos cpos : Pos} {T id : String} {g : D → List D → M D} (pa : PlainAttrs T) (slot : Slot T name id) (hty : typeOf (.builtin id) = pure (.type "method_descriptor")) (m : MRD X W id g) (ho : PE X o (tD X.K X.mg W to)) (ha : PA X (e :: es) (tA X.K X.mg W t))
    (hbase : attributeBase o name X.env (eval o X.env) = eval o X.env := by rfl)
    (hfew : ((backTo cpos (starEach (e :: es) X.env)).all (fun x => !x.1) && (backToKw cpos (keywordEach [] X.env)).all (fun x => x.1.isSome)
      && decide ((e :: es).length + ([] : List Keyword).length + (if ([] : List Keyword).isEmpty then 0 else 1) < 30)) = true := by rfl)
    (hline : (apos.endLine == cpos.line) = true := by rfl) (hs : starEach (e :: es) X.env = (false, eval e X.env) :: starEach es X.env := by rfl) (hplain : (backTo cpos (starEach es X.env)).any (·.1) = false := by rfl) :
    PE X (.Call (.Attribute o name apos) (e :: es) [] cpos) (tD X.K X.mg W (eMeth T g to t)) := by
  obtain ⟨r, hm, hr⟩ := m
  refine PE.imp (pe_bm pa slot hty hm ho ha hbase hfew hline hs hplain) fun σ H Q ⟨ρ, S, μ, e, s, h⟩ => ?_
  refine ⟨ρ, S, μ, e, s, h.bnd fun x S1 μ1 H1 s1 r1 h1 v rv => ?_⟩
  by_cases ty : isTy S1 T x = true
  · have h1' : Post X.K X.mg W μ1 σ H1 (bnd (t ρ) (fun xs => g x xs) S1) (QD X.K Q) := by
      unfold bnd chkT at h1
      rw [if_pos ty] at h1
      exact h1
    exact ⟨isTy_ok ty r1 rv, ρ, S1, μ1, e.step s s1, r1, h1'.bnd fun xs S2 μ2 H2 s2 r2 h2 vs rvs => hr _ _ _ _ _ _ _ _ _ r2 (rv.step r1 s2) rvs h2⟩
  · unfold bnd chkT at h1
    rw [if_neg ty] at h1
    exact h1.elim
theorem d_meth0 {o : Expr} {to : EvD} {name : Str} {apos cpos : Pos} {T id : String} {g : D → List D → M D} (pa : PlainAttrs T) (slot : Slot T name id) (hty : typeOf (.builtin id) = pure (.type "method_descriptor")) (m : MRD X W id g) (ho : PE X o (tD X.K X.mg W to))
    (hbase : attributeBase o name X.env (eval o X.env) = eval o X.env := by rfl) (hline : (apos.endLine == cpos.line) = true := by rfl) :
    PE X (.Call (.Attribute o name apos) [] [] cpos) (tD X.K X.mg W (eMeth T g to aNil)) := by
  obtain ⟨r, hm, hr⟩ := m
  refine PE.imp (pe_bm0 pa slot hty hm ho hbase hline) fun σ H Q ⟨ρ, S, μ, e, s, h⟩ => ?_
  refine ⟨ρ, S, μ, e, s, h.bnd fun x S1 μ1 H1 s1 r1 h1 v rv => ?_⟩
  by_cases ty : isTy S1 T x = true
  · have h1' : Post X.K X.mg W μ1 σ H1 (g x [] S1) (QD X.K Q) := by
      unfold bnd chkT at h1
      rw [if_pos ty] at h1
      exact h1
    exact ⟨isTy_ok ty r1 rv, hr _ _ _ _ _ _ _ _ _ r1 rv .nil h1'⟩
  · unfold bnd chkT at h1
    rw [if_neg ty] at h1
    exact h1.elim

def gAppend (x : D) (xs : List D) : M D := fun S => match x, xs with
  | .ref n, [d] => match atL S n with
    | some ds => if ds.length < sizeLine then .ok .non (S.set n (.lst (ds ++ [d]))) else .bad
    | none => .bad
  | _, _ => .bad
theorem m_append : MRD X W "list.append" gAppend := by
  refine ⟨_, mt_append, fun d ds v vs μ S σ H Q r rd rds h => ?_⟩
  unfold gAppend at h
  split at h
  · cases rds with
    | cons h1 h2 =>
      cases h2
      split at h
      · rename_i ds e
        split at h
        · rename_i hl
          cases rd with
          | @ref n a hn =>
            obtain ⟨vs, q, z⟩ := r.obj _ a _ hn (atL_ok e)
            have hm : a ∈ μ.v := List.mem_of_getElem? hn
            refine ⟨a, vs, _, rfl, rfl, q, by rw [← z.length]; exact hl, ?_⟩
            exact h μ _ (Stp.put hm) (r.put hn ⟨_, upd_same, (z.step r (Stp.put hm)).append (.cons (h1.step r (Stp.put hm)) .nil)⟩) _ .non
        · exact h.elim
      · exact h.elim
  · exact h.elim
def gPop (x : D) (xs : List D) : M D := fun S => match x, xs with
  | .ref n, [] => match atL S n with
    | some ds => match ds[ds.length - 1]? with
      | some d => .ok d (S.set n (.lst ds.dropLast))
      | none => .bad
    | none => .bad
  | .ref n, [.int i] => match atL S n with
    | some ds => match seqIndex? i ds.length with
      | some k => match ds[k]? with
        | some d => if -(2 ^ 63) ≤ i ∧ i < 2 ^ 63 then .ok d (S.set n (.lst (ds.eraseIdx k))) else .bad
        | none => .bad
      | none => .bad
    | none => .bad
  | _, _ => .bad
theorem m_pop : MRD X W "list.pop" gPop := by
  refine ⟨_, MtR.or mt_pop mt_popAt, fun d ds v vs μ S σ H Q r rd rds h => ?_⟩
  unfold gPop at h
  split at h
  · cases rds
    split at h
    · rename_i ds e
      split at h
      · rename_i d ed
        cases rd with
        | @ref n a hn =>
          obtain ⟨vs, q, z⟩ := r.obj _ a _ hn (atL_ok e)
          have hm : a ∈ μ.v := List.mem_of_getElem? hn
          obtain ⟨v, ev, rv⟩ := z.get ed
          refine .inl ⟨a, vs, v, rfl, rfl, q, by rw [← z.length]; exact ev, ?_⟩
          exact h μ _ (Stp.put hm) (r.put hn ⟨_, upd_same, (z.step r (Stp.put hm)).dropLast⟩) _ (rv.step r (Stp.put hm))
      · exact h.elim
    · exact h.elim
  · cases rds with
    | cons h1 h2 =>
      cases h2; cases h1
      split at h
      · rename_i ds e
        split at h
        · rename_i k ek
          split at h
          · rename_i d ed
            split at h
            · rename_i hb
              cases rd with
              | @ref n a hn =>
                obtain ⟨vs, q, z⟩ := r.obj _ a _ hn (atL_ok e)
                have hm : a ∈ μ.v := List.mem_of_getElem? hn
                obtain ⟨v, ev, rv⟩ := z.get ed
                refine .inr ⟨a, vs, _, k, v, rfl, rfl, q, hb.1, hb.2, by rw [← z.length]; exact ek, ev, ?_⟩
                exact h μ _ (Stp.put hm) (r.put hn ⟨_, upd_same, (z.step r (Stp.put hm)).eraseIdx k⟩) _ (rv.step r (Stp.put hm))
            · exact h.elim
          · exact h.elim
        · exact h.elim
      · exact h.elim
  · exact h.elim
def gExtend (x : D) (xs : List D) : M D := fun S => match x, xs with
  | .ref n, [d] => match atL S n, iTrk S d with
    | some ds, some es => if ds.length + es.length ≤ sizeLine then .ok .non (S.set n (.lst (ds ++ es))) else .bad
    | _, _ => .bad
  | _, _ => .bad
theorem m_extend : MRD X W "list.extend" gExtend := by
  refine ⟨_, mt_extend, fun d ds v vs μ S σ H Q r rd rds h => ?_⟩
  unfold gExtend at h
  split at h
  · cases rds with
    | cons h1 h2 =>
      cases h2
      split at h
      · rename_i ds es e e2
        split at h
        · rename_i hl
          cases rd with
          | @ref n a hn =>
            obtain ⟨vs, q, z⟩ := r.obj _ a _ hn (atL_ok e)
            have hm : a ∈ μ.v := List.mem_of_getElem? hn
            obtain ⟨b, ws, rfl, q2, z2⟩ := iTrk_ok e2 r h1
            refine ⟨a, b, vs, ws, rfl, rfl, q, q2, by rw [← z.length, ← z2.length]; exact hl, ?_⟩
            exact h μ _ (Stp.put hm) (r.put hn ⟨_, upd_same, (z.step r (Stp.put hm)).append (z2.step r (Stp.put hm))⟩) _ .non
        · exact h.elim
      · exact h.elim
  · exact h.elim
def gSplit (mu : Bool) (x : D) (xs : List D) : M D := fun S => match x, xs with
  | .str a, [.str b] => if (b.length == 0) = false ∧ a.length + 2 ≤ sizeLine then
      (if mu then .ok (.ref S.length) (S ++ [.lst ((Txt.split a b).map .str)]) else .ok (.lst ((Txt.split a b).map .str)) S) else .bad
  | _, _ => .bad
theorem m_split (mu : Bool) : MRD X W "str.split" (gSplit mu) := by
  refine ⟨_, mt_split, fun d ds v vs μ S σ H Q r rd rds h => ?_⟩
  unfold gSplit at h
  split at h
  · cases rds with
    | cons h1 h2 =>
      cases h2; cases h1; cases rd
      split at h
      · rename_i hl
        refine ⟨_, _, rfl, rfl, hl.1, hl.2, fun p hp => ?_⟩
        cases mu with
        | true => exact h (μ.push p) _ (Stp.alloc hp) (r.alloc hp ⟨_, upd_same, RDs.of_strs _⟩) _ (new_ref r)
        | false => exact h μ _ (Stp.new hp) (r.new hp) _ (.lst upd_same ⟨fun z => r.there z hp, fun z => r.hid _ z hp⟩ (RDs.of_strs _))
      · exact h.elim
  · exact h.elim
def gJoin (x : D) (xs : List D) : M D := fun S => match x, xs with
  | .str a, [d] => match (iLst S d).bind strsOf with
    | some ys => if (ys.map (·.length)).sum + ys.length * a.length ≤ 16777216 then .ok (.str (Txt.join a ys)) S else .bad
    | none => .bad
  | _, _ => .bad
theorem m_join : MRD X W "str.join" gJoin := by
  refine ⟨_, mt_join, fun d ds v vs μ S σ H Q r rd rds h => ?_⟩
  unfold gJoin at h
  split at h
  · cases rds with
    | cons h1 h2 =>
      cases h2; cases rd
      split at h
      · rename_i ys e
        split at h
        · rename_i hl
          rw [Option.bind_eq_some_iff] at e
          obtain ⟨ds, e1, e2⟩ := e
          obtain ⟨a, vs, rfl, q, z⟩ := iLst_ok e1 r h1
          rw [strsOf_ok e2] at z
          rw [z.strs] at q
          exact ⟨_, _, _, rfl, rfl, q, hl, h.now r _ (.str _)⟩
        · exact h.elim
      · exact h.elim
  · exact h.elim
end

/-! ### what is walked -/
/-- the iterator J hands out what ds says; src: the stored list that must stand as ds meanwhile -/
def liveOk (src : Option Nat) (ds : List D) (S : Sto) : Prop := match src with
  | none => True
  | some n => S[n]? = some (.lst ds)
structure ItOk (K : PySem.W.Frag) (J : It) (src : Option Nat) (ds : List D) (G : Mu → Hp → Prop) : Prop where
  go : ∀ (i : Nat) (μ : Mu) (S : Sto) (H : Hp), i < ds.length → Rel K μ S H → liveOk src ds S → G μ H → J.go i H
  yld : ∀ (i : Nat) (x : V) (μ : Mu) (S : Sto) (H H' : Hp), i < ds.length → Rel K μ S H → liveOk src ds S → G μ H → J.yld i H x H' → Stp μ H μ H' ∧ Rel K μ S H' ∧ ∃ d, ds[i]? = some d ∧ RD K μ H' d x
  stop : ∀ (μ : Mu) (S : Sto) (H : Hp), Rel K μ S H → liveOk src ds S → G μ H → J.stop ds.length H
  step : ∀ (μ : Mu) (S : Sto) (H : Hp) (μ' : Mu) (H' : Hp), G μ H → Rel K μ S H → Stp μ H μ' H' → G μ' H'
  hide : ∀ (μ : Mu) (H : Hp) (p : Addr) (o : HO), G μ H → H p = none → G (μ.hide p) (upd H p o)
  seen : ∀ (μ : Mu) (H : Hp) (p : Addr) (xs ys : List V), G (μ.hide p) H → H p = some (.lst xs) → G (μ.hide p) (upd H p (.lst ys))
abbrev EvI := Rho → M (Option Nat × List D)
def tI (K : PySem.W.Frag) (mg : Str → Option Value) (W : WX) (F : EvI) : TI := fun σ H R => ∃ ρ S μ, RE K μ H σ ρ ∧ Rel K μ S H ∧
  Post K mg W μ σ H (F ρ S) (fun p μ' H' => ∀ J G, ItOk K J p.1 p.2 G → G μ' H' → R J H')
def srcL (d : D) : M (Option Nat × List D) := fun S => match d with
  | .tup ds => .ok (none, ds) S
  | .lst ds => .ok (none, ds) S
  | .fl ds => .ok (none, ds) S
  | .ref n => match atL S n with
    | some ds => .ok (some n, ds) S
    | none => .bad
  | .str x => .ok (none, x.cps.toList.map fun c => .str ⟨#[c]⟩) S
  | _ => .bad
def iIt (a : EvD) : EvI := fun ρ => bnd (a ρ) srcL
section
variable {K : PySem.W.Frag}
theorem it_tup {a : Addr} {ds : List D} : ItOk K (Itt K a) none ds (fun μ H => RD K μ H (.tup ds) (.ref a)) where
  go := fun i μ S H hi r _ g => by
    cases g with
    | tup q z =>
      obtain ⟨v, ev, _⟩ := z.get (List.getElem?_eq_getElem hi)
      exact ⟨_, v, q, ev⟩
  yld := fun i x μ S H H' hi r _ g y => by
    obtain ⟨rfl, y⟩ := y
    cases g with
    | tup q z =>
      obtain ⟨v, ev, rv⟩ := z.get (List.getElem?_eq_getElem hi)
      have := y _ q
      rw [this] at ev
      cases ev
      exact ⟨.refl, r, _, List.getElem?_eq_getElem hi, rv⟩
  stop := fun μ S H r _ g => by
    cases g with
    | tup q z => exact ⟨_, q, by rw [z.length]; exact Nat.le_refl _⟩
  step := fun μ S H μ' H' g r s => RD.step g r s
  hide := fun μ H p o g h => RD.hide h _ _ g
  seen := fun μ H p xs ys g h => RD.seen h _ _ g
theorem it_seq {a : Addr} {d : D} {src : Option Nat} {ds : List D} (hd : d = .lst ds ∨ d = .fl ds ∨ ∃ n, d = .ref n ∧ src = some n) : ItOk K (Itl K a) src ds (fun μ H => RD K μ H d (.ref a)) := by
  have key : ∀ (μ : Mu) (S : Sto) (H : Hp), Rel K μ S H → liveOk src ds S → RD K μ H d (.ref a) → ∃ vs, SqL K H a vs ∧ RDs K μ H ds vs := fun μ S H r l g => by
    have e : iSeq S d = some ds := by
      rcases hd with rfl | rfl | ⟨n, rfl, rfl⟩
      · rfl
      · rfl
      · show atL S n = some ds
        unfold atL
        have l' : S[n]? = some (.lst ds) := l
        rw [l']
    obtain ⟨a', vs, e1, q, z⟩ := iSeq_ok e r g
    cases e1
    exact ⟨vs, q, z⟩
  refine ⟨fun i μ S H hi r l g => ?_, fun i x μ S H H' hi r l g y => ?_, fun μ S H r l g => ?_, fun μ S H μ' H' g r s => RD.step g r s, fun μ H p o g h => RD.hide h _ _ g, fun μ H p xs ys g h => RD.seen h _ _ g⟩
  · obtain ⟨vs, q, z⟩ := key μ S H r l g
    obtain ⟨v, ev, _⟩ := z.get (List.getElem?_eq_getElem hi)
    exact ⟨_, v, q, ev⟩
  · obtain ⟨rfl, y⟩ := y
    obtain ⟨vs, q, z⟩ := key μ S _ r l g
    obtain ⟨v, ev, rv⟩ := z.get (List.getElem?_eq_getElem hi)
    have := y _ q
    rw [this] at ev
    cases ev
    exact ⟨.refl, r, _, List.getElem?_eq_getElem hi, rv⟩
  · obtain ⟨vs, q, z⟩ := key μ S H r l g
    exact ⟨_, q, by rw [z.length]; exact Nat.le_refl _⟩
theorem it_str {x : Str} : ItOk K (Its x) none (x.cps.toList.map fun c => D.str ⟨#[c]⟩) (fun _ _ => True) where
  go := fun i μ S H hi r _ g => by show i < x.cps.size; simpa using hi
  yld := fun i v μ S H H' hi r _ g y => by
    obtain ⟨rfl, c, ec, rfl⟩ := y
    refine ⟨.refl, r, _, ?_, .str _⟩
    rw [List.getElem?_map, Array.getElem?_toList, ec]
    rfl
  stop := fun μ S H r _ g => by show x.cps.size ≤ _; simp
  step := fun _ _ _ _ _ _ _ _ => trivial
  hide := fun _ _ _ _ _ _ => trivial
  seen := fun _ _ _ _ _ _ _ => trivial
def rangeD (lo : Int) (n : Nat) : List D := (List.range n).map fun i => .int (lo + (i : Nat))
theorem it_range {lo : Int} {n : Nat} : ItOk K (Itr lo n) none (rangeD lo n) (fun _ _ => True) where
  go := fun i μ S H hi r _ g => by show i < n; simpa [rangeD] using hi
  yld := fun i v μ S H H' hi r _ g y => by
    obtain ⟨rfl, rfl⟩ := y
    have hi' : i < n := by simpa [rangeD] using hi
    refine ⟨.refl, r, .int (lo + (i : Nat)), ?_, .int _⟩
    unfold rangeD
    rw [List.getElem?_map, List.getElem?_range hi']
    rfl
  stop := fun μ S H r _ g => by show n ≤ _; simp [rangeD]
  step := fun _ _ _ _ _ _ _ _ => trivial
  hide := fun _ _ _ _ _ _ => trivial
  seen := fun _ _ _ _ _ _ _ => trivial
theorem it_rev {a : Addr} {ds : List D} {d : D} {src : Option Nat} (hd : d = .lst ds ∨ d = .fl ds ∨ ∃ n, d = .ref n ∧ src = some n) : True := trivial
end
section
variable {X : Cx} {W : WX} {tg : Expr}
theorem PI.or {l : Expr} {w w' : TI} (h : PI X tg l w) (h' : PI X tg l w') : PI X tg l (fun σ H R => w σ H R ∨ w' σ H R) := ⟨fun pins s σ H R I q => by
  rcases q with q | q
  · exact h.run pins s σ H R I q
  · exact h'.run pins s σ H R I q⟩
theorem PI.imp {l : Expr} {w w' : TI} (h : PI X tg l w) (f : ∀ σ H R, w' σ H R → w σ H R) : PI X tg l w' := ⟨fun pins s σ H R I q => h.run pins s σ H R I (f σ H R q)⟩
theorem i_it {e : Expr} {te : EvD} (he : PE X e (tD X.K X.mg W te)) : PI X tg e (tI X.K X.mg W (iIt te)) := by
  refine PI.imp (PI.or (pi_list he) (PI.or (pi_tup he) (pi_str he))) fun σ H R ⟨ρ, S, μ, e, s, h⟩ => ?_
  cases hr : te ρ S with
  | bad => simp only [iIt, bnd, hr] at h; exact h.elim
  | ex x S1 =>
    refine .inl ⟨ρ, S, μ, e, s, ?_⟩
    simp only [iIt, bnd, hr] at h
    rw [hr]
    exact h
  | ok d S1 =>
    have h' : Post X.K X.mg W μ σ H (srcL d S1) (fun p μ' H' => ∀ J G, ItOk X.K J p.1 p.2 G → G μ' H' → R J H') := by
      simp only [iIt, bnd, hr] at h; exact h
    unfold srcL at h'
    split at h'
    · refine .inr (.inl ⟨ρ, S, μ, e, s, ?_⟩)
      rw [hr]
      intro μ1 H1 s1 r1 v rv
      have rv0 := rv
      cases rv with
      | tup q z => exact ⟨_, rfl, ⟨_, q⟩, (h'.mono s1).now r1 _ _ it_tup rv0⟩
    · refine .inl ⟨ρ, S, μ, e, s, ?_⟩
      rw [hr]
      intro μ1 H1 s1 r1 v rv
      have rv0 := rv
      cases rv with
      | lst q _ z => exact ⟨_, rfl, ⟨_, .inl (.inl q)⟩, (h'.mono s1).now r1 _ _ (it_seq (.inl rfl)) rv0⟩
    · refine .inl ⟨ρ, S, μ, e, s, ?_⟩
      rw [hr]
      intro μ1 H1 s1 r1 v rv
      obtain ⟨a, vs, rfl, q, z⟩ := iSeq_ok (d := .fl _) (S := S1) rfl r1 rv
      exact ⟨_, rfl, ⟨_, q⟩, (h'.mono s1).now r1 _ _ (it_seq (.inr (.inl rfl))) rv⟩
    · split at h'
      · rename_i ds e1
        refine .inl ⟨ρ, S, μ, e, s, ?_⟩
        rw [hr]
        intro μ1 H1 s1 r1 v rv
        obtain ⟨a, vs, rfl, q, z⟩ := iSeq_ok (d := .ref _) (S := S1) e1 r1 rv
        exact ⟨_, rfl, ⟨_, q⟩, (h'.mono s1).now r1 _ _ (it_seq (.inr (.inr ⟨_, rfl, rfl⟩))) rv⟩
      · exact h'.elim
    · refine .inr (.inr ⟨ρ, S, μ, e, s, ?_⟩)
      rw [hr]
      intro μ1 H1 s1 r1 v rv
      cases rv
      exact ⟨_, rfl, (h'.mono s1).now r1 _ _ it_str trivial⟩
    · exact h'.elim
def bnd62 (j : Int) : Bool := decide (-(2 ^ 62) ≤ j ∧ j < 2 ^ 62)
def srcR1 (xs : List D) : M (Option Nat × List D) := fun S => match xs with
  | [.int j] => if bnd62 j = true then .ok (none, rangeD 0 j.toNat) S else .bad
  | _ => .bad
def srcR2 (xs : List D) : M (Option Nat × List D) := fun S => match xs with
  | [.int i, .int j] => if bnd62 i = true ∧ bnd62 j = true then .ok (none, rangeD i (j - i).toNat) S else .bad
  | _ => .bad
def iRange1 (as : EvL) : EvI := fun ρ => bnd (as ρ) srcR1
def iRange2 (as : EvL) : EvI := fun ρ => bnd (as ρ) srcR2
theorem i_range1 {a : Expr} {ta : EvL} {p pos : Pos} (hg : Gl X "range") (hm : X.mg "range" = none) (ha : PA X [a] (tA X.K X.mg W ta)) (hs : starEach [a] X.env = [(false, eval a X.env)] := by rfl) : PI X tg (.Call (.Name "range" p) [a] [] pos) (tI X.K X.mg W (iRange1 ta)) := by
  refine PI.imp (pi_range1 hg hm ha hs) fun σ H R ⟨ρ, S, μ, e, s, h⟩ => ?_
  refine ⟨ρ, S, μ, e, s, h.bnd fun xs S1 μ1 H1 s1 r1 h1 vs rvs => ?_⟩
  unfold srcR1 at h1
  split at h1
  · split at h1
    · rename_i hb
      unfold bnd62 at hb
      rw [decide_eq_true_eq] at hb
      cases rvs with
      | cons q1 q2 => cases q1; cases q2; exact ⟨_, rfl, hb.1, hb.2, h1.now r1 _ _ it_range trivial⟩
    · exact h1.elim
  · exact h1.elim
theorem i_range2 {a b : Expr} {ta : EvL} {p pos : Pos} (hg : Gl X "range") (hm : X.mg "range" = none) (ha : PA X [a, b] (tA X.K X.mg W ta)) (hs : starEach [a, b] X.env = [(false, eval a X.env), (false, eval b X.env)] := by rfl) (hs2 : starEach [b] X.env = [(false, eval b X.env)] := by rfl) :
    PI X tg (.Call (.Name "range" p) [a, b] [] pos) (tI X.K X.mg W (iRange2 ta)) := by
  refine PI.imp (pi_range2 hg hm ha hs hs2) fun σ H R ⟨ρ, S, μ, e, s, h⟩ => ?_
  refine ⟨ρ, S, μ, e, s, h.bnd fun xs S1 μ1 H1 s1 r1 h1 vs rvs => ?_⟩
  unfold srcR2 at h1
  split at h1
  · split at h1
    · rename_i hb
      unfold bnd62 at hb
      simp only [decide_eq_true_eq] at hb
      cases rvs with
      | cons q1 q2 => cases q2 with
        | cons q2 q3 => cases q1; cases q2; cases q3; exact ⟨_, _, rfl, ⟨hb.1.1, hb.1.2, hb.2.1, hb.2.2⟩, h1.now r1 _ _ it_range trivial⟩
    · exact h1.elim
  · exact h1.elim

/-! ### targets -/
theorem wipe_get (σ : L2.St) : ∀ (vs : List Nat) (j : Nat), (L2.wipe σ vs)[j]? = if j ∈ vs ∧ j < σ.length then some none else σ[j]?
  | [], j => by simp [L2.wipe]
  | v :: vs, j => by
    unfold L2.wipe
    rw [List.getElem?_set, wipe_get σ vs j, L2.wipe_length]
    by_cases h : v = j
    · subst h
      by_cases h2 : v < σ.length
      · simp [h2]
      · simp [h2]
    · have h' : ¬ j = v := fun e => h e.symm
      simp [h, h']
theorem wipe_twice (σ : L2.St) (vs : List Nat) : L2.wipe (L2.wipe σ vs) vs = L2.wipe σ vs := by
  apply List.ext_getElem?
  intro j
  rw [wipe_get, wipe_get, L2.wipe_length]
  split <;> rfl
theorem wipe_set {σ : L2.St} {i : Nat} {x : Option V} {vs : List Nat} (h : i ∈ vs) : L2.wipe (σ.set i x) vs = L2.wipe σ vs := by
  apply List.ext_getElem?
  intro j
  rw [wipe_get, wipe_get, List.length_set]
  by_cases hj : j ∈ vs ∧ j < σ.length
  · rw [if_pos hj, if_pos hj]
  · rw [if_neg hj, if_neg hj, List.getElem?_set]
    by_cases e : i = j
    · subst e
      have hl : ¬ i < σ.length := fun z => hj ⟨h, z⟩
      rw [if_pos rfl, if_neg hl, List.getElem?_eq_none (by omega)]
    · rw [if_neg e]
def GRD (X : Cx) (is : List Nat) (tgt : D → Rho → Option Rho) (g : TG) : Prop := ∀ (d : D) (v : V) (ρ ρ' : Rho) (σ : L2.St) (μ : Mu) (S : Sto) (H : Hp) (Q : L2.St → Hp → Prop), RE X.K μ H σ ρ → Rel X.K μ S H → RD X.K μ H d v → tgt d ρ = some ρ' →
  (∀ σ', RE X.K μ H σ' ρ' → (∀ vs, (∀ i ∈ is, i ∈ vs) → L2.wipe σ' vs = L2.wipe σ vs) → Q σ' H) → g v σ H Q
def gN (i : Nat) : D → Rho → Option Rho := fun d ρ => some (ρ.set i (some d))
theorem g_name (i : Nat) : GRD X [i] (gN i) (gName i) := fun d v ρ ρ' σ μ S H Q e r rd h q => by
  cases h
  exact q _ (e.set rd i) fun vs hv => wipe_set (hv i (by simp))
abbrev TgL := List D → Rho → Option Rho
def gN0 : TgL := fun ds ρ => match ds with
  | [] => some ρ
  | _ => none
def gNs (i : Nat) (t : TgL) : TgL := fun ds ρ => match ds with
  | d :: ds => t ds (ρ.set i (some d))
  | [] => none
def GRDs (X : Cx) (is : List Nat) (tgt : TgL) (g : TGs) : Prop := ∀ (ds : List D) (vs : List V) (ρ ρ' : Rho) (σ : L2.St) (μ : Mu) (S : Sto) (H : Hp) (Q : L2.St → Hp → Prop), RE X.K μ H σ ρ → Rel X.K μ S H → RDs X.K μ H ds vs → tgt ds ρ = some ρ' →
  (∀ σ', RE X.K μ H σ' ρ' → (∀ vs, (∀ i ∈ is, i ∈ vs) → L2.wipe σ' vs = L2.wipe σ vs) → Q σ' H) → g vs σ H Q
theorem gs_nil : GRDs X [] gN0 gNil := fun ds vs ρ ρ' σ μ S H Q e r rd h q => by
  unfold gN0 at h
  split at h
  · cases h; cases rd; exact ⟨rfl, q _ e fun _ _ => rfl⟩
  · cases h
theorem gs_cons (i : Nat) {is : List Nat} {t : TgL} {g : TGs} (ht : GRDs X is t g) : GRDs X (i :: is) (gNs i t) (gCons (gName i) g) := fun ds vs ρ ρ' σ μ S H Q e r rd h q => by
  unfold gNs at h
  split at h
  · cases rd with
    | cons h1 h2 => exact ⟨_, _, rfl, ht _ _ _ _ _ _ _ _ _ (e.set h1 i) r h2 h fun σ' e' w => q σ' e' fun vs hv => (w vs fun j hj => hv j (by simp [hj])).trans (wipe_set (hv i (by simp)))⟩
  · cases h
def gTp (n : Nat) (t : TgL) : D → Rho → Option Rho := fun d ρ => match d with
  | .tup ds => if ds.length = n then t ds ρ else none
  | _ => none
theorem g_tup {n : Nat} {is : List Nat} {t : TgL} {g : TGs} (ht : GRDs X is t g) : GRD X is (gTp n t) (gTup X.K n g) := fun d v ρ ρ' σ μ S H Q e r rd h q => by
  unfold gTp at h
  split at h
  · split at h
    · rename_i hl
      cases rd with
      | tup h1 h2 => exact ⟨_, _, rfl, h1, by rw [← h2.length]; exact hl, ht _ _ _ _ _ _ _ _ _ e r h2 h q⟩
    · cases h
  · cases h

/-! ### comprehensions -/
open Classical in
noncomputable def compM (src : Option Nat) (all : List D) (tgt : D → Rho → Option Rho) (test : EvB) (el : EvD) (ρ : Rho) : List D → M (List D)
  | [] => fun S => if liveOk src all S then .ok [] S else .bad
  | d :: ds => fun S => if liveOk src all S then (match tgt d ρ with
    | some ρ1 => bnd (test ρ1) (fun b => if b = true then bnd (el ρ1) (fun y => bnd (compM src all tgt test el ρ ds) fun ys => ret (y :: ys)) else compM src all tgt test el ρ ds) S
    | none => .bad) else .bad
def noEx {α : Type} (m : M α) : M α := fun S => match m S with
  | .ex _ _ => .bad
  | r => r
noncomputable def eComp (it : EvI) (tgt : D → Rho → Option Rho) (test : EvB) (el : EvD) (vs : List Nat) : EvD := fun ρ => bnd (it ρ) fun p => noEx (fun S => if p.2.length ≤ sizeLine then
  (match compM p.1 p.2 tgt test el (wipeR ρ vs) p.2 S with
    | .ok ys S' => .ok (.lst ys) S'
    | .ex e S' => .ex e S'
    | .bad => .bad) else .bad)
def bYes : EvB := fun _ => ret true
abbrev W0 : WX := fun _ _ _ _ => False
theorem ts_nil : PTs X [] (tT X.K X.mg W bYes) := ⟨fun pins s σ H Q I ⟨ρ, S, μ, e, r, h⟩ => (pts_nil (X := X)).run pins s σ H Q I (show Q true H from h.now r)⟩
theorem ts_one {c : Expr} {t : EvB} (h : PT X c (tT X.K X.mg W t)) : PTs X [c] (tT X.K X.mg W t) := pts_one h
def okR {α : Type} (c : R α) (F : α → Sto → Prop) : Prop := match c with
  | .ok a S => F a S
  | _ => False
theorem Stp.side {μ μ' : Mu} {H H' : Hp} {p : Addr} {o : HO} (s : Stp μ H μ' H') (hp : H p = none) : Stp μ H μ' (upd H' p o) := by
  obtain ⟨q, k, t⟩ := s
  refine ⟨q, fun a u e z => by rw [upd_ne (ne_of_none e hp)]; exact k a u e z, fun a e => ?_⟩
  by_cases z : a = p
  · rw [z, upd_same]; simp
  · rw [upd_ne z]; exact t a e
theorem okR_bnd {α β : Type} {m : M α} {k : α → M β} {S : Sto} {F : β → Sto → Prop} (h : okR (bnd m k S) F) : okR (m S) fun a S' => okR (k a S') F := by
  unfold bnd at h
  cases e : m S with
  | ok a S' => rw [e] at h; exact h
  | ex x S' => rw [e] at h; exact h
  | bad => rw [e] at h; exact h
theorem okR_post {K : PySem.W.Frag} {mg : Str → Option Value} {W : WX} {μ : Mu} {σ : L2.St} {H : Hp} {α : Type} {r : R α} {F : α → Sto → Prop} {Q : α → Mu → Hp → Prop} (h : okR r F) (f : ∀ a S' μ' H', F a S' → Stp μ H μ' H' → Rel K μ' S' H' → Q a μ' H') : Post K mg W μ σ H r Q := by
  cases r with
  | ok a S => exact fun μ' H' s r => f a S μ' H' h s r
  | ex e S => exact False.elim h
  | bad => exact False.elim h
theorem comp_ok {it : EvI} {tgt : D → Rho → Option Rho} {g : TG} {test : EvB} {el : EvD} {is vs : List Nat} (hG : GRD X is tgt g) (his : ∀ i ∈ is, i ∈ vs) {σ : L2.St} {H : Hp} {Q : VK}
    (hh : tD X.K X.mg W (eComp it tgt test el vs) σ H Q) : tLc (tI X.K X.mg W it) g (tT X.K X.mg W0 test) (tD X.K X.mg W0 el) vs σ H Q := by
  obtain ⟨ρ, S, μ, e, s, h⟩ := hh
  refine ⟨ρ, S, μ, e, s, h.bnd fun p S1 μ1 H1 s1 r1 h1 J G io gg D hD => ?_⟩
  obtain ⟨src, all⟩ := p
  simp only [] at io h1
  -- what the denotation says
  obtain ⟨hlen, fin⟩ : all.length ≤ sizeLine ∧ okR (compM src all tgt test el (wipeR ρ vs) all S1) (fun ys S' => ∀ μ' H', Stp μ1 H1 μ' H' → Rel X.K μ' S' H' → QD X.K Q (.lst ys) μ' H') := by
    unfold noEx at h1
    simp only [] at h1
    by_cases hl : all.length ≤ sizeLine
    · refine ⟨hl, ?_⟩
      rw [if_pos hl] at h1
      cases ec : compM src all tgt test el (wipeR ρ vs) all S1 with
      | ok ys S' => rw [ec] at h1; exact h1
      | ex e S' => rw [ec] at h1; exact h1
      | bad => rw [ec] at h1; exact h1
    · rw [if_neg hl] at h1; exact h1.elim
  have hDx : D ∉ μ1.x := fun z => r1.hid D z hD
  let Inv (i : Nat) (Hc : Hp) : Prop := ∃ Sc μc acc as, i ≤ all.length ∧ Stp μ1 H1 μc Hc ∧ Rel X.K (μc.hide D) Sc Hc ∧ RE X.K (μc.hide D) Hc (L2.wipe σ vs) (wipeR ρ vs) ∧ G (μc.hide D) Hc ∧ Hc D = some (.lst acc) ∧ RDs X.K (μc.hide D) Hc as acc ∧ as.length ≤ i ∧
    okR (compM src all tgt test el (wipeR ρ vs) (all.drop i) Sc) (fun ys S' => ∀ μ' H', Stp μ1 H1 μ' H' → Rel X.K μ' S' H' → QD X.K Q (.lst (as ++ ys)) μ' H')
  refine ⟨fun i m Hc => m = all.length - i ∧ Inv i Hc, ⟨all.length, by simp, ?_⟩, ?_⟩
  · refine ⟨S1, μ1, [], [], Nat.zero_le _, Stp.new hD, r1.hide hD, ((e.step s s1).wipe vs).mapR (RD.hide hD), io.hide _ _ _ _ gg hD, upd_same, .nil, Nat.le_refl _, ?_⟩
    simpa using fin
  · rintro i m Hc ⟨rfl, Sc, μc, acc, as, hi2, st, rel, re, hG2, hacc, rds, hal, done⟩
    by_cases hlt : i < all.length
    · right
      have hdrop : all.drop i = all[i] :: all.drop (i + 1) := List.drop_eq_getElem_cons hlt
      rw [hdrop] at done
      unfold compM at done
      by_cases hlive : liveOk src all Sc
      · rw [if_pos hlive] at done
        split at done
        · rename_i ρ1 hρ1
          refine ⟨io.go i _ Sc Hc hlt rel hlive hG2, fun H' => Inv (i + 1) H', fun H' q => ⟨all.length - (i + 1), by omega, rfl, q⟩, fun x H' y => ?_⟩
          obtain ⟨sy, ry, d, hd, rd⟩ := io.yld i x _ Sc Hc H' hlt rel hlive hG2 y
          rw [List.getElem?_eq_getElem hlt] at hd
          cases hd
          obtain ⟨μy, ey, sty⟩ := sy.show
          have eμ : μy = μc := by
            obtain ⟨v1, x1⟩ := μy
            obtain ⟨v2, x2⟩ := μc
            simp only [Mu.hide, Mu.mk.injEq, List.cons.injEq, true_and] at ey
            obtain ⟨rfl, rfl⟩ := ey
            rfl
          subst eμ
          have notv : ∀ (μ : Mu) (Sx : Sto) (Hx : Hp), Rel X.K (μ.hide D) Sx Hx → D ∉ (μ.hide D).v := fun μ Sx Hx r z => r.apt D z List.mem_cons_self
          have haccy : H' D = some (.lst acc) := sy.keep D _ hacc (notv _ _ _ rel)
          refine hG _ _ _ ρ1 _ _ Sc H' _ (re.step rel sy) ry rd hρ1 fun σ2 re2 hw => ⟨(hw vs his).trans (wipe_twice σ vs), ρ1, Sc, _, re2, ry, ?_⟩
          have done2 := okR_bnd done
          refine okR_post done2 fun b S2 μ2 H3 db s3 r3 => ?_
          obtain ⟨μ2', rfl, st3⟩ := s3.show
          have haccb : H3 D = some (.lst acc) := s3.keep D _ haccy (notv _ _ _ ry)
          have rds3 := (rds.step rel sy).step ry s3
          have re3 := (re.step rel sy).step ry s3
          have g3 := io.step _ _ _ _ _ (io.step _ _ _ _ _ hG2 rel sy) ry s3
          have stt := (st.trans sty).trans st3
          cases b with
          | false =>
            rw [if_neg Bool.false_ne_true] at db ⊢
            exact ⟨S2, μ2', acc, as, hlt, stt, r3, re3, g3, haccb, rds3, Nat.le_succ_of_le hal, db⟩
          | true =>
            rw [if_pos rfl] at db ⊢
            refine ⟨ρ1, S2, _, re2.step ry s3, r3, ?_⟩
            refine okR_post (okR_bnd db) fun yv S4 μ4 H4 d4 s4 r4 v rv => ?_
            obtain ⟨μ4', rfl, st4⟩ := s4.show
            have hacc4 : H4 D = some (.lst acc) := s4.keep D _ haccb (notv _ _ _ r3)
            have rds4 := rds3.step r3 s4
            refine ⟨acc, hacc4, by rw [← rds4.length]; omega, S4, μ4', acc ++ [v], as ++ [yv], hlt, (stt.trans st4).side hD, r4.seen hacc4, (re3.step r3 s4).mapR (RD.seen hacc4), io.seen _ _ _ _ _ (io.step _ _ _ _ _ g3 r3 s4) hacc4, upd_same,
              RDs.seen hacc4 _ _ (rds4.append (.cons rv .nil)), by simp; omega, ?_⟩
            have d5 := okR_bnd d4
            unfold okR at d5 ⊢
            split
            · rename_i ys S' hys
              rw [hys] at d5
              intro μ' H5 sx rx
              have := d5 μ' H5 sx rx
              simpa using this
            · rename_i hno
              split at d5
              · rename_i a S' hh; exact absurd hh (hno a S')
              · exact d5
        · exact done.elim
      · rw [if_neg hlive] at done; exact done.elim
    · left
      have hi3 : i = all.length := by omega
      subst hi3
      rw [List.drop_length] at done
      unfold compM at done
      by_cases hlive : liveOk src all Sc
      · rw [if_pos hlive] at done
        refine ⟨io.stop _ Sc Hc rel hlive hG2, ?_⟩
        have z := done μc Hc st rel.show
        refine z _ (.lst hacc ⟨fun w => rel.apt D w List.mem_cons_self, by rw [st.x]; exact hDx⟩ ?_)
        simpa using rds.show
      · rw [if_neg hlive] at done; exact done.elim
theorem d_comp {elt iter : Expr} {ifs : List Expr} {scope : Scope} {own : List (Str × Nat)} {vs : List Nat} {pos : Pos} {it : EvI} {tgt : D → Rho → Option Rho} {g : TG} {test : EvB} {el : EvD} {is : List Nat} (hc : X.calm = true) (hN : X.N.Nodup)
    (hi : PI X tg iter (tI X.K X.mg W it)) (ok : BlkOk X.N X.env.scope scope own) (hv : own.map (·.2) = vs) (hG : GRD X is tgt g) (his : ∀ i ∈ is, i ∈ vs)
    (hg : ∀ (s : Shared) (H : Hp) (C : Addr) (cl : List (Str × Addr)) (fp : List Addr), PG (X.blk s H scope (compEnvC scope cl C X.env) fp) tg g)
    (ht : ∀ (s : Shared) (H : Hp) (C : Addr) (cl : List (Str × Addr)) (fp : List Addr), PTs (X.blk s H scope (compEnvC scope cl C X.env) fp) ifs (tT X.K X.mg W0 test))
    (he : ∀ (s : Shared) (H : Hp) (C : Addr) (cl : List (Str × Addr)) (fp : List Addr), PE (X.blk s H scope (compEnvC scope cl C X.env) fp) elt (tD X.K X.mg W0 el)) (hs : ∀ x, foldedSetIterable iter X.env x = pure x := by intro _; rfl) :
    PE X (.ListComp elt [⟨tg, iter, ifs, 0⟩] scope pos) (tD X.K X.mg W (eComp it tgt test el vs)) := by
  subst hv
  exact PE.imp (pe_lc hc hN hi ok hg ht he hs) fun σ H Q h => comp_ok hG his h
end
end DL

/-! DL5: statements, defs. -/
namespace DL
open PySem L2 PyProof.Rows

inductive Out where
  | nx (ρ : Rho) | rt (d : D) | bk (ρ : Rho) | ct (ρ : Rho) | xc (e : Exc) (ρ : Rho)
abbrev EvS := Rho → M Out
/-- an expression within a statement -/
def lft {α : Type} (ρ : Rho) (m : M α) (k : α → M Out) : M Out := fun S => match m S with
  | .ok a S' => k a S'
  | .ex e S' => .ok (.xc e ρ) S'
  | .bad => .bad
section
variable (K : PySem.W.Frag) (mg : Str → Option Value) (W : WX)
def OutOk (E : Ends) (o : Out) (μ : Mu) (H : Hp) : Prop := match o with
  | .nx ρ => ∀ σ, RE K μ H σ ρ → E.nx σ H
  | .rt d => ∀ v, RD K μ H d v → E.rt v H
  | .bk ρ => ∀ σ, RE K μ H σ ρ → E.bk σ H
  | .ct ρ => ∀ σ, RE K μ H σ ρ → E.ct σ H
  | .xc e ρ => ∀ σ c od, RE K μ H σ ρ → RX K mg μ H e c od → W c od σ H
def PostO (E : Ends) (μ : Mu) (H : Hp) (r : R Out) : Prop := okR r fun o S' => ∀ μ' H', Stp μ H μ' H' → Rel K μ' S' H' → OutOk K mg W E o μ' H'
def tS (G : EvS) : TS := fun E σ H => ∃ ρ S μ, RE K μ H σ ρ ∧ Rel K μ S H ∧ PostO K mg W E μ H (G ρ S)
end
section
variable {K : PySem.W.Frag} {mg : Str → Option Value} {W : WX} {μ μ1 : Mu} {σ : L2.St} {H H1 : Hp} {E : Ends}
theorem PostO.mono {r : R Out} (h : PostO K mg W E μ H r) (s : Stp μ H μ1 H1) : PostO K mg W E μ1 H1 r := by
  cases r with
  | ok o S => exact fun μ' H' q r => h μ' H' (s.trans q) r
  | ex e S => exact h
  | bad => exact h
theorem PostO.now {o : Out} {S : Sto} (h : PostO K mg W E μ H (.ok o S)) (r : Rel K μ S H) : OutOk K mg W E o μ H := h μ H .refl r
theorem PostO.lft {α : Type} {m : M α} {k : α → M Out} {S : Sto} {ρ : Rho} {Q : α → Mu → Hp → Prop} (h : PostO K mg W E μ H (lft ρ m k S)) (e : RE K μ H σ ρ) (r : Rel K μ S H)
    (f : ∀ a S1 μ1 H1, Stp μ H μ1 H1 → Rel K μ1 S1 H1 → RE K μ1 H1 σ ρ → PostO K mg W E μ1 H1 (k a S1) → Q a μ1 H1) : Post K mg W μ σ H (m S) Q := by
  unfold DL.lft at h
  cases hm : m S with
  | ok a S1 =>
    rw [hm] at h
    exact fun μ' H' s r' => f a S1 μ' H' s r' (e.step r s) (h.mono s)
  | ex x S1 =>
    rw [hm] at h
    exact fun μ' H' c od s r' rx => h μ' H' s r' σ c od (e.step r s) rx
  | bad => rw [hm] at h; exact h
end
def sAsg (tgt : D → Rho → Option Rho) (F : EvD) : EvS := fun ρ => lft ρ (F ρ) fun d S => match tgt d ρ with
  | some ρ' => .ok (.nx ρ') S
  | none => .bad
def sExpr (F : EvD) : EvS := fun ρ => lft ρ (F ρ) fun _ => ret (.nx ρ)
def sRet (F : EvD) : EvS := fun ρ => lft ρ (F ρ) fun d => ret (.rt d)
def sRetN : EvS := fun _ => ret (.rt .non)
def sIf (c : EvB) (a b : EvS) : EvS := fun ρ => lft ρ (c ρ) fun k => if k = true then a ρ else b ρ
def sNil : EvS := fun ρ => ret (.nx ρ)
def sBrk : EvS := fun ρ => ret (.bk ρ)
def sCnt : EvS := fun ρ => ret (.ct ρ)
def sBad : EvS := fun _ => stuck
def sSeq (a b : EvS) : EvS := fun ρ S => match a ρ S with
  | .ok (.nx ρ') S' => b ρ' S'
  | r => r
def gSet (o i d : D) : M Unit := fun S => match o, i with
  | .ref n, .int k => match atL S n with
    | some ds => match ixN ds.length k with
      | some j => .ok () (S.set n (.lst (ds.set j d)))
      | none => .bad
    | none => .bad
  | _, _ => .bad
def sSub (F Fo Fi : EvD) : EvS := fun ρ => lft ρ (F ρ) fun d => lft ρ (Fo ρ) fun o => lft ρ (Fi ρ) fun i => lft ρ (gSet o i d) fun _ => ret (.nx ρ)
open Classical in
noncomputable def forM (src : Option Nat) (all : List D) (tgt : D → Rho → Option Rho) (body : EvS) : List D → Rho → M Out
  | [], ρ => fun S => if liveOk src all S then .ok (.nx ρ) S else .bad
  | d :: ds, ρ => fun S => if liveOk src all S then (match tgt d ρ with
    | some ρ1 => match body ρ1 S with
      | .ok (.nx ρ2) S2 => forM src all tgt body ds ρ2 S2
      | .ok (.ct ρ2) S2 => forM src all tgt body ds ρ2 S2
      | .ok (.bk ρ2) S2 => .ok (.nx ρ2) S2
      | r => r
    | none => .bad) else .bad
noncomputable def sFor (it : EvI) (tgt : D → Rho → Option Rho) (body : EvS) : EvS := fun ρ => lft ρ (it ρ) fun p => forM p.1 p.2 tgt body p.2 ρ
def whileM (c : EvB) (body : EvS) : Nat → Rho → M Out
  | 0, _ => stuck
  | f + 1, ρ => lft ρ (c ρ) fun k => if k = true then (fun S => match body ρ S with
    | .ok (.nx ρ2) S2 => whileM c body f ρ2 S2
    | .ok (.ct ρ2) S2 => whileM c body f ρ2 S2
    | .ok (.bk ρ2) S2 => .ok (.nx ρ2) S2
    | r => r) else ret (.nx ρ)
def sWhile (fu : Nat) (c : EvB) (body : EvS) : EvS := whileM c body fu

section
variable {X : Cx} {W : WX} {pos : Pos}
theorem s_asg {tg e : Expr} {F : EvD} {is : List Nat} {tgt : D → Rho → Option Rho} {g : TG} (he : PE X e (tD X.K X.mg W F)) (hG : GRD X is tgt g) (hg : PG X tg g) (hs : swapsWithSole [tg] e pos.line X.env = pure false := by rfl) (hw : swappedStores [tg] e X.env = pure none := by rfl)
    (h1 : (assignEach [tg] X.env).map (·.2) = [assign tg X.env] := by rfl) : PS X (.Assign [tg] e pos) (tS X.K X.mg W (sAsg tgt F)) := by
  refine PS.imp (ps_asg he hg hs hw h1) fun E σ H ⟨ρ, S, μ, e, s, h⟩ => ?_
  refine ⟨ρ, S, μ, e, s, h.lft e s fun d S1 μ1 H1 s1 r1 e1 h1 v rv => ?_⟩
  split at h1
  · rename_i ρ' et
    exact hG _ _ _ _ _ _ _ _ _ e1 r1 rv et fun σ' e' _ => h1.now r1 σ' e'
  · exact h1.elim
theorem s_expr {e : Expr} {F : EvD} (he : PE X e (tD X.K X.mg W F)) (hs : swapsWith e none pos.line X.env = pure false := by rfl) : PS X (.Expr e pos) (tS X.K X.mg W (sExpr F)) := by
  refine PS.imp (ps_expr he hs) fun E σ H ⟨ρ, S, μ, e, s, h⟩ => ?_
  exact ⟨ρ, S, μ, e, s, h.lft e s fun d S1 μ1 H1 s1 r1 e1 h1 v rv => h1.now r1 σ e1⟩
theorem s_ret {e : Expr} {F : EvD} (he : PE X e (tD X.K X.mg W F)) : PS X (.Return (some e) pos) (tS X.K X.mg W (sRet F)) := by
  refine PS.imp (ps_ret he) fun E σ H ⟨ρ, S, μ, e, s, h⟩ => ?_
  exact ⟨ρ, S, μ, e, s, h.lft e s fun d S1 μ1 H1 s1 r1 e1 h1 v rv => h1.now r1 v rv⟩
theorem s_retN : PS X (.Return none pos) (tS X.K X.mg W sRetN) := by
  refine PS.imp ps_retN fun E σ H ⟨ρ, S, μ, e, s, h⟩ => ?_
  exact h.now s _ .non
theorem s_if {c : Expr} {a b : List Stmt} {tc : EvB} {ta tb : EvS} (hc : PT X c (tT X.K X.mg W tc)) (ha : PSs X a (tS X.K X.mg W ta)) (hb : PSs X b (tS X.K X.mg W tb)) : PS X (.If c a b pos) (tS X.K X.mg W (sIf tc ta tb)) := by
  refine PS.imp (ps_if hc ha hb) fun E σ H ⟨ρ, S, μ, e, s, h⟩ => ?_
  refine ⟨ρ, S, μ, e, s, h.lft e s fun k S1 μ1 H1 s1 r1 e1 h1 => ?_⟩
  cases k with
  | true => rw [if_pos rfl] at h1 ⊢; exact ⟨ρ, S1, μ1, e1, r1, h1⟩
  | false => rw [if_neg Bool.false_ne_true] at h1 ⊢; exact ⟨ρ, S1, μ1, e1, r1, h1⟩
theorem s_pass : PS X (.Pass pos) (tS X.K X.mg W sNil) := PS.imp ps_pass fun E σ H ⟨ρ, S, μ, e, s, h⟩ => h.now s σ e
theorem s_brk : PS X (.Break pos) (tS X.K X.mg W sBrk) := PS.imp ps_break fun E σ H ⟨ρ, S, μ, e, s, h⟩ => h.now s σ e
theorem s_cnt : PS X (.Continue pos) (tS X.K X.mg W sCnt) := PS.imp ps_continue fun E σ H ⟨ρ, S, μ, e, s, h⟩ => h.now s σ e
theorem s_bad {st : Stmt} : PS X st (tS X.K X.mg W sBad) := PS.imp ps_never fun E σ H ⟨ρ, S, μ, e, s, h⟩ => h
theorem ss_nil : PSs X [] (tS X.K X.mg W sNil) := PSs.imp pss_nil fun E σ H ⟨ρ, S, μ, e, s, h⟩ => h.now s σ e
theorem ss_one {st : Stmt} {t : EvS} (h : PS X st (tS X.K X.mg W t)) : PSs X [st] (tS X.K X.mg W t) := pss_one h
theorem ss_cons {st : Stmt} {rest : List Stmt} {t u : EvS} (h1 : PS X st (tS X.K X.mg W t)) (h2 : PSs X rest (tS X.K X.mg W u)) : PSs X (st :: rest) (tS X.K X.mg W (sSeq t u)) := by
  refine PSs.imp (pss_cons h1 h2) fun E σ H ⟨ρ, S, μ, e, s, h⟩ => ?_
  refine ⟨ρ, S, μ, e, s, ?_⟩
  unfold sSeq at h
  cases ht : t ρ S with
  | ok o S1 =>
    rw [ht] at h
    intro μ1 H1 s1 r1
    cases o with
    | nx ρ' => exact fun σ' e' => ⟨ρ', S1, μ1, e', r1, h.mono s1⟩
    | rt d => exact (h.mono s1).now r1
    | bk ρ' => exact (h.mono s1).now r1
    | ct ρ' => exact (h.mono s1).now r1
    | xc x ρ' => exact (h.mono s1).now r1
  | ex x S1 => rw [ht] at h; exact h
  | bad => rw [ht] at h; exact h
theorem s_sub {o i e : Expr} {F Fo Fi : EvD} {p2 : Pos} (he : PE X e (tD X.K X.mg W F)) (ho : PE X o (tD X.K X.mg W Fo)) (hi : PE X i (tD X.K X.mg W Fi))
    (ha : ∀ v, assign (.Subscript o i p2) X.env v = (do
      let ov ← holding [v] (eval o X.env)
      let iv ← holding [v, ov] (eval i X.env)
      standAt p2
      holding [v, ov, iv] (setItem ov iv v)
      release [v, ov, iv] []) := by intro _; rfl)
    (hs : swapsWithSole [.Subscript o i p2] e pos.line X.env = pure false := by rfl) (hw : swappedStores [.Subscript o i p2] e X.env = pure none := by rfl)
    (h1 : (assignEach [.Subscript o i p2] X.env).map (·.2) = [assign (.Subscript o i p2) X.env] := by rfl) : PS X (.Assign [.Subscript o i p2] e pos) (tS X.K X.mg W (sSub F Fo Fi)) := by
  refine PS.imp (ps_asg he (pg_sub ho hi set_list ha) hs hw h1) fun E σ H ⟨ρ, S, μ, e, s, h⟩ => ?_
  refine ⟨ρ, S, μ, e, s, h.lft e s fun d S1 μ1 H1 s1 r1 e1 h1 v rv => ?_⟩
  refine ⟨ρ, S1, μ1, e1, r1, h1.lft e1 r1 fun ov S2 μ2 H2 s2 r2 e2 h2 w rw => ?_⟩
  refine ⟨ρ, S2, μ2, e2, r2, h2.lft e2 r2 fun iv S3 μ3 H3 s3 r3 e3 h3 u ru => ?_⟩
  have rv3 := (rv.step r1 s2).step r2 s3
  have rw3 := rw.step r2 s3
  unfold lft gSet at h3
  simp only [] at h3
  split at h3
  · rename_i a S4 heq
    split at heq
    · split at heq
      · rename_i ds eL
        split at heq
        · rename_i j ej
          cases heq
          cases ru
          cases rw3 with
          | @ref n a hn =>
            obtain ⟨vs, q, z⟩ := r3.obj _ a _ hn (atL_ok eL)
            have hm : a ∈ μ3.v := List.mem_of_getElem? hn
            refine ⟨a, vs, _, j, rfl, rfl, q, by rw [← z.length]; exact ej, ?_⟩
            exact h3 μ3 _ (Stp.put hm) (r3.put hn ⟨_, upd_same, (z.step r3 (Stp.put hm)).set j (rv3.step r3 (Stp.put hm))⟩) σ (e3.step r3 (Stp.put hm))
        · cases heq
      · cases heq
    · cases heq
  · rename_i x S4 heq
    split at heq
    · split at heq
      · split at heq <;> cases heq
      · cases heq
    · cases heq
  · exact h3.elim
theorem s_for {tg iter : Expr} {body : List Stmt} {it : EvI} {is : List Nat} {tgt : D → Rho → Option Rho} {g : TG} {tb : EvS} (hp : PassesOwn (model X.prog X.w) X.A X.env X.xe) (hc : X.calm = true) (hi : PI X tg iter (tI X.K X.mg W it)) (hG : GRD X is tgt g) (hg : PG X tg g) (hb : PSs X body (tS X.K X.mg W tb))
    (hs : ∀ x, foldedSetIterable iter X.env x = pure x := by intro _; rfl) : PS X (.For tg iter body [] pos) (tS X.K X.mg W (sFor it tgt tb)) := by
  refine PS.imp (ps_for hp hc hi hg hb hs) fun E σ H ⟨ρ, S, μ, e, s, h⟩ => ?_
  refine ⟨ρ, S, μ, e, s, h.lft e s fun p S1 μ1 H1 s1 r1 e1 h1 J G io gg => ?_⟩
  obtain ⟨src, all⟩ := p
  simp only [] at io h1
  let Iv (i : Nat) (σc : L2.St) (Hc : Hp) : Prop := ∃ ρc Sc μc, i ≤ all.length ∧ RE X.K μc Hc σc ρc ∧ Rel X.K μc Sc Hc ∧ G μc Hc ∧ PostO X.K X.mg W E μc Hc (forM src all tgt tb (all.drop i) ρc Sc)
  refine ⟨fun i m σc Hc => m = all.length - i ∧ Iv i σc Hc, ⟨all.length, by simp, ρ, S1, μ1, Nat.zero_le _, e1, r1, gg, by simpa using h1⟩, ?_⟩
  rintro i m σc Hc ⟨rfl, ρc, Sc, μc, hi2, ec, rc, gc, done⟩
  by_cases hlt : i < all.length
  · right
    have hdrop : all.drop i = all[i] :: all.drop (i + 1) := List.drop_eq_getElem_cons hlt
    rw [hdrop] at done
    unfold forM at done
    by_cases hlive : liveOk src all Sc
    · rw [if_pos hlive] at done
      split at done
      · rename_i ρ1 hρ1
        refine ⟨io.go i _ Sc Hc hlt rc hlive gc, fun σ' H' => Iv (i + 1) σ' H', fun σ' H' q => ⟨all.length - (i + 1), by omega, rfl, q⟩, fun x H' y => ?_⟩
        obtain ⟨sy, ry, d, hd, rd⟩ := io.yld i x _ Sc Hc H' hlt rc hlive gc y
        rw [List.getElem?_eq_getElem hlt] at hd
        cases hd
        have gy := io.step _ _ _ _ _ gc rc sy
        refine hG _ _ _ ρ1 _ _ Sc H' _ (ec.step rc sy) ry rd hρ1 fun σ2 re2 _ => ⟨ρ1, Sc, _, re2, ry, ?_⟩
        unfold PostO at done ⊢
        cases hbd : tb ρ1 Sc with
        | ok o S2 =>
          rw [hbd] at done
          intro μ2 H2 s2 r2
          have sa := sy.trans s2
          cases o with
          | nx ρ2 => exact fun σ3 e3 => ⟨ρ2, S2, μ2, hlt, e3, r2, io.step _ _ _ _ _ gy ry s2, PostO.mono done sa⟩
          | ct ρ2 => exact fun σ3 e3 => ⟨ρ2, S2, μ2, hlt, e3, r2, io.step _ _ _ _ _ gy ry s2, PostO.mono done sa⟩
          | bk ρ2 => exact fun σ3 e3 => (PostO.mono done sa).now r2 σ3 e3
          | rt d2 => exact (PostO.mono done sa).now r2
          | xc x2 ρ2 => exact (PostO.mono done sa).now r2
        | ex x2 S2 => rw [hbd] at done; exact done
        | bad => rw [hbd] at done; exact done
      · exact done.elim
    · rw [if_neg hlive] at done; exact done.elim
  · left
    have hi3 : i = all.length := by omega
    subst hi3
    rw [List.drop_length] at done
    unfold forM at done
    by_cases hlive : liveOk src all Sc
    · rw [if_pos hlive] at done
      exact ⟨io.stop _ Sc Hc rc hlive gc, done.now rc σc ec⟩
    · rw [if_neg hlive] at done; exact done.elim
theorem s_while (fu : Nat) {c : Expr} {body : List Stmt} {tc : EvB} {tb : EvS} (hp : PassesOwn (model X.prog X.w) X.A X.env X.xe) (hc : PT X c (tT X.K X.mg W tc)) (hb : PSs X body (tS X.K X.mg W tb)) : PS X (.While c body [] pos) (tS X.K X.mg W (sWhile fu tc tb)) := by
  refine PS.imp (ps_while hp hc hb) fun E σ H ⟨ρ, S, μ, e, s, h⟩ => ?_
  refine ⟨fun m σc Hc => ∃ ρc Sc μc, RE X.K μc Hc σc ρc ∧ Rel X.K μc Sc Hc ∧ PostO X.K X.mg W E μc Hc (whileM tc tb m ρc Sc), ⟨fu, ρ, S, μ, e, s, h⟩, ?_⟩
  rintro m σc Hc ⟨ρc, Sc, μc, ec, rc, done⟩
  cases m with
  | zero => exact done.elim
  | succ m =>
    unfold whileM at done
    refine ⟨ρc, Sc, μc, ec, rc, done.lft ec rc fun k S1 μ1 H1 s1 r1 e1 h1 => ?_⟩
    cases k with
    | false => rw [if_neg Bool.false_ne_true] at h1 ⊢; exact h1.now r1 σc e1
    | true =>
      rw [if_pos rfl] at h1 ⊢
      refine ⟨fun σ' H' => ∃ ρc Sc μc, RE X.K μc H' σ' ρc ∧ Rel X.K μc Sc H' ∧ PostO X.K X.mg W E μc H' (whileM tc tb m ρc Sc), fun σ' H' q => ⟨m, Nat.lt_succ_self m, q⟩, ρc, S1, μ1, e1, r1, ?_⟩
      cases hbd : tb ρc S1 with
      | ok o S2 =>
        rw [hbd] at h1
        intro μ2 H2 s2 r2
        cases o with
        | nx ρ2 => exact fun σ3 e3 => ⟨ρ2, S2, μ2, e3, r2, PostO.mono h1 s2⟩
        | ct ρ2 => exact fun σ3 e3 => ⟨ρ2, S2, μ2, e3, r2, PostO.mono h1 s2⟩
        | bk ρ2 => exact fun σ3 e3 => (PostO.mono h1 s2).now r2 σ3 e3
        | rt d2 => exact (PostO.mono h1 s2).now r2
        | xc x2 ρ2 => exact (PostO.mono h1 s2).now r2
      | ex x2 S2 => rw [hbd] at h1; exact h1
      | bad => rw [hbd] at h1; exact h1
end

/-! ### defs -/
def startR (n : Nat) (ds : List D) : Rho := ds.map some ++ List.replicate (n - ds.length) none
/-- a def's end: what it made and nobody sees any more is forgotten; keep: nothing is -/
def finD (keep : Bool) (n : Nat) (d : D) : M D := fun S => if keep = true then .ok d S else
  if (S.take n).all (MO.lo n) = true then
    (if d.lo n = true then .ok d (S.take n) else match d with
      | .ref k => match atL S k with
        | some ds => if n ≤ k ∧ D.los n ds = true then .ok (.lst ds) (S.take n) else .bad
        | none => .bad
      | _ => .bad)
  else .bad
def runDef (keep : Bool) (n : Nat) (body : EvS) (ds : List D) : M D := fun S => match body (startR n ds) S with
  | .ok (.rt d) S' => finD keep S.length d S'
  | .ok (.nx _) S' => finD keep S.length .non S'
  | .ok (.xc e _) S' => .ex e S'
  | _ => .bad
def spD (K : PySem.W.Frag) (mg : Str → Option Value) (ar : Nat) (G : List D → M D) : Sp := fun vs H Q E => ∃ μ S ds, ds.length = ar ∧ RDs K μ H ds vs ∧ Rel K μ S H ∧ Post K mg (fun c od _ H => E c od H) μ [] H (G ds S) (QD K Q)
theorem start_rel {K : PySem.W.Frag} {μ : Mu} {H : Hp} {N : List Str} {ds : List D} {vs : List V} (h : RDs K μ H ds vs) : RE K μ H (L2.start N vs) (startR N.length ds) := by
  have hl := h.length
  refine ⟨by simp [L2.start, startR, hl], fun i d e => ?_⟩
  unfold startR at e
  unfold L2.start
  by_cases hi : i < ds.length
  · rw [List.getElem?_append_left (by simpa using hi), List.getElem?_map, Option.map_eq_some_iff] at e
    obtain ⟨d', e1, e2⟩ := e
    cases e2
    obtain ⟨v, ev, rv⟩ := h.get e1
    exact ⟨v, by rw [List.getElem?_append_left (by rw [List.length_map]; omega), List.getElem?_map, ev]; rfl, rv⟩
  · rw [List.getElem?_append_right (by simpa using hi), List.getElem?_replicate] at e
    split at e <;> simp at e
theorem fin_ok {K : PySem.W.Frag} {mg : Str → Option Value} {W : WX} {μ : Mu} {S : Sto} {σ : L2.St} {H : Hp} {keep : Bool} {d : D} {S' : Sto} {Q : VK} (h : Post K mg W μ σ H (finD keep S.length d S') (QD K Q)) (r : Rel K μ S H) :
    ∀ μ' H', Stp μ H μ' H' → Rel K μ' S' H' → ∀ v, RD K μ' H' d v → Q v H' := by
  intro μ' H' s r' v rv
  unfold finD at h
  split at h
  · exact h μ' H' s r' v rv
  · split at h
    · rename_i hb
      have sc := s.cut
      rw [r.len] at sc
      split at h
      · rename_i hd
        exact h _ H' sc (r'.cut hb) v (rv.cut _ _ hd)
      · split at h
        · rename_i k
          split at h
          · rename_i ds e
            split at h
            · rename_i hc
              exact h _ H' sc (r'.cut hb) v (RD.freed r' rv hc.1 (atL_ok e) hc.2)
            · exact h.elim
          · exact h.elim
        · exact h.elim
    · exact h.elim
section
variable {P : Program} {w : World} {K : PySem.W.Frag} {mg : Str → Option Value} {base : Heap}
abbrev WD (E : XK) : WX := fun c od _ H => E c od H
/-- a def by its body -/
theorem fn_ok {x qual : Str} {st : Stmt} {f : Addr} {fd : FuncData} {N ps : List Str} {k : Nat} {keep : Bool} {body : EvS} (F : Fun K x qual st f fd) (S : FnScope N ps (defScope st))
    (hbody : ∀ (cdv : Value) (A : Around) (outer : List Env) (s : Shared) (H : Hp) (E : XK), Room k (A.deeper (envOfC qual (defScope st) s.heap.objs.size f cdv)) →
      PSs (cxOf (L2.CX P w) P w K mg base N qual (defScope st) f cdv A outer s H E) (defBody st) (tS K mg (WD E) body)) :
    FnOk P w K mg base (L2.CX P w) (k + 1) f fd ps (spD K mg ps.length (runDef keep N.length body)) := by
  refine F.okX S (fun vs H Q E ⟨μ, S, ds, hl, h, _⟩ => by rw [← h.length]; exact hl) fun cdv A outer s H vs Q E hr ⟨μ, Sx, ds, hl, hd, r, hp⟩ => ?_
  refine ⟨_, hbody cdv A outer s H E hr, startR N.length ds, Sx, μ, start_rel hd, r, ?_⟩
  unfold runDef at hp
  cases hb : body (startR N.length ds) Sx with
  | ok o S' =>
    rw [hb] at hp
    cases o with
    | nx ρ' => exact fun μ' H' s' r' σ' _ => fin_ok hp r μ' H' s' r' _ .non
    | rt d => exact fun μ' H' s' r' v rv => fin_ok hp r μ' H' s' r' v rv
    | bk ρ' => exact hp.elim
    | ct ρ' => exact hp.elim
    | xc e ρ' => exact fun μ' H' s' r' σ' c od _ rx => hp μ' H' c od s' r' rx
  | ex e S' => rw [hb] at hp; exact hp.elim
  | bad => rw [hb] at hp; exact hp.elim
end
section
variable {X : Cx} {W : WX} {pos : Pos}
/-- so many arguments -/
def cl (n : Nat) (G : List D → M D) : List D → M D := fun ds => if ds.length = n then G ds else stuck
/-- a call of a def -/
theorem d_call {k n : Nat} {f : Addr} {fd : FuncData} {ps : List Str} {x : Str} {p : Pos} {e : Expr} {es : List Expr} {G : List D → M D} {t : EvL} (F : FnOk X.prog X.w X.K X.mg X.base (L2.CX X.prog X.w) k f fd ps (spD X.K X.mg ps.length G)) (hr : Room k X.A)
    (hg : Gl X x) (hm : X.mg x = some (.ref f)) (hk : PySem.W.keepIn X.K (.ref f) = true) (hb : Binds X.K fd ps []) (tk : Takes X W) (ha : PA X (e :: es) (tA X.K X.mg W t)) (hlen : ps.length = n := by rfl) (hdb : (x == ("__debug__" : Str)) = false := by decide)
    (he : starEach (e :: es) X.env = (false, eval e X.env) :: starEach es X.env := by rfl) (hpl : (backTo pos (starEach es X.env)).any (·.1) = false := by rfl) :
    PE X (.Call (.Name x p) (e :: es) [] pos) (tD X.K X.mg W (eCall (cl n G) t)) := by
  subst hlen
  refine PE.imp (pe_callS F hr hg hm hk hb (fun σ => passAt tk σ) ha hdb he hpl) fun σ H Q ⟨ρ, S, μ, e, s, h⟩ => ?_
  refine ⟨ρ, S, μ, e, s, h.bnd fun ds S1 μ1 H1 s1 r1 h1 vs rvs => ?_⟩
  unfold cl at h1
  split at h1
  · rename_i hl
    refine ⟨μ1, S1, ds, hl, rvs, r1, ?_⟩
    cases hg : G ds S1 with
    | ok d S2 => rw [hg] at h1; exact h1
    | ex x S2 => rw [hg] at h1; exact h1
    | bad => rw [hg] at h1; exact h1
  · exact h1.elim
end
end DL

/-! DL6: short words. -/
namespace DL
open PySem L2 PyProof.Rows
/-- a module's constant -/
def GV (K : PySem.W.Frag) (mg : Str → Option Value) (x : Str) (d : D) : Prop := ∃ u v, mg x = some u ∧ RelV v u ∧ ∀ μ H, RD K μ H d v
structure DefAt (K : PySem.W.Frag) (mg : Str → Option Value) (x : Str) (st : Stmt) (ps : List Str) (f : Addr) (fd : FuncData) : Prop where
  fn : Fun K x x st f fd
  mg : mg x = some (.ref f)
  bi : Binds K fd ps []
section
variable {X : Cx} {W : WX} {pos : Pos}
theorem d_globv {x : Str} {d : D} (g : GV X.K X.mg x d) (hg : Gl X x := by rfl) (hdb : (x == ("__debug__" : Str)) = false := by decide) : PE X (.Name x pos) (tD X.K X.mg W (eC d)) := by
  obtain ⟨u, v, h1, h2, h3⟩ := g
  exact d_glob hg h1 h2 h3 hdb
theorem s_set (i : Nat) {x : Str} {p : Pos} {e : Expr} {F : EvD} (hN : X.N.Nodup) (he : PE X e (tD X.K X.mg W F)) (hi : X.N[i]? = some x := by rfl) (hx : Loc X.env.scope x := by first | exact Or.inl rfl | exact Or.inr rfl)
    (hf : X.fn x = true ∨ X.env.scope.names.lookup x = some .local := by first | exact .inl rfl | exact .inr rfl | assumption)
    (hs : swapsWithSole [.Name x p] e pos.line X.env = pure false := by rfl) (hw : swappedStores [.Name x p] e X.env = pure none := by rfl)
    (h1 : (assignEach [.Name x p] X.env).map (·.2) = [assign (.Name x p) X.env] := by rfl) : PS X (.Assign [.Name x p] e pos) (tS X.K X.mg W (sAsg (gN i) F)) :=
  s_asg he (g_name i) (pg_name hN hi hx hf) hs hw h1
/-- y = [..], y a local -/
theorem s_setLc (i : Nat) {y : Str} {py : Pos} {tg elt iter : Expr} {ifs : List Expr} {scope : Scope} {own : List (Str × Nat)} {vs : List Nat} {pos spos : Pos} {it : EvI} {tgt : D → Rho → Option Rho} {g : TG} {test : EvB} {el : EvD} {is : List Nat} (hc : X.calm = true) (hN : X.N.Nodup)
    (hi : PI X tg iter (tI X.K X.mg W it)) (ok : BlkOk X.N X.env.scope scope own) (hv : own.map (·.2) = vs) (hG : GRD X is tgt g) (his : ∀ i ∈ is, i ∈ vs)
    (hg : ∀ (s : Shared) (H : Hp) (C : Addr) (cl : List (Str × Addr)) (fp : List Addr), PG (X.blk s H scope (compEnvC scope cl C X.env) fp) tg g)
    (ht : ∀ (s : Shared) (H : Hp) (C : Addr) (cl : List (Str × Addr)) (fp : List Addr), PTs (X.blk s H scope (compEnvC scope cl C X.env) fp) ifs (tT X.K X.mg W0 test))
    (he : ∀ (s : Shared) (H : Hp) (C : Addr) (cl : List (Str × Addr)) (fp : List Addr), PE (X.blk s H scope (compEnvC scope cl C X.env) fp) elt (tD X.K X.mg W0 el))
    (hy : X.N[i]? = some y := by rfl) (hyl : X.env.scope.names.lookup y = some .local := by rfl) (hsw : swapsWith (.ListComp elt [⟨tg, iter, ifs, 0⟩] scope pos) (some (.Name y py)) spos.line X.env = pure true := by exact sw_true rfl rfl rfl (by decide +kernel))
    (hs : ∀ x, foldedSetIterable iter X.env x = pure x := by intro _; rfl) :
    PS X (.Assign [.Name y py] (.ListComp elt [⟨tg, iter, ifs, 0⟩] scope pos) spos) (tS X.K X.mg W (sAsg (gN i) (eComp it tgt test el vs))) := by
  subst hv
  refine PS.imp (ps_setLc hc hN hy hyl hsw hi ok hg ht he hs) fun E σ H ⟨ρ, S, μ, e, s, h⟩ => ?_
  refine comp_ok hG his ⟨ρ, S, μ, e, s, h.lft e s fun d S1 μ1 H1 s1 r1 e1 h1 v rv => ?_⟩
  exact h1.now r1 _ (e1.set rv i)
end
/-- a def by its body, the text read once -/
theorem fn_okL {P : Program} {w : World} {K : PySem.W.Frag} {mg : Str → Option Value} {base : Heap} {x qual : Str} {st : Stmt} {f : Addr} {fd : FuncData} {N ps : List Str} {k : Nat} {keep : Bool} {body : EvS} {B : List Stmt} {sc : Scope} (F : Fun K x qual st f fd) (S : FnScope N ps (defScope st)) (hB : defBody st = B) (hS : defScope st = sc)
    (hbody : ∀ (cdv : Value) (A : Around) (outer : List Env) (s : Shared) (H : Hp) (E : XK), Room k (A.deeper (envOfC qual sc s.heap.objs.size f cdv)) → N.Nodup →
      Takes (cxOf (L2.CX P w) P w K mg base N qual sc f cdv A outer s H E) (WD E) →
      PassesOwn (model P w) (cxOf (L2.CX P w) P w K mg base N qual sc f cdv A outer s H E).A (cxOf (L2.CX P w) P w K mg base N qual sc f cdv A outer s H E).env (cxOf (L2.CX P w) P w K mg base N qual sc f cdv A outer s H E).xe →
      PSs (cxOf (L2.CX P w) P w K mg base N qual sc f cdv A outer s H E) B (tS (cxOf (L2.CX P w) P w K mg base N qual sc f cdv A outer s H E).K (cxOf (L2.CX P w) P w K mg base N qual sc f cdv A outer s H E).mg (WD E) body)) :
    FnOk P w K mg base (L2.CX P w) (k + 1) f fd ps (spD K mg ps.length (runDef keep N.length body)) := by
  subst hB hS
  exact fn_ok F S fun cdv A outer s H E hr => hbody cdv A outer s H E hr S.nd (takes_of rfl rfl rfl rfl) (passes_of rfl)
/-- no promise at all -/
theorem fn_zero {P : Program} {w : World} {K : PySem.W.Frag} {mg : Str → Option Value} {base : Heap} {k : Nat} {f : Addr} {fd : FuncData} {ps : List Str} {CX : CXT} : FnOk P w K mg base CX k f fd ps (spD K mg ps.length fun _ => stuck) :=
  ⟨fun vs H Q E ⟨_, _, _, _, _, _, h⟩ => h.elim, fun A outer s H args us vs Q E _ _ _ _ ⟨_, _, _, _, _, _, h⟩ => h.elim⟩
end DL

/-! DL7: what a denotation does, by what is wanted behind it. -/
namespace DL
open PySem L2

def wp {α : Type} (r : R α) (F : α → Sto → Prop) (E : Exc → Sto → Prop) : Prop := match r with
  | .ok a S => F a S
  | .ex e S => E e S
  | .bad => False
/-- nothing is raised -/
abbrev nx : Exc → Sto → Prop := fun _ _ => False
def wps (r : R Out) (N : Rho → Sto → Prop) (T : D → Sto → Prop) (B C : Rho → Sto → Prop) (X : Exc → Rho → Sto → Prop) : Prop := match r with
  | .ok (.nx ρ) S => N ρ S
  | .ok (.rt d) S => T d S
  | .ok (.bk ρ) S => B ρ S
  | .ok (.ct ρ) S => C ρ S
  | .ok (.xc e ρ) S => X e ρ S
  | _ => False
section
variable {α β : Type} {F : α → Sto → Prop} {E : Exc → Sto → Prop} {N : Rho → Sto → Prop} {T : D → Sto → Prop} {B C : Rho → Sto → Prop} {X : Exc → Rho → Sto → Prop} {S : Sto} {ρ : Rho}
theorem wp_mono {r : R α} {F' : α → Sto → Prop} {E' : Exc → Sto → Prop} (h : wp r F E) (f : ∀ a S, F a S → F' a S) (g : ∀ e S, E e S → E' e S) : wp r F' E' := by
  cases r with
  | ok a S => exact f a S h
  | ex e S => exact g e S h
  | bad => exact h
theorem wps_mono {r : R Out} {N' : Rho → Sto → Prop} {T' : D → Sto → Prop} {B' C' : Rho → Sto → Prop} {X' : Exc → Rho → Sto → Prop} (h : wps r N T B C X) (f1 : ∀ ρ S, N ρ S → N' ρ S) (f2 : ∀ d S, T d S → T' d S) (f3 : ∀ ρ S, B ρ S → B' ρ S) (f4 : ∀ ρ S, C ρ S → C' ρ S) (f5 : ∀ e ρ S, X e ρ S → X' e ρ S) : wps r N' T' B' C' X' := by
  cases r with
  | ok o S =>
    cases o with
    | nx ρ => exact f1 _ _ h
    | rt d => exact f2 _ _ h
    | bk ρ => exact f3 _ _ h
    | ct ρ => exact f4 _ _ h
    | xc e ρ => exact f5 _ _ _ h
  | ex e S => exact h
  | bad => exact h
theorem wp_ok {a : α} : wp (.ok a S) F E ↔ F a S := Iff.rfl
theorem wp_ret {a : α} : wp (ret a S) F E ↔ F a S := Iff.rfl
theorem wp_stuck : wp ((stuck : M α) S) F E ↔ False := Iff.rfl
theorem wp_bad : wp (.bad : R α) F E ↔ False := Iff.rfl
theorem wp_bnd {m : M β} {k : β → M α} : wp (bnd m k S) F E ↔ wp (m S) (fun a S' => wp (k a S') F E) E := by
  unfold bnd
  cases m S <;> rfl
theorem wp_if {c : Prop} [Decidable c] {a b : R α} : wp (if c then a else b) F E ↔ if c then wp a F E else wp b F E := by
  split <;> rfl
theorem wp_fif {c : Prop} [Decidable c] {a b : M α} : wp ((if c then a else b) S) F E ↔ if c then wp (a S) F E else wp (b S) F E := by
  split <;> rfl
theorem wps_ok_nx {ρ' : Rho} : wps (.ok (.nx ρ') S) N T B C X ↔ N ρ' S := Iff.rfl
theorem wps_ok_rt {d : D} : wps (.ok (.rt d) S) N T B C X ↔ T d S := Iff.rfl
theorem wps_ok_bk {ρ' : Rho} : wps (.ok (.bk ρ') S) N T B C X ↔ B ρ' S := Iff.rfl
theorem wps_ok_ct {ρ' : Rho} : wps (.ok (.ct ρ') S) N T B C X ↔ C ρ' S := Iff.rfl
theorem wps_ok_xc {e : Exc} {ρ' : Rho} : wps (.ok (.xc e ρ') S) N T B C X ↔ X e ρ' S := Iff.rfl
theorem wps_bad : wps .bad N T B C X ↔ False := Iff.rfl
theorem wps_lft {m : M α} {k : α → M Out} : wps (lft ρ m k S) N T B C X ↔ wp (m S) (fun a S' => wps (k a S') N T B C X) (fun e S' => X e ρ S') := by
  unfold lft
  cases m S <;> rfl
theorem wps_seq {a b : EvS} : wps (sSeq a b ρ S) N T B C X ↔ wps (a ρ S) (fun ρ' S' => wps (b ρ' S') N T B C X) T B C X := by
  unfold sSeq
  cases a ρ S with
  | ok o S' => cases o <;> rfl
  | ex e S' => rfl
  | bad => rfl
theorem wps_nil : wps (sNil ρ S) N T B C X ↔ N ρ S := Iff.rfl
theorem wps_ret {e : EvD} : wps (sRet e ρ S) N T B C X ↔ wp (e ρ S) T (fun e S' => X e ρ S') := by
  unfold sRet; rw [wps_lft]; rfl
theorem wps_expr {e : EvD} : wps (sExpr e ρ S) N T B C X ↔ wp (e ρ S) (fun _ S' => N ρ S') (fun e S' => X e ρ S') := by
  unfold sExpr; rw [wps_lft]; rfl
theorem wps_asg {i : Nat} {e : EvD} : wps (sAsg (gN i) e ρ S) N T B C X ↔ wp (e ρ S) (fun d S' => N (ρ.set i (some d)) S') (fun e S' => X e ρ S') := by
  unfold sAsg; rw [wps_lft]; rfl
theorem wps_if {c : EvB} {a b : EvS} : wps (sIf c a b ρ S) N T B C X ↔ wp (c ρ S) (fun k S' => if k = true then wps (a ρ S') N T B C X else wps (b ρ S') N T B C X) (fun e S' => X e ρ S') := by
  unfold sIf; rw [wps_lft]
  constructor <;> intro h <;> refine wp_mono h (fun k S' h => ?_) (fun _ _ h => h) <;> cases k <;> exact h
theorem wp_run {keep : Bool} {n : Nat} {body : EvS} {ds : List D} {F : D → Sto → Prop} : wp (runDef keep n body ds S) F E ↔
    wps (body (startR n ds) S) (fun _ S' => wp (finD keep S.length .non S') F E) (fun d S' => wp (finD keep S.length d S') F E) (fun _ _ => False) (fun _ _ => False) (fun e _ S' => E e S') := by
  unfold runDef
  cases body (startR n ds) S with
  | ok o S' => cases o <;> rfl
  | ex e S' => rfl
  | bad => rfl
/-- a def's value that names no stored thing, of a store that names none -/
theorem wp_fin {n : Nat} {d : D} {F : D → Sto → Prop} (h1 : (S.take n).all (MO.lo n) = true) (h2 : d.lo n = true) (h : F d (S.take n)) : wp (finD false n d S) F E := by
  unfold finD
  rw [if_neg (by decide), if_pos h1, if_pos h2]
  exact h
/-- for over what is walked -/
theorem wps_for {it : EvI} {tgt : D → Rho → Option Rho} {body : EvS} : wps (sFor it tgt body ρ S) N T B C X ↔ wp (it ρ S) (fun p S' => wps (forM p.1 p.2 tgt body p.2 ρ S') N T B C X) (fun e S' => X e ρ S') := by
  unfold sFor; rw [wps_lft]
/-- the loop by an invariant over the items gone through -/
theorem wps_forM {src : Option Nat} {all : List D} {tgt : D → Rho → Option Rho} {body : EvS} (I : Nat → Rho → Sto → Prop) (hl : ∀ i ρ S, I i ρ S → liveOk src all S)
    (turn : ∀ i d ρ S, all[i]? = some d → I i ρ S → ∃ ρ1, tgt d ρ = some ρ1 ∧ wps (body ρ1 S) (I (i + 1)) T N (I (i + 1)) X) (done : ∀ ρ S, I all.length ρ S → N ρ S) (h0 : I 0 ρ S) : wps (forM src all tgt body all ρ S) N T B C X := by
  have key : ∀ (k i : Nat) (ρ : Rho) (S : Sto), i + k = all.length → I i ρ S → wps (forM src all tgt body (all.drop i) ρ S) N T B C X := by
    intro k
    induction k with
    | zero =>
      intro i ρ S hi h
      have : i = all.length := by omega
      subst this
      rw [List.drop_length]
      unfold forM
      rw [if_pos (hl _ _ _ h)]
      exact done ρ S h
    | succ k ih =>
      intro i ρ S hi h
      have hlt : i < all.length := by omega
      rw [List.drop_eq_getElem_cons hlt]
      unfold forM
      rw [if_pos (hl _ _ _ h)]
      obtain ⟨ρ1, e1, hb⟩ := turn i _ ρ S (List.getElem?_eq_getElem hlt) h
      simp only [e1]
      cases hr : body ρ1 S with
      | ok o S2 =>
        rw [hr] at hb
        cases o with
        | nx ρ2 => exact ih (i + 1) ρ2 S2 (by omega) hb
        | ct ρ2 => exact ih (i + 1) ρ2 S2 (by omega) hb
        | bk ρ2 => exact hb
        | rt d => exact hb
        | xc e ρ2 => exact hb
      | ex e S2 => rw [hr] at hb; exact hb
      | bad => rw [hr] at hb; exact hb
  have := key all.length 0 ρ S (by omega) h0
  rwa [List.drop_zero] at this
theorem wps_while {fu : Nat} {c : EvB} {body : EvS} : wps (sWhile fu c body ρ S) N T B C X ↔ wps (whileM c body fu ρ S) N T B C X := Iff.rfl
theorem wps_whileM {c : EvB} {body : EvS} {fu : Nat} (I : Nat → Rho → Sto → Prop)
    (turn : ∀ m ρ S, I m ρ S → m < fu + 1 ∧ wp (c ρ S) (fun k S' => if k = true then wps (body ρ S') (fun ρ' S'' => ∃ m', m' < m ∧ I m' ρ' S'') T N (fun ρ' S'' => ∃ m', m' < m ∧ I m' ρ' S'') X else N ρ S') (fun e S' => X e ρ S')) (m : Nat) (hm : m < fu) (h0 : I m ρ S) : wps (whileM c body fu ρ S) N T B C X := by
  have key : ∀ (f m : Nat) (ρ : Rho) (S : Sto), m < f → I m ρ S → wps (whileM c body f ρ S) N T B C X := by
    intro f
    induction f with
    | zero => intro m ρ S h; exact absurd h (Nat.not_lt_zero _)
    | succ f ih =>
      intro m ρ S hm h
      unfold whileM
      rw [wps_lft]
      refine wp_mono (turn m ρ S h).2 (fun k S' hk => ?_) (fun _ _ h => h)
      cases k with
      | false => rw [if_neg Bool.false_ne_true] at hk ⊢; exact hk
      | true =>
        rw [if_pos rfl] at hk ⊢
        show wps (match body ρ S' with
          | .ok (.nx ρ2) S2 => whileM c body f ρ2 S2
          | .ok (.ct ρ2) S2 => whileM c body f ρ2 S2
          | .ok (.bk ρ2) S2 => .ok (.nx ρ2) S2
          | r => r) N T B C X
        cases hr : body ρ S' with
        | ok o S2 =>
          rw [hr] at hk
          cases o with
          | nx ρ2 => obtain ⟨m', hl, hi⟩ := hk; exact ih m' ρ2 S2 (by omega) hi
          | ct ρ2 => obtain ⟨m', hl, hi⟩ := hk; exact ih m' ρ2 S2 (by omega) hi
          | bk ρ2 => exact hk
          | rt d => exact hk
          | xc e ρ2 => exact hk
        | ex e S2 => rw [hr] at hk; exact hk.elim
        | bad => rw [hr] at hk; exact hk.elim
  exact key fu m ρ S hm h0
/-- a comprehension -/
theorem wp_comp {it : EvI} {tgt : D → Rho → Option Rho} {test : EvB} {el : EvD} {vs : List Nat} {F : D → Sto → Prop} : wp (eComp it tgt test el vs ρ S) F E ↔
    wp (it ρ S) (fun p S' => p.2.length ≤ sizeLine ∧ wp (compM p.1 p.2 tgt test el (wipeR ρ vs) p.2 S') (fun ys S'' => F (.lst ys) S'') nx) E := by
  unfold eComp
  rw [wp_bnd]
  constructor <;> intro h <;> refine wp_mono h (fun p S' h => ?_) (fun _ _ h => h)
  · unfold noEx at h
    by_cases hl : p.2.length ≤ sizeLine
    · refine ⟨hl, ?_⟩
      simp only [if_pos hl] at h
      cases hc : compM p.1 p.2 tgt test el (wipeR ρ vs) p.2 S' with
      | ok ys S'' => rw [hc] at h; exact h
      | ex e S'' => rw [hc] at h; exact h.elim
      | bad => rw [hc] at h; exact h.elim
    · simp only [if_neg hl] at h; exact h.elim
  · obtain ⟨hl, h⟩ := h
    unfold noEx
    simp only [if_pos hl]
    cases hc : compM p.1 p.2 tgt test el (wipeR ρ vs) p.2 S' with
    | ok ys S'' => rw [hc] at h; exact h
    | ex e S'' => rw [hc] at h; exact h.elim
    | bad => rw [hc] at h; exact h.elim
/-- .. by an invariant: the items gone through, what is made so far -/
theorem wp_compM {src : Option Nat} {all : List D} {tgt : D → Rho → Option Rho} {test : EvB} {el : EvD} {F : List D → Sto → Prop} (I : Nat → List D → Sto → Prop) (hl : ∀ i ys S, I i ys S → liveOk src all S)
    (turn : ∀ i d ys S, all[i]? = some d → I i ys S → ∃ ρ1, tgt d ρ = some ρ1 ∧ wp (test ρ1 S) (fun b S' => if b = true then wp (el ρ1 S') (fun y S'' => I (i + 1) (ys ++ [y]) S'') nx else I (i + 1) ys S') nx)
    (done : ∀ ys S, I all.length ys S → F ys S) (h0 : I 0 [] S) : wp (compM src all tgt test el ρ all S) F nx := by
  have key : ∀ (k i : Nat) (ys : List D) (S : Sto), i + k = all.length → I i ys S → wp (compM src all tgt test el ρ (all.drop i) S) (fun zs S' => F (ys ++ zs) S') nx := by
    intro k
    induction k with
    | zero =>
      intro i ys S hi h
      have : i = all.length := by omega
      subst this
      rw [List.drop_length]
      unfold compM
      rw [if_pos (hl _ _ _ h)]
      rw [wp_ok, List.append_nil]
      exact done ys S h
    | succ k ih =>
      intro i ys S hi h
      have hlt : i < all.length := by omega
      rw [List.drop_eq_getElem_cons hlt]
      unfold compM
      rw [if_pos (hl _ _ _ h)]
      obtain ⟨ρ1, e1, hb⟩ := turn i _ ys S (List.getElem?_eq_getElem hlt) h
      simp only [e1]
      rw [wp_bnd]
      refine wp_mono hb (fun b S' hb => ?_) (fun _ _ h => h)
      cases b with
      | false => rw [if_neg Bool.false_ne_true] at hb ⊢; exact ih (i + 1) ys S' (by omega) hb
      | true =>
        rw [if_pos rfl] at hb ⊢
        rw [wp_bnd]
        refine wp_mono hb (fun y S'' hy => ?_) (fun _ _ h => h)
        rw [wp_bnd]
        refine wp_mono (ih (i + 1) _ S'' (by omega) hy) (fun zs S3 hz => ?_) (fun _ _ h => h)
        rw [wp_ret]
        simpa using hz
  have := key all.length 0 [] S (by omega) h0
  rw [List.drop_zero] at this
  simpa using this
end
end DL

/-! DL8: the words of an expression, one by one. -/
namespace DL
open PySem L2

theorem ofString_inj {a b : String} : Str.ofString a = Str.ofString b ↔ a = b := by
  constructor
  · intro h
    rw [Str.ofString_eq_toList, Str.ofString_eq_toList] at h
    injection h with h
    have h2 : a.toList.map Char.toNat = b.toList.map Char.toNat := by simpa using congrArg Array.toList h
    have inj : ∀ x y : Char, x.toNat = y.toNat → x = y := fun x y e => by
      have : x.val = y.val := UInt32.toNat_inj.mp e
      exact Char.ext this
    have key : ∀ l m : List Char, l.map Char.toNat = m.map Char.toNat → l = m := by
      intro l
      induction l with
      | nil => intro m h; cases m with | nil => rfl | cons c m => simp at h
      | cons c l ih =>
        intro m h
        cases m with
        | nil => simp at h
        | cons d m =>
          simp only [List.map_cons, List.cons.injEq] at h
          rw [inj _ _ h.1, ih _ h.2]
    exact String.ext (key _ _ h2)
  · intro h; rw [h]
theorem ofString_length (s : String) : (Str.ofString s).length = s.length := by
  rw [Str.ofString_eq_toList]
  simp [Str.length]
  rfl

section
variable {α β : Type} {F : D → Sto → Prop} {FB : Bool → Sto → Prop} {FL : List D → Sto → Prop} {FO : Option Int → Sto → Prop} {FI : Option Nat × List D → Sto → Prop} {E : Exc → Sto → Prop} {S : Sto} {ρ : Rho} {a b c : EvD} {s t : EvB} {as : EvL}
theorem wp_var {i : Nat} : wp (eVar i ρ S) F E ↔ ∃ d, ρ[i]? = some (some d) ∧ F d S := by
  unfold eVar
  split
  · rename_i d h
    constructor
    · intro q; exact ⟨d, h, q⟩
    · rintro ⟨d', h', q⟩; rw [h] at h'; cases h'; exact q
  · rename_i h
    constructor
    · intro q; exact q.elim
    · rintro ⟨d', h', q⟩; exact absurd h' (h d')
theorem wp_C {d : D} : wp (eC d ρ S) F E ↔ F d S := Iff.rfl
theorem wp_bin {g : D → D → M D} : wp (eBin g a b ρ S) F E ↔ wp (a ρ S) (fun x S1 => wp (b ρ S1) (fun y S2 => wp (g x y S2) F E) E) E := by
  unfold eBin; simp only [wp_bnd]
theorem wp_un {g : D → M D} : wp (eUn g a ρ S) F E ↔ wp (a ρ S) (fun x S1 => wp (g x S1) F E) E := by
  unfold eUn; simp only [wp_bnd]
theorem wp_T : wp (eT a ρ S) FB E ↔ wp (a ρ S) (fun x S1 => wp (gTruth x S1) FB E) E := by
  unfold eT; simp only [wp_bnd]
theorem wp_Tb : wp (eTb a ρ S) FB E ↔ wp (a ρ S) (fun x S1 => wp (asBl x S1) FB E) E := by
  unfold eTb; simp only [wp_bnd]
theorem wp_asBl {k : Bool} : wp (asBl (.bl k) S) FB E ↔ FB k S := Iff.rfl
theorem wp_truthBl {k : Bool} : wp (gTruth (.bl k) S) FB E ↔ FB k S := Iff.rfl
theorem wp_bAnd : wp (bAnd s t ρ S) FB E ↔ wp (s ρ S) (fun x S1 => if x = true then wp (t ρ S1) FB E else FB false S1) E := by
  unfold bAnd; simp only [wp_bnd, wp_fif, wp_ret]
theorem wp_bOr : wp (bOr s t ρ S) FB E ↔ wp (s ρ S) (fun x S1 => if x = true then FB true S1 else wp (t ρ S1) FB E) E := by
  unfold bOr; simp only [wp_bnd, wp_fif, wp_ret]
theorem wp_bNot : wp (bNot s ρ S) FB E ↔ wp (s ρ S) (fun x S1 => FB (!x) S1) E := by
  unfold bNot; simp only [wp_bnd, wp_ret]
theorem wp_eIf : wp (eIf s a b ρ S) F E ↔ wp (s ρ S) (fun x S1 => if x = true then wp (a ρ S1) F E else wp (b ρ S1) F E) E := by
  unfold eIf; simp only [wp_bnd, wp_fif]
def blCase (x : D) (p q : Prop) : Prop := match x with
  | .bl true => p
  | .bl false => q
  | _ => False
theorem blCase_bl {k : Bool} {p q : Prop} : blCase (.bl k) p q ↔ if k = true then p else q := by
  cases k <;> simp [blCase]
theorem wp_eAnd : wp (eAnd a b ρ S) F E ↔ wp (a ρ S) (fun x S1 => blCase x (wp (b ρ S1) F E) (F (.bl false) S1)) E := by
  unfold eAnd; simp only [wp_bnd]
  constructor <;> intro h <;> refine wp_mono h (fun x S' h => ?_) (fun _ _ h => h)
  · unfold blCase; split at h <;> first | exact h | exact h.elim
  · unfold blCase at h; split at h <;> first | exact h | exact h.elim
theorem wp_eOr : wp (eOr a b ρ S) F E ↔ wp (a ρ S) (fun x S1 => blCase x (F (.bl true) S1) (wp (b ρ S1) F E)) E := by
  unfold eOr; simp only [wp_bnd]
  constructor <;> intro h <;> refine wp_mono h (fun x S' h => ?_) (fun _ _ h => h)
  · unfold blCase; split at h <;> first | exact h | exact h.elim
  · unfold blCase at h; split at h <;> first | exact h | exact h.elim
theorem wp_eNot : wp (eNot a ρ S) F E ↔ wp (a ρ S) (fun x S1 => blCase x (F (.bl false) S1) (F (.bl true) S1)) E := by
  unfold eNot; simp only [wp_bnd]
  constructor <;> intro h <;> refine wp_mono h (fun x S' h => ?_) (fun _ _ h => h)
  · unfold blCase
    split at h
    · rename_i k; cases k <;> exact h
    · exact h.elim
  · unfold blCase at h; split at h <;> first | exact h | exact h.elim
theorem wp_chain {g g' : D → D → M D} : wp (eChain g g' a b c ρ S) F E ↔ wp (a ρ S) (fun x S1 => wp (b ρ S1) (fun y S2 => wp (g x y S2) (fun z S3 => blCase z (wp (c ρ S3) (fun w S4 => wp (g' y w S4) F E) E) (F (.bl false) S3)) E) E) E := by
  unfold eChain; simp only [wp_bnd]
  constructor <;> intro h <;> refine wp_mono h (fun x S1 h => wp_mono h (fun y S2 h => wp_mono h (fun z S3 h => ?_) fun _ _ h => h) fun _ _ h => h) (fun _ _ h => h)
  · cases z with
    | bl k => cases k with
      | true => exact wp_bnd.mp h
      | false => exact h
    | _ => exact False.elim h
  · cases z with
    | bl k => cases k with
      | true => exact wp_bnd.mpr h
      | false => exact h
    | _ => exact False.elim h
theorem wp_aNil : wp (aNil ρ S) FL E ↔ FL [] S := Iff.rfl
theorem wp_aCons : wp (aCons a as ρ S) FL E ↔ wp (a ρ S) (fun x S1 => wp (as ρ S1) (fun xs S2 => FL (x :: xs) S2) E) E := by
  unfold aCons; simp only [wp_bnd, wp_ret]
theorem wp_tup : wp (eTup as ρ S) F E ↔ wp (as ρ S) (fun ds S1 => ds.length ≤ sizeLine ∧ F (.tup ds) S1) E := by
  unfold eTup; simp only [wp_bnd]
  constructor <;> intro h <;> refine wp_mono h (fun x S' h => ?_) (fun _ _ h => h)
  · by_cases hl : x.length ≤ sizeLine
    · rw [if_pos hl] at h; exact ⟨hl, h⟩
    · rw [if_neg hl] at h; exact h.elim
  · rw [if_pos h.1]; exact h.2
theorem wp_lst : wp (eLst as ρ S) F E ↔ wp (as ρ S) (fun ds S1 => ds.length ≤ sizeLine ∧ F (.lst ds) S1) E := by
  unfold eLst; simp only [wp_bnd]
  constructor <;> intro h <;> refine wp_mono h (fun x S' h => ?_) (fun _ _ h => h)
  · by_cases hl : x.length ≤ sizeLine
    · rw [if_pos hl] at h; exact ⟨hl, h⟩
    · rw [if_neg hl] at h; exact h.elim
  · rw [if_pos h.1]; exact h.2
theorem wp_lstM : wp (eLstM as ρ S) F E ↔ wp (as ρ S) (fun ds S1 => ds.length ≤ sizeLine ∧ F (.ref S1.length) (S1 ++ [.lst ds])) E := by
  unfold eLstM; simp only [wp_bnd]
  constructor <;> intro h <;> refine wp_mono h (fun x S' h => ?_) (fun _ _ h => h)
  · by_cases hl : x.length ≤ sizeLine
    · rw [if_pos hl] at h; exact ⟨hl, h⟩
    · rw [if_neg hl] at h; exact h.elim
  · rw [if_pos h.1]; exact h.2
theorem wp_call {g : List D → M D} : wp (eCall g as ρ S) F E ↔ wp (as ρ S) (fun ds S1 => wp (g ds S1) F E) E := by
  unfold eCall; simp only [wp_bnd]
theorem wp_cl {n : Nat} {G : List D → M D} {ds : List D} (h : ds.length = n) : wp (cl n G ds S) F E ↔ wp (G ds S) F E := by
  unfold cl; rw [if_pos h]
theorem wp_cl1 {G : List D → M D} {x : D} : wp (cl 1 G [x] S) F E ↔ wp (G [x] S) F E := wp_cl rfl
theorem wp_cl2 {G : List D → M D} {x y : D} : wp (cl 2 G [x, y] S) F E ↔ wp (G [x, y] S) F E := wp_cl rfl
theorem wp_cl3 {G : List D → M D} {x y z : D} : wp (cl 3 G [x, y, z] S) F E ↔ wp (G [x, y, z] S) F E := wp_cl rfl
theorem wp_cl4 {G : List D → M D} {x y z u : D} : wp (cl 4 G [x, y, z, u] S) F E ↔ wp (G [x, y, z, u] S) F E := wp_cl rfl
theorem wp_cl5 {G : List D → M D} {x y z u v : D} : wp (cl 5 G [x, y, z, u, v] S) F E ↔ wp (G [x, y, z, u, v] S) F E := wp_cl rfl
theorem wp_meth {T : String} {g : D → List D → M D} : wp (eMeth T g a as ρ S) F E ↔ wp (a ρ S) (fun x S1 => isTy S1 T x = true ∧ wp (as ρ S1) (fun xs S2 => wp (g x xs S2) F E) E) E := by
  unfold eMeth; simp only [wp_bnd]
  constructor <;> intro h <;> refine wp_mono h (fun x S' h => ?_) (fun _ _ h => h)
  · unfold chkT at h
    by_cases ht : isTy S' T x = true
    · rw [if_pos ht] at h; exact ⟨ht, h⟩
    · rw [if_neg ht] at h; exact h.elim
  · unfold chkT
    rw [if_pos h.1]; exact h.2
theorem wp_isi {T : String} : wp (eIsi T a ρ S) F E ↔ wp (a ρ S) (fun x S1 => ∃ n, typN S1 x = some n ∧ F (.bl (isiN n T)) S1) E := by
  unfold eIsi; simp only [wp_bnd]
  constructor <;> intro h <;> refine wp_mono h (fun x S' h => ?_) (fun _ _ h => h)
  · unfold gIsi at h
    split at h
    · rename_i n hn; exact ⟨n, hn, h⟩
    · exact h.elim
  · obtain ⟨n, hn, h⟩ := h
    unfold gIsi
    rw [hn]; exact h
theorem wp_oNone : wp (oNone ρ S) FO E ↔ FO none S := Iff.rfl
theorem wp_oSome : wp (oSome a ρ S) FO E ↔ wp (a ρ S) (fun x S1 => ∃ i, x = .int i ∧ FO (some i) S1) E := by
  unfold oSome; simp only [wp_bnd]
  constructor <;> intro h <;> refine wp_mono h (fun x S' h => ?_) (fun _ _ h => h)
  · split at h
    · exact ⟨_, rfl, h⟩
    · exact h.elim
  · obtain ⟨i, rfl, h⟩ := h; exact h
theorem wp_sl {m : Bool} {lo hi : EvO} : wp (eSl m a lo hi ρ S) F E ↔ wp (a ρ S) (fun x S1 => wp (lo ρ S1) (fun l S2 => wp (hi ρ S2) (fun h S3 => wp (gSl m x l h S3) F E) E) E) E := by
  unfold eSl; simp only [wp_bnd]
theorem wp_it : wp (iIt a ρ S) FI E ↔ wp (a ρ S) (fun x S1 => wp (srcL x S1) FI E) E := by
  unfold iIt; simp only [wp_bnd]
theorem wp_range1 : wp (iRange1 as ρ S) FI E ↔ wp (as ρ S) (fun x S1 => wp (srcR1 x S1) FI E) E := by
  unfold iRange1; simp only [wp_bnd]
theorem wp_range2 : wp (iRange2 as ρ S) FI E ↔ wp (as ρ S) (fun x S1 => wp (srcR2 x S1) FI E) E := by
  unfold iRange2; simp only [wp_bnd]
theorem wp_bYes : wp (bYes ρ S) FB E ↔ FB true S := Iff.rfl

/-! the operations on values -/
theorem gEq_str {x y : Str} : wp (gEq (.str x) (.str y) S) F E ↔ F (.bl (decide (x = y))) S := Iff.rfl
theorem gNe_str {x y : Str} : wp (gNe (.str x) (.str y) S) F E ↔ F (.bl (!decide (x = y))) S := Iff.rfl
theorem gEq_int {x y : Int} : wp (gEq (.int x) (.int y) S) F E ↔ F (.bl (decide (x = y))) S := Iff.rfl
theorem gNe_int {x y : Int} : wp (gNe (.int x) (.int y) S) F E ↔ F (.bl (!decide (x = y))) S := Iff.rfl
theorem gEq_bl {x y : Bool} : wp (gEq (.bl x) (.bl y) S) F E ↔ F (.bl (decide (x = y))) S := Iff.rfl
theorem gNe_bl {x y : Bool} : wp (gNe (.bl x) (.bl y) S) F E ↔ F (.bl (!decide (x = y))) S := Iff.rfl
theorem gIs_bl {x y : Bool} : wp (gIs (.bl x) (.bl y) S) F E ↔ F (.bl (decide (x = y))) S := Iff.rfl
theorem gIsNot_bl {x y : Bool} : wp (gIsNot (.bl x) (.bl y) S) F E ↔ F (.bl (!decide (x = y))) S := Iff.rfl
theorem gAdd_int {x y : Int} : wp (gAdd (.int x) (.int y) S) F E ↔ F (.int (x + y)) S := Iff.rfl
theorem gSub_int {x y : Int} : wp (gSub (.int x) (.int y) S) F E ↔ F (.int (x - y)) S := by
  unfold gSub gI; simp only [if_true]; rfl
theorem gC_int {f : Int → Int → Bool} {x y : Int} : wp (gC f (.int x) (.int y) S) F E ↔ F (.bl (f x y)) S := Iff.rfl
theorem gI_int {C : Int → Int → Bool} {f : Int → Int → Int} {x y : Int} : wp (gI C f (.int x) (.int y) S) F E ↔ C x y = true ∧ F (.int (f x y)) S := by
  unfold gI
  simp only []
  by_cases h : C x y = true
  · rw [if_pos h]; exact ⟨fun q => ⟨h, q⟩, fun q => q.2⟩
  · rw [if_neg h]; exact ⟨fun q => q.elim, fun q => absurd q.1 h⟩
theorem gAdd_str {x y : Str} : wp (gAdd (.str x) (.str y) S) F E ↔ x.length + y.length ≤ sizeLine ∧ F (.str (x ++ y)) S := by
  unfold gAdd
  simp only []
  by_cases h : x.length + y.length ≤ sizeLine
  · rw [if_pos h]; exact ⟨fun q => ⟨h, q⟩, fun q => q.2⟩
  · rw [if_neg h]; exact ⟨fun q => q.elim, fun q => absurd q.1 h⟩
theorem gAdd_tup {x y : List D} : wp (gAdd (.tup x) (.tup y) S) F E ↔ x.length + y.length ≤ sizeLine ∧ F (.tup (x ++ y)) S := by
  unfold gAdd
  simp only []
  by_cases h : x.length + y.length ≤ sizeLine
  · rw [if_pos h]; exact ⟨fun q => ⟨h, q⟩, fun q => q.2⟩
  · rw [if_neg h]; exact ⟨fun q => q.elim, fun q => absurd q.1 h⟩
theorem gAdd_lst {x y : List D} : wp (gAdd (.lst x) (.lst y) S) F E ↔ x.length + y.length ≤ sizeLine ∧ F (.lst (x ++ y)) S := by
  unfold gAdd
  simp only [iTrk]
  by_cases h : x.length + y.length ≤ sizeLine
  · rw [if_pos h]; exact ⟨fun q => ⟨h, q⟩, fun q => q.2⟩
  · rw [if_neg h]; exact ⟨fun q => q.elim, fun q => absurd q.1 h⟩
theorem gNeg_int {x : Int} : wp (gNeg (.int x) S) F E ↔ F (.int (-x)) S := Iff.rfl
theorem gIx_seq {x : D} {ds : List D} {k : Int} (h : iLst S x = some ds) : wp (gIx x (.int k) S) F E ↔ ∃ d, atI ds k = some d ∧ F d S := by
  have e : gIx x (.int k) S = match atI ds k with
      | some d => .ok d S
      | none => .bad := by
    unfold gIx
    cases x with
    | str z => simp [iLst] at h
    | _ => simp only [h] <;> rfl
  rw [e]
  cases h2 : atI ds k with
  | some d => exact ⟨fun q => ⟨d, rfl, q⟩, fun ⟨d', e, q⟩ => by cases e; exact q⟩
  | none => exact ⟨fun q => q.elim, fun ⟨d', e, q⟩ => by cases e⟩
theorem gIx_tup {ds : List D} {k : Int} : wp (gIx (.tup ds) (.int k) S) F E ↔ ∃ d, atI ds k = some d ∧ F d S := gIx_seq rfl
theorem gIx_lst {ds : List D} {k : Int} : wp (gIx (.lst ds) (.int k) S) F E ↔ ∃ d, atI ds k = some d ∧ F d S := gIx_seq rfl
theorem gLen_seq {x : D} {ds : List D} (h : iLst S x = some ds) : wp (gLen [x] S) F E ↔ F (.int ds.length) S := by
  unfold gLen
  cases x <;> simp_all [iLst, wp]
theorem gLen_tup {ds : List D} : wp (gLen [.tup ds] S) F E ↔ F (.int ds.length) S := gLen_seq rfl
theorem gLen_lst {ds : List D} : wp (gLen [.lst ds] S) F E ↔ F (.int ds.length) S := gLen_seq rfl
theorem gLen_str {x : Str} : wp (gLen [.str x] S) F E ↔ x.length ≤ sizeLine ∧ F (.int x.length) S := by
  unfold gLen
  simp only []
  by_cases h : x.length ≤ sizeLine
  · rw [if_pos h]; exact ⟨fun q => ⟨h, q⟩, fun q => q.2⟩
  · rw [if_neg h]; exact ⟨fun q => q.elim, fun q => absurd q.1 h⟩
theorem gInt_int {x : Int} : wp (gInt [.int x] S) F E ↔ F (.int x) S := Iff.rfl
theorem gInt_bl {x : Bool} : wp (gInt [.bl x] S) F E ↔ F (.int (if x then 1 else 0)) S := Iff.rfl
theorem gTuple_lst {ds : List D} : wp (gTuple [.lst ds] S) F E ↔ F (.tup ds) S := Iff.rfl
theorem gTuple_tup {ds : List D} : wp (gTuple [.tup ds] S) F E ↔ F (.tup ds) S := Iff.rfl
theorem gList_lst {ds : List D} : wp (gList [.lst ds] S) F E ↔ F (.lst ds) S := Iff.rfl
theorem gList_tup {ds : List D} : wp (gList [.tup ds] S) F E ↔ F (.lst ds) S := Iff.rfl
theorem gAll_bls {bs : List Bool} : wp (gAll [.lst (bs.map .bl)] S) F E ↔ F (.bl (bs.all id)) S := by
  have e : gAll [.lst (bs.map .bl)] S = .ok (.bl (bs.all id)) S := by
    unfold gAll
    simp only [iSeq, Option.bind_some, blsOf_map]
  rw [e]; rfl
theorem gSl_tup {m : Bool} {ds : List D} {lo hi : Option Int} : wp (gSl m (.tup ds) lo hi S) F E ↔ F (.tup (cutD ds lo hi)) S := Iff.rfl
theorem gSl_lst {ds : List D} {lo hi : Option Int} : wp (gSl false (.lst ds) lo hi S) F E ↔ F (.lst (cutD ds lo hi)) S := Iff.rfl
theorem gSl_fl {ds : List D} {lo hi : Option Int} : wp (gSl false (.fl ds) lo hi S) F E ↔ F (.lst (cutD ds lo hi)) S := Iff.rfl
theorem gSl_str {m : Bool} {z : Str} {lo hi : Option Int} : wp (gSl m (.str z) lo hi S) F E ↔ z.length ≤ sizeLine ∧ F (.str (cutS z lo hi)) S := by
  unfold gSl
  simp only []
  by_cases h : z.length ≤ sizeLine
  · rw [if_pos h]; exact ⟨fun q => ⟨h, q⟩, fun q => q.2⟩
  · rw [if_neg h]; exact ⟨fun q => q.elim, fun q => absurd q.1 h⟩
theorem srcL_tup {ds : List D} : wp (srcL (.tup ds) S) FI E ↔ FI (none, ds) S := Iff.rfl
theorem srcL_lst {ds : List D} : wp (srcL (.lst ds) S) FI E ↔ FI (none, ds) S := Iff.rfl
theorem srcL_fl {ds : List D} : wp (srcL (.fl ds) S) FI E ↔ FI (none, ds) S := Iff.rfl
theorem srcL_str {x : Str} : wp (srcL (.str x) S) FI E ↔ FI (none, x.cps.toList.map fun c => .str ⟨#[c]⟩) S := Iff.rfl
theorem srcR1_int {j : Int} : wp (srcR1 [.int j] S) FI E ↔ bnd62 j = true ∧ FI (none, rangeD 0 j.toNat) S := by
  unfold srcR1
  simp only []
  by_cases h : bnd62 j = true
  · rw [if_pos h]; exact ⟨fun q => ⟨h, q⟩, fun q => q.2⟩
  · rw [if_neg h]; exact ⟨fun q => q.elim, fun q => absurd q.1 h⟩
theorem inV_strs (a : Str) : ∀ l : List Str, inV (.str a) (l.map V.str) = decide (a ∈ l)
  | [] => by simp [inV]
  | x :: l => by
    have ih := inV_strs a l
    have e : inV (.str a) ((x :: l).map V.str) = ((x == a) || inV (.str a) (l.map V.str)) := rfl
    rw [e, ih]
    by_cases h : x = a
    · simp [h]
    · have h2 : ¬ a = x := fun e => h e.symm
      have h3 : (x == a) = false := by simpa using h
      simp [h2, h3]
theorem flatDs_strs : ∀ l : List Str, flatDs (l.map D.str) = some (l.map V.str)
  | [] => rfl
  | x :: l => by simp [flatDs, flatD, flatDs_strs l]
theorem gIn_strs {a : Str} {y : D} {l : List Str} (h : iLst S y = some (l.map .str)) : wp (gIn (.str a) y S) F E ↔ F (.bl (decide (a ∈ l))) S := by
  have e : inD S (.str a) y = some (decide (a ∈ l)) := by
    unfold inD
    cases y <;> simp_all [iLst, flatD, flatDs_strs, inV_strs]
  unfold gIn
  rw [e]; rfl
theorem gNotIn_strs {a : Str} {y : D} {l : List Str} (h : iLst S y = some (l.map .str)) : wp (gNotIn (.str a) y S) F E ↔ F (.bl (!decide (a ∈ l))) S := by
  have e : inD S (.str a) y = some (decide (a ∈ l)) := by
    unfold inD
    cases y <;> simp_all [iLst, flatD, flatDs_strs, inV_strs]
  unfold gNotIn
  rw [e]; rfl
theorem occ_sign {c : Nat} {z : Str} : (!(Builtin.Str.occurrences z ⟨#[c]⟩ 0 z.length 1).isEmpty) = decide (c ∈ z.cps.toList) := PySem.StrLaws.found_one z c
theorem gIn_sign {c : Nat} {z : Str} : wp (gIn (.str ⟨#[c]⟩) (.str z) S) F E ↔ F (.bl (decide (c ∈ z.cps.toList))) S := by
  have e : inD S (.str ⟨#[c]⟩) (.str z) = some (decide (c ∈ z.cps.toList)) := by
    unfold inD
    simp only [occ_sign]
  unfold gIn
  rw [e]; rfl
end
end DL

/-! DL9: stores of trees, a deck of whole numbers. -/
namespace DL
open PySem L2
section
variable {α : Type} {a b c d e : α} {l : List α}
theorem atI_0 : atI (a :: l) 0 = some a := atI_nat (j := 0) rfl
theorem atI_1 : atI (a :: b :: l) 1 = some b := atI_nat (j := 1) rfl
theorem atI_2 : atI (a :: b :: c :: l) 2 = some c := atI_nat (j := 2) rfl
theorem atI_3 : atI (a :: b :: c :: d :: l) 3 = some d := atI_nat (j := 3) rfl
theorem atI_4 : atI (a :: b :: c :: d :: e :: l) 4 = some e := atI_nat (j := 4) rfl
end
def WF (S : Sto) : Prop := S.all (MO.lo 0) = true
abbrev tr (d : D) : Prop := d.lo 0 = true
mutual
theorem D.lo_mono {m n : Nat} (h : m ≤ n) : ∀ d : D, d.lo m = true → d.lo n = true
  | .non, _ => rfl
  | .bl _, _ => rfl
  | .int _, _ => rfl
  | .str _, _ => rfl
  | .tup ds, e => by simp only [D.lo] at e ⊢; exact D.los_mono h ds e
  | .lst ds, e => by simp only [D.lo] at e ⊢; exact D.los_mono h ds e
  | .fl ds, e => by simp only [D.lo] at e ⊢; exact D.los_mono h ds e
  | .ref k, e => by simp only [D.lo, decide_eq_true_eq] at e ⊢; omega
theorem D.los_mono {m n : Nat} (h : m ≤ n) : ∀ ds : List D, D.los m ds = true → D.los n ds = true
  | [], _ => rfl
  | d :: ds, e => by
    simp only [D.los, Bool.and_eq_true] at e ⊢
    exact ⟨D.lo_mono h d e.1, D.los_mono h ds e.2⟩
end
theorem loK_mono {m n : Nat} (h : m ≤ n) : ∀ ks : List (Key × D), loK m ks = true → loK n ks = true
  | [], _ => rfl
  | d :: ds, e => by
    simp only [loK, Bool.and_eq_true] at e ⊢
    exact ⟨D.lo_mono h _ e.1, loK_mono h ds e.2⟩
theorem MO.lo_mono {m n : Nat} (h : m ≤ n) (o : MO) (e : o.lo m = true) : o.lo n = true := by
  cases o with
  | lst ds => exact D.los_mono h ds e
  | dct ks => exact loK_mono h ks e
theorem los_iff {n : Nat} : ∀ ds : List D, D.los n ds = true ↔ ∀ d ∈ ds, d.lo n = true
  | [] => by simp [D.los]
  | d :: ds => by simp [D.los, los_iff ds]
theorem los_map {α : Type} {n : Nat} {f : α → D} (h : ∀ x, (f x).lo n = true) (l : List α) : D.los n (l.map f) = true := by
  rw [los_iff]; intro d hd
  obtain ⟨x, _, rfl⟩ := List.mem_map.mp hd
  exact h x
theorem WF.nil : WF [] := rfl
theorem WF.mem {S : Sto} (h : WF S) {m : MO} (hm : m ∈ S) : m.lo 0 = true := List.all_eq_true.mp h m hm
theorem WF.append {S : Sto} {m : MO} (h : WF S) (hm : m.lo 0 = true) : WF (S ++ [m]) := by
  unfold WF at *; simp [h, hm]
theorem WF.set {S : Sto} {k : Nat} {m : MO} (h : WF S) (hm : m.lo 0 = true) : WF (S.set k m) := by
  unfold WF
  rw [List.all_eq_true]
  intro x hx
  rcases List.mem_or_eq_of_mem_set hx with q | q
  · exact h.mem q
  · rw [q]; exact hm
theorem WF.take {S : Sto} (h : WF S) (n m : Nat) : (S.take n).all (MO.lo m) = true := by
  rw [List.all_eq_true]
  intro x hx
  exact MO.lo_mono (Nat.zero_le _) x (h.mem (List.mem_of_mem_take hx))
section
variable {F : D → Sto → Prop} {E : Exc → Sto → Prop} {S S1 : Sto} {d : D}
theorem fin_cut (hw : WF S) (hd : tr d) (h : F d (S.take S1.length)) : wp (finD false S1.length d S) F E :=
  wp_fin (hw.take _ _) (D.lo_mono (Nat.zero_le _) _ hd) h
theorem fin_same (hw : WF S) (hd : tr d) (hl : S.length = S1.length) (h : F d S) : wp (finD false S1.length d S) F E := by
  refine fin_cut hw hd ?_
  rw [← hl, List.take_length]; exact h
/-- .. as a rewriting, of the store as it came -/
theorem fin_bl {b : Bool} (hw : WF S) : wp (finD false S.length (.bl b) S) F E ↔ F (.bl b) S := by
  unfold finD
  rw [if_neg (by decide), if_pos (hw.take _ _), if_pos (by rfl), List.take_length]
  rfl
theorem fin_int {b : Int} (hw : WF S) : wp (finD false S.length (.int b) S) F E ↔ F (.int b) S := by
  unfold finD
  rw [if_neg (by decide), if_pos (hw.take _ _), if_pos (by rfl), List.take_length]
  rfl
theorem fin_str {b : Str} (hw : WF S) : wp (finD false S.length (.str b) S) F E ↔ F (.str b) S := by
  unfold finD
  rw [if_neg (by decide), if_pos (hw.take _ _), if_pos (by rfl), List.take_length]
  rfl
end
/-- S is S0 but for the deck of whole numbers at k -/
structure DK (k : Nat) (S0 S : Sto) : Prop where
  wf : WF S0
  lt : k < S0.length
  at_ : ∃ cells : List Int, cells.length ≤ 100000 ∧ S = S0.set k (.lst (cells.map .int))
section
variable {k : Nat} {S0 S : Sto}
theorem DK.wf' (h : DK k S0 S) : WF S := by
  obtain ⟨w, l, cells, hc, rfl⟩ := h
  exact w.set (los_map (fun _ => rfl) cells)
theorem DK.len (h : DK k S0 S) : S.length = S0.length := by
  obtain ⟨w, l, cells, hc, rfl⟩ := h
  simp
theorem DK.get (h : DK k S0 S) : ∃ cells : List Int, cells.length ≤ 100000 ∧ atL S k = some (cells.map .int) ∧ ∀ cs : List Int, cs.length ≤ 100000 → DK k S0 (S.set k (.lst (cs.map .int))) := by
  obtain ⟨w, l, cells, hc, rfl⟩ := h
  refine ⟨cells, hc, ?_, fun cs hcs => ⟨w, l, cs, hcs, by rw [List.set_set]⟩⟩
  unfold atL
  rw [List.getElem?_set_self l]
theorem DK.push {m : MO} (h : DK k S0 S) (hm : m.lo 0 = true) : DK k (S0 ++ [m]) (S ++ [m]) := by
  obtain ⟨w, l, cells, hc, rfl⟩ := h
  refine ⟨w.append hm, by simp; omega, cells, hc, ?_⟩
  rw [List.set_append_left _ _ l]
theorem DK.refl {cells : List Int} (w : WF S0) (hc : cells.length ≤ 100000) (h : S0[k]? = some (.lst (cells.map .int))) : DK k S0 S0 := by
  have l := (List.getElem?_eq_some_iff.mp h)
  obtain ⟨l, e⟩ := l
  refine ⟨w, l, cells, hc, ?_⟩
  rw [← e, List.set_getElem_self]
/-- the last stored list, beside the deck -/
theorem DK.last {m : MO} (h : DK k (S0 ++ [m]) S) (hk : k < S0.length) : S[S0.length]? = some m ∧ ∃ S', S = S' ++ [m] ∧ S'.length = S0.length := by
  obtain ⟨w, l, cells, hc, rfl⟩ := h
  rw [List.set_append_left _ _ hk]
  refine ⟨?_, _, rfl, by simp⟩
  rw [List.getElem?_append_right (by simp)]
  simp
/-- the last stored list is changed -/
theorem DK.put {m m' : MO} (h : DK k (S0 ++ [m]) S) (hk : k < S0.length) (hm : m'.lo 0 = true) : DK k (S0 ++ [m']) (S.set S0.length m') := by
  obtain ⟨w, l, cells, hc, rfl⟩ := h
  have w0 : WF S0 := by
    unfold WF at *
    simp at w ⊢
    exact w.1
  refine ⟨w0.append hm, by simp; omega, cells, hc, ?_⟩
  rw [List.set_append_left _ _ hk, List.set_append_left _ _ hk, List.set_append_right _ _ (by simp)]
  simp
/-- the last stored list is forgotten -/
theorem DK.pop {m : MO} (h : DK k (S0 ++ [m]) S) (hk : k < S0.length) : DK k S0 (S.take S0.length) := by
  obtain ⟨w, l, cells, hc, rfl⟩ := h
  have w0 : WF S0 := by
    unfold WF at *
    simp at w ⊢
    exact w.1
  refine ⟨w0, hk, cells, hc, ?_⟩
  rw [List.set_append_left _ _ hk, List.take_append_of_le_length (by simp), List.take_of_length_le (by simp)]
end
section
variable {F : D → Sto → Prop} {E : Exc → Sto → Prop} {S : Sto}
theorem gPop_ref {n : Nat} {ds : List D} (h : atL S n = some ds) : wp (gPop (.ref n) [] S) F E ↔ ∃ d, ds[ds.length - 1]? = some d ∧ F d (S.set n (.lst ds.dropLast)) := by
  unfold gPop
  simp only [h]
  cases e : ds[ds.length - 1]? with
  | some d => exact ⟨fun q => ⟨d, rfl, q⟩, fun ⟨d', e, q⟩ => by cases e; exact q⟩
  | none => exact ⟨fun q => q.elim, fun ⟨d', e, q⟩ => by cases e⟩
theorem gAppend_ref {n : Nat} {ds : List D} {d : D} (h : atL S n = some ds) : wp (gAppend (.ref n) [d] S) F E ↔ ds.length < sizeLine ∧ F .non (S.set n (.lst (ds ++ [d]))) := by
  unfold gAppend
  simp only [h]
  by_cases hl : ds.length < sizeLine
  · rw [if_pos hl]; exact ⟨fun q => ⟨hl, q⟩, fun q => q.2⟩
  · rw [if_neg hl]; exact ⟨fun q => q.elim, fun q => absurd q.1 hl⟩
theorem isTy_ref {n : Nat} {ds : List D} (h : atL S n = some ds) : isTy S "list" (.ref n) = true := by
  simp only [isTy, atL_ok h]
  rfl
theorem gEq_refNil {n : Nat} {ds : List Int} (h : atL S n = some (ds.map .int)) : wp (gEq (.ref n) (.lst []) S) F E ↔ F (.bl (decide (ds = []))) S := by
  have tp : ∀ l : List Int, toPys (l.map .int) = some (l.map PyData.int) := by
    intro l; induction l with
    | nil => rfl
    | cons x l ih => simp [toPys, toPy, ih]
  have cl : ∀ l : List Int, PyData.canLayAll0 (l.map PyData.int) = true := by
    intro l; induction l with
    | nil => rfl
    | cons x l ih => simp [PyData.canLayAll0, PyData.canLay0, ih]
  have e : eqD S (.ref n) (.lst []) = some (decide (ds = [])) := by
    have dp : ∀ l : List Int, PyData.depthAll (l.map PyData.int) ≤ 1 := by
      intro l; induction l with
      | nil => simp [PyData.depthAll]
      | cons x l ih => simp [PyData.depthAll, PyData.depth]; omega
    have s1 : SeqAt.shaped (.list (ds.map PyData.int)) = true := by
      unfold SeqAt.shaped
      have := dp ds
      simp only [PyData.canLay0, cl, Bool.true_and, decide_eq_true_eq, PyData.depth]
      exact decide_eq_true (Nat.le_trans (Nat.succ_le_succ this) (show 2 ≤ 64 by decide))
    have e1 : toPyS S (.ref n) = some (.list (ds.map PyData.int)) := by
      simp only [toPyS, h, tp, Option.map_some]
    have e2 : toPyS S (.lst []) = some (.list []) := rfl
    have s2 : SeqAt.shaped (.list []) = true := by decide
    unfold eqD
    simp only [e1, e2, s1, s2, Bool.and_self, if_true]
    cases ds with
    | nil => rfl
    | cons x l => simp [PyData.eqv, PyData.eqvAll]
  unfold gEq
  rw [e]; rfl
end
/-- a comprehension that leaves the store as it is -/
theorem comp_pure {all : List D} {i : Nat} {el : EvD} {ρ : Rho} {S : Sto} {FF : List D → Sto → Prop} (f : D → D) (hel : ∀ d ∈ all, wp (el (ρ.set i (some d)) S) (fun y S' => y = f d ∧ S' = S) nx) (h : FF (all.map f) S) :
    wp (compM none all (gN i) bYes el ρ all S) FF nx := by
  refine wp_compM (fun k ys S' => S' = S ∧ ys = (all.take k).map f) (fun _ _ _ _ => trivial) (fun k d ys S' hd hk => ?_) (fun ys S' hk => ?_) ⟨rfl, rfl⟩
  · obtain ⟨rfl, rfl⟩ := hk
    refine ⟨_, rfl, ?_⟩
    rw [wp_bYes, if_pos rfl]
    refine wp_mono (hel d (List.mem_of_getElem? hd)) (fun y S'' hy => ?_) (fun _ _ h => h)
    obtain ⟨rfl, rfl⟩ := hy
    refine ⟨rfl, ?_⟩
    rw [List.take_succ, hd]
    simp
  · obtain ⟨rfl, rfl⟩ := hk
    rw [List.take_length]
    exact h
theorem cMul_l {i j : Int} (h0 : 0 ≤ i) (h1 : i < 18446744073709551616) : cMul i j = true := by
  unfold cMul; simp only [Bool.or_eq_true, decide_eq_true_eq]; omega
theorem cMul_r {i j : Int} (h0 : 0 ≤ j) (h1 : j < 18446744073709551616) : cMul i j = true := by
  unfold cMul; simp only [Bool.or_eq_true, decide_eq_true_eq]; omega
theorem cDiv_of {i j : Int} (h0 : 0 < j) (h1 : j < 18446744073709551616) : cDiv i j = true := by
  unfold cDiv; simp only [Bool.and_eq_true, decide_eq_true_eq]
  refine ⟨h0, Nat.lt_of_le_of_lt (m := 64) ?_ (by decide)⟩
  by_cases hz : j.natAbs = 0
  · omega
  · exact Nat.le_of_lt ((Nat.log2_lt hz).mpr (by omega))
theorem atI_mem {α : Type} {ds : List α} {v : Int} (h0 : 0 ≤ v) (h1 : v < ds.length) : ∃ d, d ∈ ds ∧ atI ds v = some d := by
  obtain ⟨j, rfl⟩ := Int.eq_ofNat_of_zero_le h0
  have hj : j < ds.length := by omega
  exact ⟨ds[j], List.getElem_mem hj, atI_nat (List.getElem?_eq_getElem hj)⟩
theorem atL_set {S : Sto} {k : Nat} {ds : List D} (h : k < S.length) : atL (S.set k (.lst ds)) k = some ds := by
  unfold atL; rw [List.getElem?_set_self h]
theorem small_line {n : Nat} (h : n ≤ 16777216) : n ≤ sizeLine := by rw [sizeLine_eq]; exact h
end DL

namespace DL
open PySem PySem.Spec PyProof.Rows L2
theorem tuple_mul1 (l : Addr) (items : Array Value) (n : Nat) (dd : Option Addr) (sl : Array (Option Value)) (u : Tok) :
    Meets (Builtin.«tuple.__mul__» ⟨[.ref l, .int 1 u], []⟩) (fun _ R s => s.heap.get? l = some { cls := .type "tuple", dict := dd, data := .seq items n, slots := sl } ∧
      R (.ok (.ret (Value.ref l))) s) :=
  .of_wp fun prog w A R s h => by
    obtain ⟨hp, g, d, tk, os⟩ := s
    obtain ⟨hl, h⟩ := h
    have f1 := AutoSeq1.idx_int
    have c0 : (decide ((1 : Int) < -(2 ^ 63)) || decide ((1 : Int) ≥ 2 ^ 63)) = false := by decide
    have c1 : (items.isEmpty || (1 : Int) == 1) = true := by simp
    wp_walk using wpAny_loadPart' hl
    repeat (first
      | (refine wpAny_ite_false (decide_eq_false (by rw [c0]; exact Bool.false_ne_true)) ?_; wp_walk using wpAny_loadPart' hl)
      | (refine wpAny_ite_true (decide_eq_true c1) ?_; wp_walk using wpAny_loadPart' hl))
    exact ⟨_, rfl, h⟩
section
variable {X : Cx} {W : WX}
theorem op_rep1 : OpR X (binaryOp .Mult) (fun x y H Q => ∃ l xs, x = V.ref l ∧ y = V.int 1 ∧ SqT X.K H l xs ∧ Q (.ref l) H) := by
  intro pins s σ H x y v u Q I rx ry h
  obtain ⟨l, xs, rfl, rfl, hT, q⟩ := h
  cases rx
  obtain ⟨t, rfl⟩ := ry
  obtain ⟨its, r, ⟨⟨cls, dd, data, sl⟩, ho, hc, n, hd⟩, hs⟩ := I.tuple hT
  simp only at hc hd
  subst hc hd
  refine wpAny_binaryOp_repeat_ref (T := "tuple") (U := "int") (by decide) ⟨_, ho, rfl⟩ (fun s' => typeIs_int s' 1 t) noFill_tuple_mul F.fills_int_mul F.slot_int_rmul repeat_tuple F.slot_int_index.lookup
    (call_meets F.slot_int_rmul (typeIs_int s 1 t) F.entry_int_rmul (F.args_int_rmul_2 _ _) (int_rmul_tuple 1 t l its.toArray n dd sl)
      ⟨ho, rfl, ⟨_, ho, rfl⟩, call_meets F.slot_tuple_mul ⟨_, ho, rfl⟩ F.entry_tuple_mul (F.args_tuple_mul_2 _ _) (tuple_mul1 l its.toArray n dd sl t) ⟨ho, ?_⟩⟩)
  exact ⟨.ref l, _, I, rfl, q⟩
theorem RDs.repl {K : PySem.W.Frag} {μ : Mu} {H : Hp} {ds : List D} {vs : List V} (h : RDs K μ H ds vs) : ∀ m : Nat, RDs K μ H (List.replicate m ds).flatten (List.replicate m vs).flatten
  | 0 => .nil
  | m + 1 => by rw [List.replicate_succ, List.replicate_succ, List.flatten_cons, List.flatten_cons]; exact h.append (RDs.repl h m)
/-- a tuple once; a list some times -/
def gMulS (x y : D) : M D := fun S => match x, y with
  | .tup ds, .int k => if k = 1 then .ok (.tup ds) S else .bad
  | .lst ds, .int k => if 0 ≤ k ∧ k < 1000000 ∧ ds.length * k.toNat ≤ sizeLine then .ok (.lst (List.replicate k.toNat ds).flatten) S else .bad
  | _, _ => .bad
theorem o_mulS : ORD X W (binaryOp .Mult) gMulS := by
  refine ⟨_, op_rep1.or op_rep, fun x y v w μ S σ H Q r rx ry h => ?_⟩
  unfold gMulS at h
  split at h
  · cases ry
    cases rx with
    | tup h1 h2 =>
      split at h
      · rename_i hk
        subst hk
        exact .inl ⟨_, _, rfl, rfl, h1, h.now r _ (.tup h1 h2)⟩
      · exact h.elim
  · cases ry
    split at h
    · rename_i hl
      obtain ⟨p1, v1, rfl, q1, z1⟩ := iTrk_ok (d := .lst _) rfl r rx
      refine .inr ⟨_, _, _, rfl, rfl, q1, by omega, by omega, by rw [← z1.length]; exact hl.2.2, fun p hp => ?_⟩
      exact h μ _ (Stp.new hp) (r.new hp) _ (.lst upd_same ⟨fun z => r.there z hp, fun z => r.hid _ z hp⟩ ((z1.step r (Stp.new hp)).repl _))
    · exact h.elim
  · exact h.elim
end
section
variable {F : D → Sto → Prop} {E : Exc → Sto → Prop} {S : Sto}
theorem gMulS_tup {ds : List D} : wp (gMulS (.tup ds) (.int 1) S) F E ↔ F (.tup ds) S := by
  unfold gMulS; exact Iff.rfl
theorem gMulS_lst4 {d : D} : wp (gMulS (.lst [d]) (.int 4) S) F E ↔ F (.lst [d, d, d, d]) S := by
  unfold gMulS
  simp only []
  rw [if_pos ⟨by decide, by decide, by rw [sizeLine_eq]; show 1 * 4 ≤ 16777216; decide⟩]
  exact Iff.rfl
end
end DL

/-! DLT: texts by one sign parted. -/
namespace DL
open PySem L2
def jn (c : Nat) : List (List Nat) → List Nat
  | [] => []
  | [x] => x
  | x :: y :: r => x ++ c :: jn c (y :: r)
theorem jn_cons {c : Nat} {x : List Nat} {r : List (List Nat)} (h : r ≠ []) : jn c (x :: r) = x ++ c :: jn c r := by
  cases r with
  | nil => exact absurd rfl h
  | cons y r => rfl
theorem pre_uniq {c : Nat} : ∀ {a b u v : List Nat}, c ∉ a → c ∉ b → a ++ c :: u = b ++ c :: v → a = b ∧ u = v
  | [], [], _, _, _, _, e => by simpa using e
  | [], y :: b, _, _, _, hb, e => by simp at e; exact absurd (by simp [e.1]) hb
  | x :: a, [], _, _, ha, _, e => by simp at e; exact absurd (by simp [e.1]) ha
  | x :: a, y :: b, u, v, ha, hb, e => by
    simp only [List.cons_append, List.cons.injEq] at e
    obtain ⟨h1, h2⟩ := pre_uniq (fun z => ha (List.mem_cons_of_mem _ z)) (fun z => hb (List.mem_cons_of_mem _ z)) e.2
    exact ⟨by rw [e.1, h1], h2⟩
theorem jn_uniq {c : Nat} : ∀ {p q : List (List Nat)}, p ≠ [] → q ≠ [] → (∀ x ∈ p, c ∉ x) → (∀ x ∈ q, c ∉ x) → jn c p = jn c q → p = q
  | [], _, h, _, _, _, _ => absurd rfl h
  | _, [], _, h, _, _, _ => absurd rfl h
  | [x], [y], _, _, _, _, e => by simpa [jn] using e
  | [x], y :: z :: r, _, _, hp, _, e => by
    simp only [jn] at e
    exact absurd (show c ∈ x by rw [e]; simp) (hp x (by simp))
  | x :: z :: r, [y], _, _, _, hq, e => by
    simp only [jn] at e
    exact absurd (show c ∈ y by rw [← e]; simp) (hq y (by simp))
  | x :: z :: r, y :: w :: s, _, _, hp, hq, e => by
    simp only [jn] at e
    obtain ⟨h1, h2⟩ := pre_uniq (hp x (by simp)) (hq y (by simp)) e
    rw [h1, jn_uniq (by simp) (by simp) (fun t ht => hp t (List.mem_cons_of_mem _ ht)) (fun t ht => hq t (List.mem_cons_of_mem _ ht)) h2]
theorem app_toList (a b : Str) : (a ++ b).cps.toList = a.cps.toList ++ b.cps.toList := by
  show (a.cps ++ b.cps).toList = _
  simp
theorem str_ext {a b : Str} (h : a.cps.toList = b.cps.toList) : a = b := by
  cases a; cases b
  simp only at h
  congr
  exact Array.toList_inj.mp h
theorem join_toList (c : Nat) : ∀ ps : List Str, (Str.join ⟨#[c]⟩ ps).cps.toList = jn c (ps.map fun p => p.cps.toList)
  | [] => rfl
  | [x] => rfl
  | x :: y :: r => by
    show ((x ++ (⟨#[c]⟩ : Str)) ++ Str.join ⟨#[c]⟩ (y :: r)).cps.toList = _
    rw [app_toList, app_toList, join_toList c (y :: r)]
    simp [jn]
theorem split_join {c : Nat} {ps : List Str} (h0 : ps ≠ []) (hf : ∀ p ∈ ps, c ∉ p.cps.toList) : Txt.split (Str.join ⟨#[c]⟩ ps) ⟨#[c]⟩ = ps := by
  have h1 := StrLaws.join_split (Str.join ⟨#[c]⟩ ps) ⟨#[c]⟩
  have h2 := StrLaws.split_free (Str.join ⟨#[c]⟩ ps) c
  have h3 : Txt.split (Str.join ⟨#[c]⟩ ps) ⟨#[c]⟩ ≠ [] := fun e => by
    have := PyProof.Rows.split_pos (Str.join ⟨#[c]⟩ ps) ⟨#[c]⟩
    rw [e] at this
    simp at this
  generalize Txt.split (Str.join ⟨#[c]⟩ ps) ⟨#[c]⟩ = qs at *
  have h4 : jn c (qs.map fun p => p.cps.toList) = jn c (ps.map fun p => p.cps.toList) := by rw [← join_toList, ← join_toList, h1]
  have h5 := jn_uniq (by simpa using h3) (by simpa using h0) (by simpa using h2) (by simpa using hf) h4
  exact (List.map_inj_right (fun a b e => str_ext e)).mp h5
theorem split_two {c : Nat} {a b : Str} (ha : c ∉ a.cps.toList) (hb : c ∉ b.cps.toList) : Txt.split (a ++ ⟨#[c]⟩ ++ b) ⟨#[c]⟩ = [a, b] := by
  have := split_join (c := c) (ps := [a, b]) (by simp) (fun p hp => by simp only [List.mem_cons, List.not_mem_nil, or_false] at hp; rcases hp with rfl | rfl <;> assumption)
  exact this
end DL

namespace K63
open PySem L2 PyProof.Rows DL
abbrev i_is_shuffle : Nat := 0
abbrev i_is_number : Nat := 1
abbrev i_is_name : Nat := 2
abbrev i_is_thing : Nat := 3
abbrev i_is_word : Nat := 4
abbrev i_is_row : Nat := 5
abbrev i_is_stack : Nat := 6
abbrev i_is_whole : Nat := 7
abbrev i_are_registers : Nat := 8
abbrev i_made_by : Nat := 9
abbrev i_is_choice : Nat := 10
abbrev i_is_op : Nat := 11
abbrev i_is_code : Nat := 12
abbrev i_l_mixed : Nat := 13
abbrev i_l_deck : Nat := 14
abbrev i_l_draw : Nat := 15
abbrev i_l_size : Nat := 16
abbrev i_l_cut : Nat := 17
abbrev i_l_number : Nat := 18
abbrev i_l_thing : Nat := 19
abbrev i_l_shuffle : Nat := 20
abbrev i_l_any_word : Nat := 21
abbrev i_l_op : Nat := 22
abbrev i_l_made : Nat := 23
abbrev i_l_code : Nat := 24
abbrev i_l_bad_op : Nat := 25
abbrev i_l_bad : Nat := 26
abbrev i_law : Nat := 27
def k_BASICS : D := (.tup [(.str "plus"), (.str "minus"), (.str "times"), (.str "less"), (.str "same"), (.str "do"), (.str "dip"), (.str "if"), (.str "while"), (.str "repeat"), (.str "join"), (.str "wrap"), (.str "put"), (.str "part"), (.str "each")])
def k_LETTERS : D := (.str "abcdefgh")
def k_MOST_LEFT : D := (.int 12)
def k_MOST_SIGNS : D := (.int 8)
def k_NUMBERS : D := (.int 1000000000000)
def k_PAIRS : D := (.tup [(.str "plus"), (.str "minus"), (.str "times"), (.str "less"), (.str "same"), (.str "put"), (.str "join")])
def k_SMALL : D := (.str "abcdefghijklmnopqrstuvwxyz")
noncomputable def b_is_shuffle (fu : Nat) (C : Nat → List D → M D) : EvS :=
 (sSeq (sIf (bNot (eT (eIsi "str" (eVar 0)))) (sRet (eC (.bl false))) sNil)
 (sSeq (sAsg (gN 1) (eMeth "str" (gSplit false) (eVar 0) (aCons (eC (.str "-")) aNil)))
 (sSeq (sIf (bOr (eTb (eBin gNe (eCall gLen (aCons (eVar 1) aNil)) (eC (.int 2)))) (bOr (eTb (eBin gGt (eCall gLen (aCons (eBin gIx (eVar 1) (eC (.int 1))) aNil)) (eC k_MOST_LEFT))) (eTb (eBin gNe (eBin gIx (eVar 1) (eC (.int 0))) (eSl false (eC k_LETTERS) oNone (oSome (eCall gLen (aCons (eBin gIx (eVar 1) (eC (.int 0))) aNil)))))))) (sRet (eC (.bl false))) sNil)
 (sRet (eCall gAll (aCons (eComp (iIt (eBin gIx (eVar 1) (eC (.int 1)))) (gN 2) bYes (eBin gIn (eVar 2) (eBin gIx (eVar 1) (eC (.int 0)))) [2]) aNil))))))
noncomputable def b_is_number (fu : Nat) (C : Nat → List D → M D) : EvS :=
 (sRet (eAnd (eIsi "int" (eVar 0)) (eAnd (eNot (eIsi "bool" (eVar 0))) (eChain gLe gLt (eC (.int 0)) (eVar 0) (eC k_NUMBERS)))))
noncomputable def b_is_name (fu : Nat) (C : Nat → List D → M D) : EvS :=
 (sSeq (sIf (bOr (bNot (eT (eIsi "str" (eVar 0)))) (bOr (bNot (eTb (eChain gLe gLe (eC (.int 1)) (eCall gLen (aCons (eVar 0) aNil)) (eC k_MOST_SIGNS)))) (eTb (eBin gIn (eVar 0) (eC k_BASICS))))) (sRet (eC (.bl false))) sNil)
 (sRet (eCall gAll (aCons (eComp (iIt (eVar 0)) (gN 1) bYes (eBin gIn (eVar 1) (eC k_SMALL)) [1]) aNil))))
noncomputable def b_is_thing (fu : Nat) (C : Nat → List D → M D) : EvS :=
 (sSeq (sIf (bOr (bNot (eT (eIsi "tuple" (eVar 0)))) (bOr (eTb (eBin gNe (eCall gLen (aCons (eVar 0) aNil)) (eC (.int 2)))) (bNot (eT (eIsi "str" (eBin gIx (eVar 0) (eC (.int 0)))))))) (sRet (eC (.bl false))) sNil)
 (sSeq (sIf (eTb (eBin gEq (eBin gIx (eVar 0) (eC (.int 0))) (eC (.str "number")))) (sRet (eCall (cl 1 (C i_is_number)) (aCons (eBin gIx (eVar 0) (eC (.int 1))) aNil))) sNil)
 (sSeq (sIf (eTb (eBin gEq (eBin gIx (eVar 0) (eC (.int 0))) (eC (.str "row")))) (sRet (eCall (cl 1 (C i_is_row)) (aCons (eBin gIx (eVar 0) (eC (.int 1))) aNil))) sNil)
 (sRet (eAnd (eBin gEq (eBin gIx (eVar 0) (eC (.int 0))) (eC (.str "list"))) (eCall (cl 1 (C i_is_stack)) (aCons (eBin gIx (eVar 0) (eC (.int 1))) aNil)))))))
noncomputable def b_is_word (fu : Nat) (C : Nat → List D → M D) : EvS :=
 (sSeq (sIf (eT (eIsi "str" (eVar 0))) (sRet (eOr (eBin gIn (eVar 0) (eC k_BASICS)) (eOr (eCall (cl 1 (C i_is_name)) (aCons (eVar 0) aNil)) (eCall (cl 1 (C i_is_shuffle)) (aCons (eVar 0) aNil))))) sNil)
 (sSeq (sIf (bOr (bNot (eT (eIsi "tuple" (eVar 0)))) (bOr (eTb (eBin gNe (eCall gLen (aCons (eVar 0) aNil)) (eC (.int 2)))) (bNot (eT (eIsi "str" (eBin gIx (eVar 0) (eC (.int 0)))))))) (sRet (eC (.bl false))) sNil)
 (sRet (eAnd (eBin gEq (eBin gIx (eVar 0) (eC (.int 0))) (eC (.str "push"))) (eCall (cl 1 (C i_is_thing)) (aCons (eBin gIx (eVar 0) (eC (.int 1))) aNil))))))
noncomputable def b_is_row (fu : Nat) (C : Nat → List D → M D) : EvS :=
 (sRet (eAnd (eIsi "tuple" (eVar 0)) (eCall gAll (aCons (eComp (iIt (eVar 0)) (gN 1) bYes (eCall (cl 1 (C i_is_word)) (aCons (eVar 1) aNil)) [1]) aNil))))
noncomputable def b_is_stack (fu : Nat) (C : Nat → List D → M D) : EvS :=
 (sRet (eAnd (eIsi "tuple" (eVar 0)) (eCall gAll (aCons (eComp (iIt (eVar 0)) (gN 1) bYes (eCall (cl 1 (C i_is_thing)) (aCons (eVar 1) aNil)) [1]) aNil))))
noncomputable def b_is_whole (fu : Nat) (C : Nat → List D → M D) : EvS :=
 (sRet (eAnd (eIsi "int" (eVar 0)) (eAnd (eNot (eIsi "bool" (eVar 0))) (eBin gGe (eVar 0) (eC (.int 0))))))
noncomputable def b_are_registers (fu : Nat) (C : Nat → List D → M D) : EvS :=
 (sRet (eAnd (eIsi "tuple" (eVar 0)) (eCall gAll (aCons (eComp (iIt (eVar 0)) (gN 2) bYes (eAnd (eCall (cl 1 (C i_is_whole)) (aCons (eVar 2) aNil)) (eBin gLt (eVar 2) (eVar 1))) [2]) aNil))))
noncomputable def b_made_by (fu : Nat) (C : Nat → List D → M D) : EvS :=
 (sSeq (sIf (eTb (eBin gEq (eBin gIx (eVar 0) (eC (.int 0))) (eC (.str "if")))) (sRet (eCall gLen (aCons (eBin gIx (eBin gIx (eVar 0) (eC (.int 3))) (eC (.int 2))) aNil))) sNil)
 (sRet (eC (.int 1))))
noncomputable def b_is_choice (fu : Nat) (C : Nat → List D → M D) : EvS :=
 (sSeq (sIf (bOr (bNot (eT (eCall (cl 2 (C i_are_registers)) (aCons (eSl false (eVar 0) (oSome (eC (.int 1))) (oSome (eC (.int 2)))) (aCons (eVar 1) aNil))))) (bNot (eT (eCall (cl 2 (C i_are_registers)) (aCons (eBin gIx (eVar 0) (eC (.int 2))) (aCons (eVar 1) aNil)))))) (sRet (eC (.bl false))) sNil)
 (sSeq (sIf (bOr (bNot (eT (eCall (cl 1 (C i_is_code)) (aCons (eBin gIx (eVar 0) (eC (.int 3))) aNil)))) (bNot (eT (eCall (cl 1 (C i_is_code)) (aCons (eBin gIx (eVar 0) (eC (.int 4))) aNil))))) (sRet (eC (.bl false))) sNil)
 (sSeq (sIf (bOr (eTb (eBin gNe (eBin gIx (eBin gIx (eVar 0) (eC (.int 3))) (eC (.int 0))) (eCall gLen (aCons (eBin gIx (eVar 0) (eC (.int 2))) aNil)))) (eTb (eBin gNe (eBin gIx (eBin gIx (eVar 0) (eC (.int 4))) (eC (.int 0))) (eCall gLen (aCons (eBin gIx (eVar 0) (eC (.int 2))) aNil))))) (sRet (eC (.bl false))) sNil)
 (sRet (eBin gEq (eCall gLen (aCons (eBin gIx (eBin gIx (eVar 0) (eC (.int 3))) (eC (.int 2))) aNil)) (eCall gLen (aCons (eBin gIx (eBin gIx (eVar 0) (eC (.int 4))) (eC (.int 2))) aNil)))))))
noncomputable def b_is_op (fu : Nat) (C : Nat → List D → M D) : EvS :=
 (sSeq (sIf (bOr (bNot (eT (eIsi "tuple" (eVar 0)))) (bOr (eTb (eBin gLt (eCall gLen (aCons (eVar 0) aNil)) (eC (.int 2)))) (bNot (eT (eIsi "str" (eBin gIx (eVar 0) (eC (.int 0)))))))) (sRet (eC (.bl false))) sNil)
 (sSeq (sIf (eTb (eBin gEq (eBin gIx (eVar 0) (eC (.int 0))) (eC (.str "push")))) (sRet (eAnd (eBin gEq (eCall gLen (aCons (eVar 0) aNil)) (eC (.int 2))) (eCall (cl 1 (C i_is_thing)) (aCons (eBin gIx (eVar 0) (eC (.int 1))) aNil)))) sNil)
 (sSeq (sIf (eTb (eBin gEq (eBin gIx (eVar 0) (eC (.int 0))) (eC (.str "wrap")))) (sRet (eAnd (eBin gEq (eCall gLen (aCons (eVar 0) aNil)) (eC (.int 2))) (eCall (cl 2 (C i_are_registers)) (aCons (eSl false (eVar 0) (oSome (eC (.int 1))) oNone) (aCons (eVar 1) aNil))))) sNil)
 (sSeq (sIf (eTb (eBin gIn (eBin gIx (eVar 0) (eC (.int 0))) (eC k_PAIRS))) (sRet (eAnd (eBin gEq (eCall gLen (aCons (eVar 0) aNil)) (eC (.int 3))) (eCall (cl 2 (C i_are_registers)) (aCons (eSl false (eVar 0) (oSome (eC (.int 1))) oNone) (aCons (eVar 1) aNil))))) sNil)
 (sRet (eAnd (eBin gEq (eBin gIx (eVar 0) (eC (.int 0))) (eC (.str "if"))) (eAnd (eBin gEq (eCall gLen (aCons (eVar 0) aNil)) (eC (.int 5))) (eCall (cl 2 (C i_is_choice)) (aCons (eVar 0) (aCons (eVar 1) aNil))))))))))
noncomputable def b_is_code (fu : Nat) (C : Nat → List D → M D) : EvS :=
 (sSeq (sIf (bOr (bNot (eT (eIsi "tuple" (eVar 0)))) (bOr (eTb (eBin gNe (eCall gLen (aCons (eVar 0) aNil)) (eC (.int 3)))) (bOr (bNot (eT (eCall (cl 1 (C i_is_whole)) (aCons (eBin gIx (eVar 0) (eC (.int 0))) aNil)))) (bNot (eT (eIsi "tuple" (eBin gIx (eVar 0) (eC (.int 1))))))))) (sRet (eC (.bl false))) sNil)
 (sSeq (sAsg (gN 1) (eBin gIx (eVar 0) (eC (.int 0))))
 (sSeq (sFor (iIt (eBin gIx (eVar 0) (eC (.int 1)))) (gN 2) (sSeq (sIf (bNot (eT (eCall (cl 2 (C i_is_op)) (aCons (eVar 2) (aCons (eVar 1) aNil))))) (sRet (eC (.bl false))) sNil)
 (sAsg (gN 1) (eBin gAdd (eVar 1) (eCall (cl 1 (C i_made_by)) (aCons (eVar 2) aNil))))))
 (sRet (eCall (cl 2 (C i_are_registers)) (aCons (eBin gIx (eVar 0) (eC (.int 2))) (aCons (eVar 1) aNil)))))))
noncomputable def b_l_mixed (fu : Nat) (C : Nat → List D → M D) : EvS :=
 (sSeq (sAsg (gN 0) (eBin gMod (eBin gAdd (eBin gMul (eBin gMod (eVar 0) (eC (.int 2147483629))) (eC (.int 48271))) (eC (.int 7))) (eC (.int 2147483647))))
 (sSeq (sAsg (gN 0) (eBin gMod (eBin gAdd (eBin gAdd (eBin gMul (eVar 0) (eVar 0)) (eBin gMul (eC (.int 69621)) (eVar 0))) (eC (.int 11))) (eC (.int 2147483629))))
 (sRet (eBin gMod (eBin gAdd (eBin gMul (eVar 0) (eC (.int 39373))) (eC (.int 5))) (eC (.int 2147483587))))))
noncomputable def b_l_deck (fu : Nat) (C : Nat → List D → M D) : EvS :=
 (sSeq (sAsg (gN 2) (eCall gListM (aCons (eSl false (eVar 0) oNone (oSome (eC (.int 63)))) aNil)))
 (sSeq (sAsg (gN 3) (eBin gAdd (eC (.int 48271)) (eBin gMod (eCall gSum (aCons (eVar 2) aNil)) (eC (.int 2147483647)))))
 (sSeq (sWhile fu (eTb (eBin gLt (eCall gLen (aCons (eVar 2) aNil)) (eVar 1))) (sSeq (sAsg (gN 3) (eCall (cl 1 (C i_l_mixed)) (aCons (eBin gAdd (eVar 3) (eCall gLen (aCons (eVar 2) aNil))) aNil)))
 (sExpr (eMeth "list" gAppend (eVar 2) (aCons (eVar 3) aNil)))))
 (sRet (eUn (gRev true) (eVar 2))))))
noncomputable def b_l_draw (fu : Nat) (C : Nat → List D → M D) : EvS :=
 (sSeq (sIf (eTb (eBin gEq (eVar 0) (eLst aNil))) (sRet (eC (.int 0))) sNil)
 (sSeq (sAsg (gN 2) (eMeth "list" gPop (eVar 0) aNil))
 (sSeq (sIf (eTb (eBin gGe (eVar 2) (eBin gPow (eC (.int 10)) (eC (.int 18))))) (sSeq (sExpr (eMeth "list" gAppend (eVar 0) (aCons (eBin gDiv (eVar 2) (eVar 1)) aNil)))
 (sRet (eBin gMod (eVar 2) (eVar 1)))) sNil)
 (sRet (eBin gMod (eCall (cl 1 (C i_l_mixed)) (aCons (eVar 2) aNil)) (eVar 1))))))
noncomputable def b_l_size (fu : Nat) (C : Nat → List D → M D) : EvS :=
 (sSeq (sAsg (gN 1) (eC (.int 0)))
 (sSeq (sFor (iIt (eVar 0)) (gN 2) (sSeq (sAsg (gN 1) (eBin gAdd (eVar 1) (eC (.int 1))))
 (sSeq (sIf (eTb (eBin gEq (eBin gIx (eVar 2) (eC (.int 0))) (eC (.str "list")))) (sAsg (gN 1) (eBin gAdd (eVar 1) (eCall (cl 1 (C i_l_size)) (aCons (eBin gIx (eVar 2) (eC (.int 1))) aNil)))) sNil)
 (sIf (eTb (eBin gEq (eBin gIx (eVar 2) (eC (.int 0))) (eC (.str "row")))) (sAsg (gN 1) (eBin gAdd (eBin gAdd (eVar 1) (eCall gLen (aCons (eBin gIx (eVar 2) (eC (.int 1))) aNil))) (eCall (cl 1 (C i_l_size)) (aCons (eComp (iIt (eBin gIx (eVar 2) (eC (.int 1)))) (gN 3) (eT (eIsi "tuple" (eVar 3))) (eBin gIx (eVar 3) (eC (.int 1))) [3]) aNil)))) sNil))))
 (sRet (eVar 1))))
noncomputable def b_l_cut (fu : Nat) (C : Nat → List D → M D) : EvS :=
 (sSeq (sWhile fu (eTb (eBin gGt (eCall (cl 1 (C i_l_size)) (aCons (eLst (aCons (eTup (aCons (eC (.str "row")) (aCons (eVar 0) aNil))) aNil)) aNil)) (eVar 1))) (sAsg (gN 0) (eSl false (eVar 0) oNone (oSome (eUn gNeg (eC (.int 1)))))))
 (sRet (eCall gTuple (aCons (eVar 0) aNil))))
noncomputable def b_l_number (fu : Nat) (C : Nat → List D → M D) : EvS :=
 (sRet (eBin gIx (eLst (aCons (eC (.int 0)) (aCons (eC (.int 1)) (aCons (eC (.int 2)) (aCons (eCall (cl 2 (C i_l_draw)) (aCons (eVar 0) (aCons (eC (.int 7)) aNil))) (aCons (eBin gSub (eBin gPow (eC (.int 10)) (eC (.int 12))) (eC (.int 1))) (aCons (eCall (cl 2 (C i_l_draw)) (aCons (eVar 0) (aCons (eBin gPow (eC (.int 10)) (eC (.int 12))) aNil))) aNil))))))) (eCall (cl 2 (C i_l_draw)) (aCons (eVar 0) (aCons (eC (.int 6)) aNil)))))
noncomputable def b_l_thing (fu : Nat) (C : Nat → List D → M D) : EvS :=
 (sSeq (sAsg (gN 2) (eCall (cl 2 (C i_l_draw)) (aCons (eVar 0) (aCons (eC (.int 6)) aNil))))
 (sSeq (sIf (bOr (eTb (eBin gEq (eVar 1) (eC (.int 0)))) (eTb (eBin gLt (eVar 2) (eC (.int 3))))) (sRet (eTup (aCons (eC (.str "number")) (aCons (eCall (cl 1 (C i_l_number)) (aCons (eVar 0) aNil)) aNil)))) sNil)
 (sSeq (sAsg (gN 3) (eBin gIx (eLst (aCons (eCall (cl 2 (C i_l_draw)) (aCons (eVar 0) (aCons (eC (.int 4)) aNil))) (aCons (eCall (cl 2 (C i_l_draw)) (aCons (eVar 0) (aCons (eC (.int 4)) aNil))) (aCons (eCall (cl 2 (C i_l_draw)) (aCons (eVar 0) (aCons (eC (.int 7)) aNil))) aNil)))) (eCall (cl 2 (C i_l_draw)) (aCons (eVar 0) (aCons (eC (.int 3)) aNil)))))
 (sSeq (sIf (eTb (eBin gLt (eVar 2) (eC (.int 5)))) (sRet (eTup (aCons (eC (.str "row")) (aCons (eCall (cl 2 (C i_l_cut)) (aCons (eComp (iRange1 (aCons (eVar 3) aNil)) (gN 4) bYes (eCall (cl 2 (C i_l_any_word)) (aCons (eVar 0) (aCons (eBin gSub (eVar 1) (eC (.int 1))) aNil))) [4]) (aCons (eC (.int 24)) aNil))) aNil)))) sNil)
 (sRet (eTup (aCons (eC (.str "list")) (aCons (eCall gTuple (aCons (eComp (iRange1 (aCons (eVar 3) aNil)) (gN 4) bYes (eCall (cl 2 (C i_l_thing)) (aCons (eVar 0) (aCons (eBin gSub (eVar 1) (eC (.int 1))) aNil))) [4]) aNil)) aNil))))))))
noncomputable def b_l_shuffle (fu : Nat) (C : Nat → List D → M D) : EvS :=
 (sSeq (sAsg (gN 2) (eCall (cl 2 (C i_l_draw)) (aCons (eVar 0) (aCons (eBin gAdd (eVar 1) (eC (.int 1))) aNil))))
 (sSeq (sAsg (gN 3) (eSl false (eC (.str "abcdefgh")) oNone (oSome (eVar 2))))
 (sSeq (sAsg (gN 4) (eC (.str "")))
 (sSeq (sIf (eTb (eBin gGt (eVar 2) (eC (.int 0)))) (sSeq (sAsg (gN 5) (eBin gIx (eLst (aCons (eC (.int 4)) (aCons (eC (.int 13)) aNil))) (eBin gDiv (eCall (cl 2 (C i_l_draw)) (aCons (eVar 0) (aCons (eC (.int 8)) aNil))) (eC (.int 7)))))
 (sFor (iRange1 (aCons (eCall (cl 2 (C i_l_draw)) (aCons (eVar 0) (aCons (eVar 5) aNil))) aNil)) (gN 6) (sAsg (gN 4) (eBin gAdd (eVar 4) (eBin gIx (eVar 3) (eCall (cl 2 (C i_l_draw)) (aCons (eVar 0) (aCons (eVar 2) aNil)))))))) sNil)
 (sRet (eBin gAdd (eBin gAdd (eVar 3) (eC (.str "-"))) (eVar 4)))))))
noncomputable def b_l_any_word (fu : Nat) (C : Nat → List D → M D) : EvS :=
 (sSeq (sAsg (gN 2) (eLst (aCons (eC (.str "plus")) (aCons (eC (.str "minus")) (aCons (eC (.str "times")) (aCons (eC (.str "less")) (aCons (eC (.str "same")) (aCons (eC (.str "do")) (aCons (eC (.str "dip")) (aCons (eC (.str "if")) (aCons (eC (.str "while")) (aCons (eC (.str "repeat")) (aCons (eC (.str "join")) (aCons (eC (.str "wrap")) (aCons (eC (.str "put")) aNil)))))))))))))))
 (sSeq (sAsg (gN 3) (eCall (cl 2 (C i_l_draw)) (aCons (eVar 0) (aCons (eC (.int 8)) aNil))))
 (sSeq (sIf (eTb (eBin gLt (eVar 3) (eC (.int 3)))) (sRet (eTup (aCons (eC (.str "push")) (aCons (eCall (cl 2 (C i_l_thing)) (aCons (eVar 0) (aCons (eVar 1) aNil))) aNil)))) sNil)
 (sSeq (sIf (eTb (eBin gLt (eVar 3) (eC (.int 5)))) (sRet (eCall (cl 2 (C i_l_shuffle)) (aCons (eVar 0) (aCons (eBin gIx (eLst (aCons (eC (.int 3)) (aCons (eC (.int 8)) aNil))) (eBin gDiv (eCall (cl 2 (C i_l_draw)) (aCons (eVar 0) (aCons (eC (.int 8)) aNil))) (eC (.int 7)))) aNil)))) sNil)
 (sRet (eBin gIx (eBin gAdd (eVar 2) (eLst (aCons (eC (.str "part")) (aCons (eC (.str "each")) aNil)))) (eCall (cl 2 (C i_l_draw)) (aCons (eVar 0) (aCons (eC (.int 15)) aNil)))))))))
noncomputable def b_l_op (fu : Nat) (C : Nat → List D → M D) : EvS :=
 (sSeq (sAsg (gN 3) (eBin gIx (eLst (aCons (eC (.str "push")) (aCons (eC (.str "plus")) (aCons (eC (.str "minus")) (aCons (eC (.str "times")) (aCons (eC (.str "less")) (aCons (eC (.str "same")) (aCons (eC (.str "put")) (aCons (eC (.str "join")) (aCons (eC (.str "wrap")) (aCons (eC (.str "if")) (aCons (eC (.str "if")) aNil)))))))))))) (eCall (cl 2 (C i_l_draw)) (aCons (eVar 0) (aCons (eC (.int 11)) aNil)))))
 (sSeq (sIf (bOr (eTb (eBin gEq (eVar 1) (eC (.int 0)))) (bOr (eTb (eBin gEq (eVar 3) (eC (.str "push")))) (bAnd (eTb (eBin gEq (eVar 3) (eC (.str "if")))) (eTb (eBin gEq (eVar 2) (eC (.int 0))))))) (sRet (eTup (aCons (eC (.str "push")) (aCons (eCall (cl 2 (C i_l_thing)) (aCons (eVar 0) (aCons (eC (.int 2)) aNil))) aNil)))) sNil)
 (sSeq (sIf (eTb (eBin gEq (eVar 3) (eC (.str "wrap")))) (sRet (eTup (aCons (eVar 3) (aCons (eCall (cl 2 (C i_l_draw)) (aCons (eVar 0) (aCons (eVar 1) aNil))) aNil)))) sNil)
 (sSeq (sIf (eTb (eBin gNe (eVar 3) (eC (.str "if")))) (sRet (eTup (aCons (eVar 3) (aCons (eCall (cl 2 (C i_l_draw)) (aCons (eVar 0) (aCons (eVar 1) aNil))) (aCons (eCall (cl 2 (C i_l_draw)) (aCons (eVar 0) (aCons (eVar 1) aNil))) aNil))))) sNil)
 (sSeq (sAsg (gN 4) (eCall gTuple (aCons (eComp (iRange1 (aCons (eCall (cl 2 (C i_l_draw)) (aCons (eVar 0) (aCons (eC (.int 4)) aNil))) aNil)) (gN 7) bYes (eCall (cl 2 (C i_l_draw)) (aCons (eVar 0) (aCons (eVar 1) aNil))) [7]) aNil)))
 (sSeq (sAsg (gN 5) (eCall (cl 2 (C i_l_draw)) (aCons (eVar 0) (aCons (eC (.int 4)) aNil))))
 (sSeq (sAsg (gN 6) (eComp (iRange1 (aCons (eC (.int 2)) aNil)) (gN 7) bYes (eCall (cl 4 (C i_l_code)) (aCons (eVar 0) (aCons (eCall gLen (aCons (eVar 4) aNil)) (aCons (eVar 5) (aCons (eBin gSub (eVar 2) (eC (.int 1))) aNil))))) [7]))
 (sRet (eTup (aCons (eVar 3) (aCons (eCall (cl 2 (C i_l_draw)) (aCons (eVar 0) (aCons (eVar 1) aNil))) (aCons (eVar 4) (aCons (eBin gIx (eVar 6) (eC (.int 0))) (aCons (eBin gIx (eVar 6) (eC (.int 1))) aNil))))))))))))))
noncomputable def b_l_made (fu : Nat) (C : Nat → List D → M D) : EvS :=
 (sSeq (sIf (eTb (eBin gEq (eBin gIx (eVar 0) (eC (.int 0))) (eC (.str "if")))) (sRet (eCall gLen (aCons (eBin gIx (eBin gIx (eVar 0) (eC (.int 3))) (eC (.int 2))) aNil))) sNil)
 (sRet (eC (.int 1))))
noncomputable def b_l_code (fu : Nat) (C : Nat → List D → M D) : EvS :=
 (sSeq (sAsg (gN 4) (eLstM aNil))
 (sSeq (sAsg (gN 5) (eVar 1))
 (sSeq (sFor (iRange1 (aCons (eBin gAdd (eCall (cl 2 (C i_l_draw)) (aCons (eVar 0) (aCons (eC (.int 6)) aNil))) (eCall gInt (aCons (eBin gEq (eVar 1) (eC (.int 0))) aNil))) aNil)) (gN 6) (sSeq (sExpr (eMeth "list" gAppend (eVar 4) (aCons (eCall (cl 3 (C i_l_op)) (aCons (eVar 0) (aCons (eVar 5) (aCons (eVar 3) aNil)))) aNil)))
 (sAsg (gN 5) (eBin gAdd (eVar 5) (eCall (cl 1 (C i_l_made)) (aCons (eBin gIx (eVar 4) (eUn gNeg (eC (.int 1)))) aNil))))))
 (sSeq (sIf (eTb (eBin gEq (eVar 5) (eC (.int 0)))) (sSeq (sExpr (eMeth "list" gAppend (eVar 4) (aCons (eTup (aCons (eC (.str "push")) (aCons (eCall (cl 2 (C i_l_thing)) (aCons (eVar 0) (aCons (eC (.int 1)) aNil))) aNil))) aNil)))
 (sAsg (gN 5) (eC (.int 1)))) sNil)
 (sRet (eTup (aCons (eVar 1) (aCons (eCall gTuple (aCons (eVar 4) aNil)) (aCons (eCall gTuple (aCons (eComp (iRange1 (aCons (eVar 2) aNil)) (gN 6) bYes (eCall (cl 2 (C i_l_draw)) (aCons (eVar 0) (aCons (eVar 5) aNil))) [6]) aNil)) aNil)))))))))
noncomputable def b_l_bad_op (fu : Nat) (C : Nat → List D → M D) : EvS :=
 (sSeq (sAsg (gN 3) (eBin gIx (eLst (aCons (eVar 2) (aCons (eBin gAdd (eVar 2) (eCall (cl 2 (C i_l_draw)) (aCons (eVar 0) (aCons (eC (.int 9)) aNil)))) (aCons (eUn gNeg (eC (.int 1))) (aCons (eC (.bl true)) (aCons (eC .non) (aCons (eC (.str "0")) (aCons (eTup (aCons (eC (.int 0)) aNil)) aNil)))))))) (eCall (cl 2 (C i_l_draw)) (aCons (eVar 0) (aCons (eC (.int 7)) aNil)))))
 (sSeq (sAsg (gN 4) (eLst (aCons (eCall gList (aCons (eVar 1) aNil)) (aCons (eBin gAdd (eVar 1) (eTup (aCons (eC (.int 0)) aNil))) (aCons (eSl false (eVar 1) oNone (oSome (eUn gNeg (eC (.int 1))))) (aCons (eBin gAdd (eTup (aCons (eC (.str "pushes")) aNil)) (eSl false (eVar 1) (oSome (eC (.int 1))) oNone)) (aCons (eBin gAdd (eTup (aCons (eC .non) aNil)) (eSl false (eVar 1) (oSome (eC (.int 1))) oNone)) (aCons (eTup aNil) (aCons (eC .non) (aCons (eBin gIx (eVar 1) (eC (.int 0))) aNil))))))))))
 (sSeq (sIf (eTb (eBin gEq (eBin gIx (eVar 1) (eC (.int 0))) (eC (.str "push")))) (sAsg (gN 4) (eBin gAdd (eVar 4) (eLst (aCons (eTup (aCons (eC (.str "push")) (aCons (eTup (aCons (eC (.str "number")) (aCons (eUn gNeg (eC (.int 1))) aNil))) aNil))) (aCons (eTup (aCons (eC (.str "push")) (aCons (eTup (aCons (eC (.str "number")) (aCons (eBin gPow (eC (.int 10)) (eC (.int 12))) aNil))) aNil))) (aCons (eTup (aCons (eC (.str "push")) (aCons (eC (.int 0)) aNil))) (aCons (eTup (aCons (eC (.str "push")) (aCons (eTup (aCons (eC (.str "row")) (aCons (eLst (aCons (eC (.str "do")) aNil)) aNil))) aNil))) aNil))))))) (sIf (eTb (eBin gEq (eBin gIx (eVar 1) (eC (.int 0))) (eC (.str "if")))) (sSeq (sAsg (gTp 5 (gNs 9 (gNs 10 (gNs 11 (gNs 12 (gNs 13 gN0)))))) (eVar 1))
 (sSeq (sAsg (gN 5) (eBin gAdd (eTup (aCons (eBin gAdd (eBin gIx (eVar 12) (eC (.int 0))) (eC (.int 1))) aNil)) (eSl false (eVar 12) (oSome (eC (.int 1))) oNone)))
 (sSeq (sAsg (gN 6) (eBin gAdd (eSl false (eVar 12) oNone (oSome (eC (.int 2)))) (eTup (aCons (eBin gAdd (eBin gIx (eVar 12) (eC (.int 2))) (eTup (aCons (eC (.int 0)) aNil))) aNil))))
 (sSeq (sIf (eTb (eBin gEq (eBin gAdd (eBin gIx (eVar 12) (eC (.int 0))) (eCall gLen (aCons (eBin gIx (eVar 12) (eC (.int 1))) aNil))) (eC (.int 0)))) (sAsg (gN 6) (eBin gAdd (eSl false (eVar 12) oNone (oSome (eC (.int 2)))) (eTup (aCons (eBin gIx (eVar 12) (eC (.int 2))) (aCons (eBin gIx (eVar 12) (eC (.int 2))) aNil))))) sNil)
 (sSeq (sAsg (gN 4) (eBin gAdd (eVar 4) (eLst (aCons (eTup (aCons (eVar 9) (aCons (eVar 3) (aCons (eVar 11) (aCons (eVar 12) (aCons (eVar 13) aNil)))))) (aCons (eTup (aCons (eVar 9) (aCons (eVar 10) (aCons (eBin gAdd (eVar 11) (eTup (aCons (eVar 3) aNil))) (aCons (eVar 12) (aCons (eVar 13) aNil)))))) aNil)))))
 (sSeq (sAsg (gN 4) (eBin gAdd (eVar 4) (eLst (aCons (eTup (aCons (eVar 9) (aCons (eVar 10) (aCons (eVar 11) (aCons (eVar 5) (aCons (eVar 13) aNil)))))) (aCons (eTup (aCons (eVar 9) (aCons (eVar 10) (aCons (eVar 11) (aCons (eVar 12) (aCons (eBin gAdd (eTup (aCons (eBin gAdd (eBin gIx (eVar 13) (eC (.int 0))) (eC (.int 1))) aNil)) (eSl false (eVar 13) (oSome (eC (.int 1))) oNone)) aNil)))))) aNil)))))
 (sSeq (sAsg (gN 4) (eBin gAdd (eVar 4) (eLst (aCons (eTup (aCons (eVar 9) (aCons (eVar 10) (aCons (eVar 11) (aCons (eVar 6) (aCons (eVar 13) aNil)))))) (aCons (eTup (aCons (eVar 9) (aCons (eVar 10) (aCons (eCall gList (aCons (eVar 11) aNil)) (aCons (eVar 12) (aCons (eVar 13) aNil)))))) aNil)))))
 (sSeq (sAsg (gN 4) (eBin gAdd (eVar 4) (eLst (aCons (eTup (aCons (eVar 9) (aCons (eVar 10) (aCons (eVar 11) (aCons (eVar 12) (aCons (eC .non) aNil)))))) (aCons (eTup (aCons (eVar 9) (aCons (eVar 10) (aCons (eBin gAdd (eBin gAdd (eVar 11) (eVar 11)) (eTup (aCons (eVar 10) aNil))) (aCons (eVar 12) (aCons (eVar 13) aNil)))))) aNil)))))
 (sSeq (sAsg (gN 7) (eComp (iIt (eTup (aCons (eVar 12) (aCons (eVar 13) aNil)))) (gN 14) bYes (eBin gAdd (eBin gAdd (eSl false (eVar 14) oNone (oSome (eC (.int 1)))) (eTup (aCons (eBin gAdd (eBin gIx (eVar 14) (eC (.int 1))) (eTup (aCons (eTup (aCons (eC (.str "wrap")) (aCons (eC (.int 99)) aNil))) aNil))) aNil))) (eSl false (eVar 14) (oSome (eC (.int 2))) oNone)) [14]))
 (sSeq (sAsg (gN 4) (eBin gAdd (eVar 4) (eLst (aCons (eTup (aCons (eVar 9) (aCons (eVar 10) (aCons (eVar 11) (aCons (eBin gIx (eVar 7) (eC (.int 0))) (aCons (eVar 13) aNil)))))) (aCons (eTup (aCons (eVar 9) (aCons (eVar 10) (aCons (eVar 11) (aCons (eVar 12) (aCons (eBin gIx (eVar 7) (eC (.int 1))) aNil)))))) aNil)))))
 (sAsg (gN 4) (eBin gAdd (eVar 4) (eLst (aCons (eTup (aCons (eVar 9) (aCons (eVar 10) (aCons (eVar 11) (aCons (eC .non) (aCons (eVar 13) aNil)))))) (aCons (eTup (aCons (eVar 9) (aCons (eVar 10) (aCons (eVar 11) (aCons (eBin gAdd (eSl false (eVar 12) oNone (oSome (eC (.int 2)))) (eBin gMulS (eTup (aCons (eTup (aCons (eC (.int 99)) aNil)) aNil)) (eC (.int 1)))) (aCons (eVar 13) aNil)))))) aNil))))))))))))))) (sSeq (sAsg (gN 8) (eBin gAdd (eC (.int 1)) (eCall (cl 2 (C i_l_draw)) (aCons (eVar 0) (aCons (eBin gSub (eCall gLen (aCons (eVar 1) aNil)) (eC (.int 1))) aNil)))))
 (sAsg (gN 4) (eBin gAdd (eVar 4) (eBin gMulS (eLst (aCons (eBin gAdd (eBin gAdd (eSl false (eVar 1) oNone (oSome (eVar 8))) (eTup (aCons (eVar 3) aNil))) (eSl false (eVar 1) (oSome (eBin gAdd (eVar 8) (eC (.int 1)))) oNone)) aNil)) (eC (.int 4))))))))
 (sRet (eBin gIx (eVar 4) (eCall (cl 2 (C i_l_draw)) (aCons (eVar 0) (aCons (eCall gLen (aCons (eVar 4) aNil)) aNil))))))))
noncomputable def b_l_bad (fu : Nat) (C : Nat → List D → M D) : EvS :=
 (sSeq (sAsg (gTp 3 (gNs 6 (gNs 7 (gNs 8 gN0)))) (eVar 1))
 (sSeq (sAsg (gN 2) (eVar 6))
 (sSeq (sFor (iIt (eVar 7)) (gN 3) (sAsg (gN 2) (eBin gAdd (eVar 2) (eCall (cl 1 (C i_l_made)) (aCons (eVar 3) aNil)))))
 (sSeq (sAsg (gN 4) (eBin gIx (eLst (aCons (eVar 2) (aCons (eBin gAdd (eVar 2) (eCall (cl 2 (C i_l_draw)) (aCons (eVar 0) (aCons (eC (.int 9)) aNil)))) (aCons (eUn gNeg (eC (.int 1))) (aCons (eC (.bl true)) (aCons (eC .non) (aCons (eC (.str "0")) (aCons (eTup (aCons (eC (.int 0)) aNil)) aNil)))))))) (eCall (cl 2 (C i_l_draw)) (aCons (eVar 0) (aCons (eC (.int 7)) aNil)))))
 (sSeq (sAsg (gN 5) (eLst (aCons (eTup (aCons (eUn gNeg (eC (.int 1))) (aCons (eVar 7) (aCons (eVar 8) aNil)))) (aCons (eTup (aCons (eC (.bl true)) (aCons (eVar 7) (aCons (eVar 8) aNil)))) (aCons (eTup (aCons (eC (.str "1")) (aCons (eVar 7) (aCons (eVar 8) aNil)))) (aCons (eTup (aCons (eC .non) (aCons (eVar 7) (aCons (eVar 8) aNil)))) (aCons (eTup (aCons (eVar 6) (aCons (eCall gList (aCons (eVar 7) aNil)) (aCons (eVar 8) aNil)))) aNil)))))))
 (sSeq (sAsg (gN 5) (eBin gAdd (eVar 5) (eLst (aCons (eTup (aCons (eVar 6) (aCons (eVar 7) (aCons (eCall gList (aCons (eVar 8) aNil)) aNil)))) (aCons (eTup (aCons (eVar 6) (aCons (eVar 7) aNil))) (aCons (eBin gAdd (eVar 1) (eTup (aCons (eTup aNil) aNil))) (aCons (eCall gList (aCons (eVar 1) aNil)) (aCons (eTup (aCons (eVar 6) (aCons (eVar 7) (aCons (eBin gAdd (eVar 8) (eTup (aCons (eVar 4) aNil))) aNil)))) aNil))))))))
 (sSeq (sAsg (gN 5) (eBin gAdd (eVar 5) (eLst (aCons (eTup (aCons (eVar 6) (aCons (eVar 7) (aCons (eBin gAdd (eTup (aCons (eVar 4) aNil)) (eVar 8)) aNil)))) (aCons (eC .non) (aCons (eC (.int 0)) (aCons (eC (.str "code")) (aCons (eTup aNil) (aCons (eTup (aCons (eVar 6) (aCons (eC .non) (aCons (eVar 8) aNil)))) (aCons (eTup (aCons (eVar 6) (aCons (eVar 7) (aCons (eC .non) aNil)))) aNil))))))))))
 (sSeq (sIf (bAnd (eTb (eBin gNe (eVar 7) (eTup aNil))) (eTb (eBin gEq (eCall (cl 2 (C i_l_draw)) (aCons (eVar 0) (aCons (eC (.int 2)) aNil))) (eC (.int 1))))) (sSeq (sAsg (gN 9) (eCall (cl 2 (C i_l_draw)) (aCons (eVar 0) (aCons (eCall gLen (aCons (eVar 7) aNil)) aNil))))
 (sSeq (sAsg (gN 2) (eVar 6))
 (sSeq (sFor (iIt (eSl false (eVar 7) oNone (oSome (eVar 9)))) (gN 3) (sAsg (gN 2) (eBin gAdd (eVar 2) (eCall (cl 1 (C i_l_made)) (aCons (eVar 3) aNil)))))
 (sSeq (sAsg (gN 10) (eCall (cl 3 (C i_l_bad_op)) (aCons (eVar 0) (aCons (eBin gIx (eVar 7) (eVar 9)) (aCons (eVar 2) aNil)))))
 (sRet (eTup (aCons (eVar 6) (aCons (eBin gAdd (eBin gAdd (eSl false (eVar 7) oNone (oSome (eVar 9))) (eTup (aCons (eVar 10) aNil))) (eSl false (eVar 7) (oSome (eBin gAdd (eVar 9) (eC (.int 1)))) oNone)) (aCons (eSl false (eVar 8) oNone (oSome (eC (.int 0)))) aNil))))))))) sNil)
 (sRet (eBin gIx (eVar 5) (eCall (cl 2 (C i_l_draw)) (aCons (eVar 0) (aCons (eCall gLen (aCons (eVar 5) aNil)) aNil)))))))))))))
noncomputable def b_law (fu : Nat) (C : Nat → List D → M D) : EvS :=
 (sSeq (sAsg (gN 1) (eCall (cl 2 (C i_l_deck)) (aCons (eVar 0) (aCons (eC (.int 500)) aNil))))
 (sSeq (sAsg (gN 2) (eCall (cl 4 (C i_l_code)) (aCons (eVar 1) (aCons (eCall (cl 2 (C i_l_draw)) (aCons (eVar 1) (aCons (eC (.int 5)) aNil))) (aCons (eCall (cl 2 (C i_l_draw)) (aCons (eVar 1) (aCons (eC (.int 6)) aNil))) (aCons (eC (.int 2)) aNil))))))
 (sSeq (sIf (eTb (eBin gIsNot (eCall (cl 1 (C i_is_code)) (aCons (eVar 2) aNil)) (eC (.bl true)))) (sRet (eC (.bl false))) sNil)
 (sSeq (sFor (iRange1 (aCons (eC (.int 8)) aNil)) (gN 3) (sIf (eTb (eBin gIsNot (eCall (cl 1 (C i_is_code)) (aCons (eCall (cl 2 (C i_l_bad)) (aCons (eVar 1) (aCons (eVar 2) aNil))) aNil)) (eC (.bl false)))) (sRet (eC (.bl false))) sNil))
 (sRet (eAnd (eBin gIs (eCall (cl 1 (C i_is_code)) (aCons (eVar 2) aNil)) (eC (.bl true))) (eBin gIs (eCall (cl 1 (C i_is_code)) (aCons (eTup (aCons (eC (.int 0)) (aCons (eTup aNil) (aCons (eTup aNil) aNil)))) aNil)) (eC (.bl true)))))))))
noncomputable def den (fu : Nat) : Nat → Nat → List D → M D
  | 0, _ => fun _ => stuck
  | n + 1, i => match i with
    | 0 => runDef false 3 (b_is_shuffle fu (den fu n))
    | 1 => runDef false 1 (b_is_number fu (den fu n))
    | 2 => runDef false 2 (b_is_name fu (den fu n))
    | 3 => runDef false 1 (b_is_thing fu (den fu n))
    | 4 => runDef false 1 (b_is_word fu (den fu n))
    | 5 => runDef false 2 (b_is_row fu (den fu n))
    | 6 => runDef false 2 (b_is_stack fu (den fu n))
    | 7 => runDef false 1 (b_is_whole fu (den fu n))
    | 8 => runDef false 3 (b_are_registers fu (den fu n))
    | 9 => runDef false 1 (b_made_by fu (den fu n))
    | 10 => runDef false 2 (b_is_choice fu (den fu n))
    | 11 => runDef false 2 (b_is_op fu (den fu n))
    | 12 => runDef false 3 (b_is_code fu (den fu n))
    | 13 => runDef false 1 (b_l_mixed fu (den fu n))
    | 14 => runDef true 4 (b_l_deck fu (den fu n))
    | 15 => runDef false 3 (b_l_draw fu (den fu n))
    | 16 => runDef false 4 (b_l_size fu (den fu n))
    | 17 => runDef false 2 (b_l_cut fu (den fu n))
    | 18 => runDef false 1 (b_l_number fu (den fu n))
    | 19 => runDef false 5 (b_l_thing fu (den fu n))
    | 20 => runDef false 7 (b_l_shuffle fu (den fu n))
    | 21 => runDef false 4 (b_l_any_word fu (den fu n))
    | 22 => runDef false 8 (b_l_op fu (den fu n))
    | 23 => runDef false 1 (b_l_made fu (den fu n))
    | 24 => runDef false 7 (b_l_code fu (den fu n))
    | 25 => runDef false 15 (b_l_bad_op fu (den fu n))
    | 26 => runDef false 11 (b_l_bad fu (den fu n))
    | 27 => runDef false 4 (b_law fu (den fu n))
    | _ => fun _ => stuck
end K63

namespace K63
open PySem L2 PyProof.Rows DL
def topS (i : Nat) : Stmt := PySem.Challenge.pw_takeleave_k63_what_is_a_code.main.body.getD i (.Pass ⟨0, 0, 0, 0⟩)
abbrev s_is_shuffle : Stmt := topS 3
abbrev n_is_shuffle : List Str := ["thing", "parts", "sign"]
abbrev p_is_shuffle : List Str := ["thing"]
abbrev s_is_number : Stmt := topS 9
abbrev n_is_number : List Str := ["thing"]
abbrev p_is_number : List Str := ["thing"]
abbrev s_is_name : Stmt := topS 10
abbrev n_is_name : List Str := ["thing", "sign"]
abbrev p_is_name : List Str := ["thing"]
abbrev s_is_thing : Stmt := topS 11
abbrev n_is_thing : List Str := ["thing"]
abbrev p_is_thing : List Str := ["thing"]
abbrev s_is_word : Stmt := topS 12
abbrev n_is_word : List Str := ["thing"]
abbrev p_is_word : List Str := ["thing"]
abbrev s_is_row : Stmt := topS 13
abbrev n_is_row : List Str := ["thing", "word"]
abbrev p_is_row : List Str := ["thing"]
abbrev s_is_stack : Stmt := topS 14
abbrev n_is_stack : List Str := ["thing", "one"]
abbrev p_is_stack : List Str := ["thing"]
abbrev s_is_whole : Stmt := topS 17
abbrev n_is_whole : List Str := ["thing"]
abbrev p_is_whole : List Str := ["thing"]
abbrev s_are_registers : Stmt := topS 18
abbrev n_are_registers : List Str := ["thing", "many", "one"]
abbrev p_are_registers : List Str := ["thing", "many"]
abbrev s_made_by : Stmt := topS 19
abbrev n_made_by : List Str := ["op"]
abbrev p_made_by : List Str := ["op"]
abbrev s_is_choice : Stmt := topS 20
abbrev n_is_choice : List Str := ["op", "many"]
abbrev p_is_choice : List Str := ["op", "many"]
abbrev s_is_op : Stmt := topS 21
abbrev n_is_op : List Str := ["op", "many"]
abbrev p_is_op : List Str := ["op", "many"]
abbrev s_is_code : Stmt := topS 22
abbrev n_is_code : List Str := ["thing", "many", "op"]
abbrev p_is_code : List Str := ["thing"]
abbrev s_l_mixed : Stmt := topS 24
abbrev n_l_mixed : List Str := ["_law_number_here"]
abbrev p_l_mixed : List Str := ["_law_number_here"]
abbrev s_l_deck : Stmt := topS 25
abbrev n_l_deck : List Str := ["_law_script", "_law_most", "_law_deck_here", "_law_last"]
abbrev p_l_deck : List Str := ["_law_script", "_law_most"]
abbrev s_l_draw : Stmt := topS 26
abbrev n_l_draw : List Str := ["_law_deck_here", "_law_most", "_law_cell"]
abbrev p_l_draw : List Str := ["_law_deck_here", "_law_most"]
abbrev s_l_size : Stmt := topS 27
abbrev n_l_size : List Str := ["_law_things", "_law_total", "_law_thing_here", "_law_word"]
abbrev p_l_size : List Str := ["_law_things"]
abbrev s_l_cut : Stmt := topS 28
abbrev n_l_cut : List Str := ["_law_words", "_law_most"]
abbrev p_l_cut : List Str := ["_law_words", "_law_most"]
abbrev s_l_number : Stmt := topS 29
abbrev n_l_number : List Str := ["_law_deck_here"]
abbrev p_l_number : List Str := ["_law_deck_here"]
abbrev s_l_thing : Stmt := topS 30
abbrev n_l_thing : List Str := ["_law_deck_here", "_law_deep", "_law_way", "_law_some", "_law_k"]
abbrev p_l_thing : List Str := ["_law_deck_here", "_law_deep"]
abbrev s_l_shuffle : Stmt := topS 31
abbrev n_l_shuffle : List Str := ["_law_deck_here", "_law_most", "_law_many", "_law_letters", "_law_left", "_law_wide", "_law_k"]
abbrev p_l_shuffle : List Str := ["_law_deck_here", "_law_most"]
abbrev s_l_any_word : Stmt := topS 32
abbrev n_l_any_word : List Str := ["_law_deck_here", "_law_deep", "_law_basic", "_law_way"]
abbrev p_l_any_word : List Str := ["_law_deck_here", "_law_deep"]
abbrev s_l_op : Stmt := topS 33
abbrev n_l_op : List Str := ["_law_deck_here", "_law_many", "_law_deep", "_law_word", "_law_args", "_law_wide", "_law_sides", "_law_k"]
abbrev p_l_op : List Str := ["_law_deck_here", "_law_many", "_law_deep"]
abbrev s_l_made : Stmt := topS 34
abbrev n_l_made : List Str := ["_law_op_here"]
abbrev p_l_made : List Str := ["_law_op_here"]
abbrev s_l_code : Stmt := topS 35
abbrev n_l_code : List Str := ["_law_deck_here", "_law_takes", "_law_wide", "_law_deep", "_law_ops", "_law_many", "_law_k"]
abbrev p_l_code : List Str := ["_law_deck_here", "_law_takes", "_law_wide", "_law_deep"]
abbrev s_l_bad_op : Stmt := topS 36
abbrev n_l_bad_op : List Str := ["_law_deck_here", "_law_op_here", "_law_many", "_law_odd", "_law_some", "_law_wide", "_law_more", "_law_deep", "_law_at", "_law_word", "_law_one", "_law_args", "_law_side", "_law_other", "_law_code_here"]
abbrev p_l_bad_op : List Str := ["_law_deck_here", "_law_op_here", "_law_many"]
abbrev s_l_bad : Stmt := topS 37
abbrev n_l_bad : List Str := ["_law_deck_here", "_law_code_here", "_law_many", "_law_op_here", "_law_odd", "_law_some", "_law_takes", "_law_ops", "_law_outs", "_law_at", "_law_bad_here"]
abbrev p_l_bad : List Str := ["_law_deck_here", "_law_code_here"]
abbrev s_law : Stmt := topS 38
abbrev n_law : List Str := ["_law_script", "_law_deck_here", "_law_code_here", "_law_turn"]
abbrev p_law : List Str := ["_law_script"]
structure Tx (K : PySem.W.Frag) (mg : Str → Option Value) where
  a_is_shuffle : Addr
  f_is_shuffle : FuncData
  d_is_shuffle : DefAt K mg "is_shuffle" s_is_shuffle p_is_shuffle a_is_shuffle f_is_shuffle
  a_is_number : Addr
  f_is_number : FuncData
  d_is_number : DefAt K mg "is_number" s_is_number p_is_number a_is_number f_is_number
  a_is_name : Addr
  f_is_name : FuncData
  d_is_name : DefAt K mg "is_name" s_is_name p_is_name a_is_name f_is_name
  a_is_thing : Addr
  f_is_thing : FuncData
  d_is_thing : DefAt K mg "is_thing" s_is_thing p_is_thing a_is_thing f_is_thing
  a_is_word : Addr
  f_is_word : FuncData
  d_is_word : DefAt K mg "is_word" s_is_word p_is_word a_is_word f_is_word
  a_is_row : Addr
  f_is_row : FuncData
  d_is_row : DefAt K mg "is_row" s_is_row p_is_row a_is_row f_is_row
  a_is_stack : Addr
  f_is_stack : FuncData
  d_is_stack : DefAt K mg "is_stack" s_is_stack p_is_stack a_is_stack f_is_stack
  a_is_whole : Addr
  f_is_whole : FuncData
  d_is_whole : DefAt K mg "is_whole" s_is_whole p_is_whole a_is_whole f_is_whole
  a_are_registers : Addr
  f_are_registers : FuncData
  d_are_registers : DefAt K mg "are_registers" s_are_registers p_are_registers a_are_registers f_are_registers
  a_made_by : Addr
  f_made_by : FuncData
  d_made_by : DefAt K mg "made_by" s_made_by p_made_by a_made_by f_made_by
  a_is_choice : Addr
  f_is_choice : FuncData
  d_is_choice : DefAt K mg "is_choice" s_is_choice p_is_choice a_is_choice f_is_choice
  a_is_op : Addr
  f_is_op : FuncData
  d_is_op : DefAt K mg "is_op" s_is_op p_is_op a_is_op f_is_op
  a_is_code : Addr
  f_is_code : FuncData
  d_is_code : DefAt K mg "is_code" s_is_code p_is_code a_is_code f_is_code
  a_l_mixed : Addr
  f_l_mixed : FuncData
  d_l_mixed : DefAt K mg "_law_mixed" s_l_mixed p_l_mixed a_l_mixed f_l_mixed
  a_l_deck : Addr
  f_l_deck : FuncData
  d_l_deck : DefAt K mg "_law_deck" s_l_deck p_l_deck a_l_deck f_l_deck
  a_l_draw : Addr
  f_l_draw : FuncData
  d_l_draw : DefAt K mg "_law_draw" s_l_draw p_l_draw a_l_draw f_l_draw
  a_l_size : Addr
  f_l_size : FuncData
  d_l_size : DefAt K mg "_law_size" s_l_size p_l_size a_l_size f_l_size
  a_l_cut : Addr
  f_l_cut : FuncData
  d_l_cut : DefAt K mg "_law_cut" s_l_cut p_l_cut a_l_cut f_l_cut
  a_l_number : Addr
  f_l_number : FuncData
  d_l_number : DefAt K mg "_law_number" s_l_number p_l_number a_l_number f_l_number
  a_l_thing : Addr
  f_l_thing : FuncData
  d_l_thing : DefAt K mg "_law_thing" s_l_thing p_l_thing a_l_thing f_l_thing
  a_l_shuffle : Addr
  f_l_shuffle : FuncData
  d_l_shuffle : DefAt K mg "_law_shuffle" s_l_shuffle p_l_shuffle a_l_shuffle f_l_shuffle
  a_l_any_word : Addr
  f_l_any_word : FuncData
  d_l_any_word : DefAt K mg "_law_any_word" s_l_any_word p_l_any_word a_l_any_word f_l_any_word
  a_l_op : Addr
  f_l_op : FuncData
  d_l_op : DefAt K mg "_law_op" s_l_op p_l_op a_l_op f_l_op
  a_l_made : Addr
  f_l_made : FuncData
  d_l_made : DefAt K mg "_law_made" s_l_made p_l_made a_l_made f_l_made
  a_l_code : Addr
  f_l_code : FuncData
  d_l_code : DefAt K mg "_law_code" s_l_code p_l_code a_l_code f_l_code
  a_l_bad_op : Addr
  f_l_bad_op : FuncData
  d_l_bad_op : DefAt K mg "_law_bad_op" s_l_bad_op p_l_bad_op a_l_bad_op f_l_bad_op
  a_l_bad : Addr
  f_l_bad : FuncData
  d_l_bad : DefAt K mg "_law_bad" s_l_bad p_l_bad a_l_bad f_l_bad
  a_law : Addr
  f_law : FuncData
  d_law : DefAt K mg "law" s_law p_law a_law f_law
  z_all : mg "all" = none
  z_bool : mg "bool" = none
  z_int : mg "int" = none
  z_isinstance : mg "isinstance" = none
  z_len : mg "len" = none
  z_list : mg "list" = none
  z_range : mg "range" = none
  z_str : mg "str" = none
  z_sum : mg "sum" = none
  z_tuple : mg "tuple" = none
  c_BASICS : GV K mg "BASICS" k_BASICS
  c_LETTERS : GV K mg "LETTERS" k_LETTERS
  c_MOST_LEFT : GV K mg "MOST_LEFT" k_MOST_LEFT
  c_MOST_SIGNS : GV K mg "MOST_SIGNS" k_MOST_SIGNS
  c_NUMBERS : GV K mg "NUMBERS" k_NUMBERS
  c_PAIRS : GV K mg "PAIRS" k_PAIRS
  c_SMALL : GV K mg "SMALL" k_SMALL
structure Cal (P : Program) (w : World) (K : PySem.W.Frag) (mg : Str → Option Value) (base : Heap) (T : Tx K mg) (k : Nat) (C : Nat → List D → M D) : Prop where
  is_shuffle : FnOk P w K mg base (L2.CX P w) k T.a_is_shuffle T.f_is_shuffle p_is_shuffle (spD K mg (p_is_shuffle).length (C i_is_shuffle))
  is_number : FnOk P w K mg base (L2.CX P w) k T.a_is_number T.f_is_number p_is_number (spD K mg (p_is_number).length (C i_is_number))
  is_name : FnOk P w K mg base (L2.CX P w) k T.a_is_name T.f_is_name p_is_name (spD K mg (p_is_name).length (C i_is_name))
  is_thing : FnOk P w K mg base (L2.CX P w) k T.a_is_thing T.f_is_thing p_is_thing (spD K mg (p_is_thing).length (C i_is_thing))
  is_word : FnOk P w K mg base (L2.CX P w) k T.a_is_word T.f_is_word p_is_word (spD K mg (p_is_word).length (C i_is_word))
  is_row : FnOk P w K mg base (L2.CX P w) k T.a_is_row T.f_is_row p_is_row (spD K mg (p_is_row).length (C i_is_row))
  is_stack : FnOk P w K mg base (L2.CX P w) k T.a_is_stack T.f_is_stack p_is_stack (spD K mg (p_is_stack).length (C i_is_stack))
  is_whole : FnOk P w K mg base (L2.CX P w) k T.a_is_whole T.f_is_whole p_is_whole (spD K mg (p_is_whole).length (C i_is_whole))
  are_registers : FnOk P w K mg base (L2.CX P w) k T.a_are_registers T.f_are_registers p_are_registers (spD K mg (p_are_registers).length (C i_are_registers))
  made_by : FnOk P w K mg base (L2.CX P w) k T.a_made_by T.f_made_by p_made_by (spD K mg (p_made_by).length (C i_made_by))
  is_choice : FnOk P w K mg base (L2.CX P w) k T.a_is_choice T.f_is_choice p_is_choice (spD K mg (p_is_choice).length (C i_is_choice))
  is_op : FnOk P w K mg base (L2.CX P w) k T.a_is_op T.f_is_op p_is_op (spD K mg (p_is_op).length (C i_is_op))
  is_code : FnOk P w K mg base (L2.CX P w) k T.a_is_code T.f_is_code p_is_code (spD K mg (p_is_code).length (C i_is_code))
  l_mixed : FnOk P w K mg base (L2.CX P w) k T.a_l_mixed T.f_l_mixed p_l_mixed (spD K mg (p_l_mixed).length (C i_l_mixed))
  l_deck : FnOk P w K mg base (L2.CX P w) k T.a_l_deck T.f_l_deck p_l_deck (spD K mg (p_l_deck).length (C i_l_deck))
  l_draw : FnOk P w K mg base (L2.CX P w) k T.a_l_draw T.f_l_draw p_l_draw (spD K mg (p_l_draw).length (C i_l_draw))
  l_size : FnOk P w K mg base (L2.CX P w) k T.a_l_size T.f_l_size p_l_size (spD K mg (p_l_size).length (C i_l_size))
  l_cut : FnOk P w K mg base (L2.CX P w) k T.a_l_cut T.f_l_cut p_l_cut (spD K mg (p_l_cut).length (C i_l_cut))
  l_number : FnOk P w K mg base (L2.CX P w) k T.a_l_number T.f_l_number p_l_number (spD K mg (p_l_number).length (C i_l_number))
  l_thing : FnOk P w K mg base (L2.CX P w) k T.a_l_thing T.f_l_thing p_l_thing (spD K mg (p_l_thing).length (C i_l_thing))
  l_shuffle : FnOk P w K mg base (L2.CX P w) k T.a_l_shuffle T.f_l_shuffle p_l_shuffle (spD K mg (p_l_shuffle).length (C i_l_shuffle))
  l_any_word : FnOk P w K mg base (L2.CX P w) k T.a_l_any_word T.f_l_any_word p_l_any_word (spD K mg (p_l_any_word).length (C i_l_any_word))
  l_op : FnOk P w K mg base (L2.CX P w) k T.a_l_op T.f_l_op p_l_op (spD K mg (p_l_op).length (C i_l_op))
  l_made : FnOk P w K mg base (L2.CX P w) k T.a_l_made T.f_l_made p_l_made (spD K mg (p_l_made).length (C i_l_made))
  l_code : FnOk P w K mg base (L2.CX P w) k T.a_l_code T.f_l_code p_l_code (spD K mg (p_l_code).length (C i_l_code))
  l_bad_op : FnOk P w K mg base (L2.CX P w) k T.a_l_bad_op T.f_l_bad_op p_l_bad_op (spD K mg (p_l_bad_op).length (C i_l_bad_op))
  l_bad : FnOk P w K mg base (L2.CX P w) k T.a_l_bad T.f_l_bad p_l_bad (spD K mg (p_l_bad).length (C i_l_bad))
  law : FnOk P w K mg base (L2.CX P w) k T.a_law T.f_law p_law (spD K mg (p_law).length (C i_law))
section
variable {P : Program} {w : World} {K : PySem.W.Frag} {mg : Str → Option Value} {base : Heap} {T : Tx K mg} {k : Nat} {C : Nat → List D → M D}
theorem sc_is_shuffle : FnScope n_is_shuffle p_is_shuffle (defScope s_is_shuffle) := ⟨rfl, rfl, rfl, by decide +kernel, rfl, by decide +kernel, by decide +kernel⟩
theorem ok_is_shuffle (fu : Nat) (c : Cal P w K mg base T k C) : FnOk P w K mg base (L2.CX P w) (k + 1) T.a_is_shuffle T.f_is_shuffle p_is_shuffle (spD K mg (p_is_shuffle).length (runDef false 3 (b_is_shuffle fu C))) := by
  refine' fn_okL (N := n_is_shuffle) T.d_is_shuffle.fn sc_is_shuffle ?hB ?hS ?body
  case hB => conv => lhs; whnf
  case hS => conv => lhs; whnf
  case body =>
  intro cdv A outer s H E hr nd tk pw
  exact (ss_cons (s_if (t_not (t_truth (d_isi "str" rfl T.z_isinstance (d_var 0) rfl T.z_str (by decide +kernel) (by decide)))) (ss_one (s_ret d_bl)) ss_nil)
 (ss_cons (s_set 1 nd (d_meth PySem.F.plainAttrs_str PySem.F.slot_str_split PySem.F.type_str_split (m_split false) (d_var 0) (a_cons d_str a_nil)))
 (ss_cons (s_if (PW.pt (w_or (t_cmp (o_ne hr.units) (d_callB c_len (by rfl) T.z_len (by decide +kernel) (a_cons (d_var 1) a_nil)) d_int (nomark _)) (w_or (t_cmp o_gt (d_callB c_len (by rfl) T.z_len (by decide +kernel) (a_cons (d_ix (d_var 1) d_int) a_nil)) (d_globv T.c_MOST_LEFT) (nomark _)) (w_one_or (t_cmp (o_ne hr.units) (d_ix (d_var 1) d_int) (d_slice false (d_globv T.c_LETTERS) o_none (o_some (d_callB c_len (by rfl) T.z_len (by decide +kernel) (a_cons (d_ix (d_var 1) d_int) a_nil)))) (nomark _)))))) (ss_one (s_ret d_bl)) ss_nil)
 (ss_one (s_ret (d_callB (c_all rfl) (by rfl) T.z_all (by decide +kernel) (a_cons (d_comp rfl nd (i_it (d_ix (d_var 1) d_int)) (blkOk_by (own := [("sign", 2)]) (N := n_is_shuffle) (sc := defScope s_is_shuffle) (by decide +kernel)) rfl (g_name 2) (by decide) (fun _ _ _ _ _ => (pg_name (i := 2) nd rfl (by first | exact Or.inl rfl | exact Or.inr rfl))) (fun _ _ _ _ _ => ts_nil) (fun _ _ _ _ _ => (d_cmp o_in (d_var 2) (d_ix (d_var 1) d_int) (by rfl)))) a_nil)))))))
theorem sc_is_number : FnScope n_is_number p_is_number (defScope s_is_number) := ⟨rfl, rfl, rfl, by decide +kernel, rfl, by decide +kernel, by decide +kernel⟩
theorem ok_is_number (fu : Nat) (c : Cal P w K mg base T k C) : FnOk P w K mg base (L2.CX P w) (k + 1) T.a_is_number T.f_is_number p_is_number (spD K mg (p_is_number).length (runDef false 1 (b_is_number fu C))) := by
  refine' fn_okL (N := n_is_number) T.d_is_number.fn sc_is_number ?hB ?hS ?body
  case hB => conv => lhs; whnf
  case hS => conv => lhs; whnf
  case body =>
  intro cdv A outer s H E hr nd tk pw
  exact (ss_one (s_ret (d_and (d_isi "int" rfl T.z_isinstance (d_var 0) rfl T.z_int (by decide +kernel) (by decide)) (d_and (d_not (d_isi "bool" rfl T.z_isinstance (d_var 0) rfl T.z_bool (by decide +kernel) (by decide))) (d_one (d_chain o_le o_lt d_int (d_var 0) (d_globv T.c_NUMBERS) (by with_unfolding_all rfl)))))))
theorem sc_is_name : FnScope n_is_name p_is_name (defScope s_is_name) := ⟨rfl, rfl, rfl, by decide +kernel, rfl, by decide +kernel, by decide +kernel⟩
theorem ok_is_name (fu : Nat) (c : Cal P w K mg base T k C) : FnOk P w K mg base (L2.CX P w) (k + 1) T.a_is_name T.f_is_name p_is_name (spD K mg (p_is_name).length (runDef false 2 (b_is_name fu C))) := by
  refine' fn_okL (N := n_is_name) T.d_is_name.fn sc_is_name ?hB ?hS ?body
  case hB => conv => lhs; whnf
  case hS => conv => lhs; whnf
  case body =>
  intro cdv A outer s H E hr nd tk pw
  exact (ss_cons (s_if (PW.pt (w_or (t_not (t_truth (d_isi "str" rfl T.z_isinstance (d_var 0) rfl T.z_str (by decide +kernel) (by decide)))) (w_or (t_not (t_chain o_le o_le d_int (d_callB c_len (by rfl) T.z_len (by decide +kernel) (a_cons (d_var 0) a_nil)) (d_globv T.c_MOST_SIGNS) (by with_unfolding_all rfl))) (w_one_or (t_cmp o_in (d_var 0) (d_globv T.c_BASICS) (by rfl)))))) (ss_one (s_ret d_bl)) ss_nil)
 (ss_one (s_ret (d_callB (c_all rfl) (by rfl) T.z_all (by decide +kernel) (a_cons (d_comp rfl nd (i_it (d_var 0)) (blkOk_by (own := [("sign", 1)]) (N := n_is_name) (sc := defScope s_is_name) (by decide +kernel)) rfl (g_name 1) (by decide) (fun _ _ _ _ _ => (pg_name (i := 1) nd rfl (by first | exact Or.inl rfl | exact Or.inr rfl))) (fun _ _ _ _ _ => ts_nil) (fun _ _ _ _ _ => (d_cmp o_in (d_var 1) (d_globv T.c_SMALL) (by rfl)))) a_nil)))))
theorem sc_is_thing : FnScope n_is_thing p_is_thing (defScope s_is_thing) := ⟨rfl, rfl, rfl, by decide +kernel, rfl, by decide +kernel, by decide +kernel⟩
theorem ok_is_thing (fu : Nat) (c : Cal P w K mg base T k C) : FnOk P w K mg base (L2.CX P w) (k + 1) T.a_is_thing T.f_is_thing p_is_thing (spD K mg (p_is_thing).length (runDef false 1 (b_is_thing fu C))) := by
  refine' fn_okL (N := n_is_thing) T.d_is_thing.fn sc_is_thing ?hB ?hS ?body
  case hB => conv => lhs; whnf
  case hS => conv => lhs; whnf
  case body =>
  intro cdv A outer s H E hr nd tk pw
  exact (ss_cons (s_if (PW.pt (w_or (t_not (t_truth (d_isi "tuple" rfl T.z_isinstance (d_var 0) rfl T.z_tuple (by decide +kernel) (by decide)))) (w_or (t_cmp (o_ne hr.units) (d_callB c_len (by rfl) T.z_len (by decide +kernel) (a_cons (d_var 0) a_nil)) d_int (nomark _)) (w_one_or (t_not (t_truth (d_isi "str" rfl T.z_isinstance (d_ix (d_var 0) d_int) rfl T.z_str (by decide +kernel) (by decide)))))))) (ss_one (s_ret d_bl)) ss_nil)
 (ss_cons (s_if (t_cmp (o_eq hr.units) (d_ix (d_var 0) d_int) d_str (nomark _)) (ss_one (s_ret (d_call c.is_number hr rfl T.d_is_number.mg T.d_is_number.fn.kp T.d_is_number.bi tk (a_cons (d_ix (d_var 0) d_int) a_nil)))) ss_nil)
 (ss_cons (s_if (t_cmp (o_eq hr.units) (d_ix (d_var 0) d_int) d_str (nomark _)) (ss_one (s_ret (d_call c.is_row hr rfl T.d_is_row.mg T.d_is_row.fn.kp T.d_is_row.bi tk (a_cons (d_ix (d_var 0) d_int) a_nil)))) ss_nil)
 (ss_one (s_ret (d_and (d_cmp (o_eq hr.units) (d_ix (d_var 0) d_int) d_str (nomark _)) (d_one (d_call c.is_stack hr rfl T.d_is_stack.mg T.d_is_stack.fn.kp T.d_is_stack.bi tk (a_cons (d_ix (d_var 0) d_int) a_nil)))))))))
theorem sc_is_word : FnScope n_is_word p_is_word (defScope s_is_word) := ⟨rfl, rfl, rfl, by decide +kernel, rfl, by decide +kernel, by decide +kernel⟩
theorem ok_is_word (fu : Nat) (c : Cal P w K mg base T k C) : FnOk P w K mg base (L2.CX P w) (k + 1) T.a_is_word T.f_is_word p_is_word (spD K mg (p_is_word).length (runDef false 1 (b_is_word fu C))) := by
  refine' fn_okL (N := n_is_word) T.d_is_word.fn sc_is_word ?hB ?hS ?body
  case hB => conv => lhs; whnf
  case hS => conv => lhs; whnf
  case body =>
  intro cdv A outer s H E hr nd tk pw
  exact (ss_cons (s_if (t_truth (d_isi "str" rfl T.z_isinstance (d_var 0) rfl T.z_str (by decide +kernel) (by decide))) (ss_one (s_ret (d_or (d_cmp o_in (d_var 0) (d_globv T.c_BASICS) (by rfl)) (d_or (d_call c.is_name hr rfl T.d_is_name.mg T.d_is_name.fn.kp T.d_is_name.bi tk (a_cons (d_var 0) a_nil)) (d_one (d_call c.is_shuffle hr rfl T.d_is_shuffle.mg T.d_is_shuffle.fn.kp T.d_is_shuffle.bi tk (a_cons (d_var 0) a_nil))))))) ss_nil)
 (ss_cons (s_if (PW.pt (w_or (t_not (t_truth (d_isi "tuple" rfl T.z_isinstance (d_var 0) rfl T.z_tuple (by decide +kernel) (by decide)))) (w_or (t_cmp (o_ne hr.units) (d_callB c_len (by rfl) T.z_len (by decide +kernel) (a_cons (d_var 0) a_nil)) d_int (nomark _)) (w_one_or (t_not (t_truth (d_isi "str" rfl T.z_isinstance (d_ix (d_var 0) d_int) rfl T.z_str (by decide +kernel) (by decide)))))))) (ss_one (s_ret d_bl)) ss_nil)
 (ss_one (s_ret (d_and (d_cmp (o_eq hr.units) (d_ix (d_var 0) d_int) d_str (nomark _)) (d_one (d_call c.is_thing hr rfl T.d_is_thing.mg T.d_is_thing.fn.kp T.d_is_thing.bi tk (a_cons (d_ix (d_var 0) d_int) a_nil))))))))
theorem sc_is_row : FnScope n_is_row p_is_row (defScope s_is_row) := ⟨rfl, rfl, rfl, by decide +kernel, rfl, by decide +kernel, by decide +kernel⟩
theorem ok_is_row (fu : Nat) (c : Cal P w K mg base T k C) : FnOk P w K mg base (L2.CX P w) (k + 1) T.a_is_row T.f_is_row p_is_row (spD K mg (p_is_row).length (runDef false 2 (b_is_row fu C))) := by
  refine' fn_okL (N := n_is_row) T.d_is_row.fn sc_is_row ?hB ?hS ?body
  case hB => conv => lhs; whnf
  case hS => conv => lhs; whnf
  case body =>
  intro cdv A outer s H E hr nd tk pw
  exact (ss_one (s_ret (d_and (d_isi "tuple" rfl T.z_isinstance (d_var 0) rfl T.z_tuple (by decide +kernel) (by decide)) (d_one (d_callB (c_all rfl) (by rfl) T.z_all (by decide +kernel) (a_cons (d_comp rfl nd (i_it (d_var 0)) (blkOk_by (own := [("word", 1)]) (N := n_is_row) (sc := defScope s_is_row) (by decide +kernel)) rfl (g_name 1) (by decide) (fun _ _ _ _ _ => (pg_name (i := 1) nd rfl (by first | exact Or.inl rfl | exact Or.inr rfl))) (fun _ _ _ _ _ => ts_nil) (fun _ _ _ _ _ => (d_call c.is_word hr rfl T.d_is_word.mg T.d_is_word.fn.kp T.d_is_word.bi takes0 (a_cons (d_var 1) a_nil)))) a_nil))))))
theorem sc_is_stack : FnScope n_is_stack p_is_stack (defScope s_is_stack) := ⟨rfl, rfl, rfl, by decide +kernel, rfl, by decide +kernel, by decide +kernel⟩
theorem ok_is_stack (fu : Nat) (c : Cal P w K mg base T k C) : FnOk P w K mg base (L2.CX P w) (k + 1) T.a_is_stack T.f_is_stack p_is_stack (spD K mg (p_is_stack).length (runDef false 2 (b_is_stack fu C))) := by
  refine' fn_okL (N := n_is_stack) T.d_is_stack.fn sc_is_stack ?hB ?hS ?body
  case hB => conv => lhs; whnf
  case hS => conv => lhs; whnf
  case body =>
  intro cdv A outer s H E hr nd tk pw
  exact (ss_one (s_ret (d_and (d_isi "tuple" rfl T.z_isinstance (d_var 0) rfl T.z_tuple (by decide +kernel) (by decide)) (d_one (d_callB (c_all rfl) (by rfl) T.z_all (by decide +kernel) (a_cons (d_comp rfl nd (i_it (d_var 0)) (blkOk_by (own := [("one", 1)]) (N := n_is_stack) (sc := defScope s_is_stack) (by decide +kernel)) rfl (g_name 1) (by decide) (fun _ _ _ _ _ => (pg_name (i := 1) nd rfl (by first | exact Or.inl rfl | exact Or.inr rfl))) (fun _ _ _ _ _ => ts_nil) (fun _ _ _ _ _ => (d_call c.is_thing hr rfl T.d_is_thing.mg T.d_is_thing.fn.kp T.d_is_thing.bi takes0 (a_cons (d_var 1) a_nil)))) a_nil))))))
theorem sc_is_whole : FnScope n_is_whole p_is_whole (defScope s_is_whole) := ⟨rfl, rfl, rfl, by decide +kernel, rfl, by decide +kernel, by decide +kernel⟩
theorem ok_is_whole (fu : Nat) (c : Cal P w K mg base T k C) : FnOk P w K mg base (L2.CX P w) (k + 1) T.a_is_whole T.f_is_whole p_is_whole (spD K mg (p_is_whole).length (runDef false 1 (b_is_whole fu C))) := by
  refine' fn_okL (N := n_is_whole) T.d_is_whole.fn sc_is_whole ?hB ?hS ?body
  case hB => conv => lhs; whnf
  case hS => conv => lhs; whnf
  case body =>
  intro cdv A outer s H E hr nd tk pw
  exact (ss_one (s_ret (d_and (d_isi "int" rfl T.z_isinstance (d_var 0) rfl T.z_int (by decide +kernel) (by decide)) (d_and (d_not (d_isi "bool" rfl T.z_isinstance (d_var 0) rfl T.z_bool (by decide +kernel) (by decide))) (d_one (d_cmp o_ge (d_var 0) d_int (nomark _)))))))
theorem sc_are_registers : FnScope n_are_registers p_are_registers (defScope s_are_registers) := ⟨rfl, rfl, rfl, by decide +kernel, rfl, by decide +kernel, by decide +kernel⟩
theorem ok_are_registers (fu : Nat) (c : Cal P w K mg base T k C) : FnOk P w K mg base (L2.CX P w) (k + 1) T.a_are_registers T.f_are_registers p_are_registers (spD K mg (p_are_registers).length (runDef false 3 (b_are_registers fu C))) := by
  refine' fn_okL (N := n_are_registers) T.d_are_registers.fn sc_are_registers ?hB ?hS ?body
  case hB => conv => lhs; whnf
  case hS => conv => lhs; whnf
  case body =>
  intro cdv A outer s H E hr nd tk pw
  exact (ss_one (s_ret (d_and (d_isi "tuple" rfl T.z_isinstance (d_var 0) rfl T.z_tuple (by decide +kernel) (by decide)) (d_one (d_callB (c_all rfl) (by rfl) T.z_all (by decide +kernel) (a_cons (d_comp rfl nd (i_it (d_var 0)) (blkOk_by (own := [("one", 2)]) (N := n_are_registers) (sc := defScope s_are_registers) (by decide +kernel)) rfl (g_name 2) (by decide) (fun _ _ _ _ _ => (pg_name (i := 2) nd rfl (by first | exact Or.inl rfl | exact Or.inr rfl))) (fun _ _ _ _ _ => ts_nil) (fun _ _ _ _ _ => (d_and (d_call c.is_whole hr rfl T.d_is_whole.mg T.d_is_whole.fn.kp T.d_is_whole.bi takes0 (a_cons (d_var 2) a_nil)) (d_one (d_cmp o_lt (d_var 2) (d_var 1) (nomark _)))))) a_nil))))))
theorem sc_made_by : FnScope n_made_by p_made_by (defScope s_made_by) := ⟨rfl, rfl, rfl, by decide +kernel, rfl, by decide +kernel, by decide +kernel⟩
theorem ok_made_by (fu : Nat) (c : Cal P w K mg base T k C) : FnOk P w K mg base (L2.CX P w) (k + 1) T.a_made_by T.f_made_by p_made_by (spD K mg (p_made_by).length (runDef false 1 (b_made_by fu C))) := by
  refine' fn_okL (N := n_made_by) T.d_made_by.fn sc_made_by ?hB ?hS ?body
  case hB => conv => lhs; whnf
  case hS => conv => lhs; whnf
  case body =>
  intro cdv A outer s H E hr nd tk pw
  exact (ss_cons (s_if (t_cmp (o_eq hr.units) (d_ix (d_var 0) d_int) d_str (nomark _)) (ss_one (s_ret (d_callB c_len (by rfl) T.z_len (by decide +kernel) (a_cons (d_ix (d_ix (d_var 0) d_int) d_int) a_nil)))) ss_nil)
 (ss_one (s_ret d_int)))
theorem sc_is_choice : FnScope n_is_choice p_is_choice (defScope s_is_choice) := ⟨rfl, rfl, rfl, by decide +kernel, rfl, by decide +kernel, by decide +kernel⟩
theorem ok_is_choice (fu : Nat) (c : Cal P w K mg base T k C) : FnOk P w K mg base (L2.CX P w) (k + 1) T.a_is_choice T.f_is_choice p_is_choice (spD K mg (p_is_choice).length (runDef false 2 (b_is_choice fu C))) := by
  refine' fn_okL (N := n_is_choice) T.d_is_choice.fn sc_is_choice ?hB ?hS ?body
  case hB => conv => lhs; whnf
  case hS => conv => lhs; whnf
  case body =>
  intro cdv A outer s H E hr nd tk pw
  exact (ss_cons (s_if (PW.pt (w_or (t_not (t_truth (d_call c.are_registers hr rfl T.d_are_registers.mg T.d_are_registers.fn.kp T.d_are_registers.bi tk (a_cons (d_slice false (d_var 0) (o_some d_int) (o_some d_int)) (a_cons (d_var 1) a_nil))))) (w_one_or (t_not (t_truth (d_call c.are_registers hr rfl T.d_are_registers.mg T.d_are_registers.fn.kp T.d_are_registers.bi tk (a_cons (d_ix (d_var 0) d_int) (a_cons (d_var 1) a_nil)))))))) (ss_one (s_ret d_bl)) ss_nil)
 (ss_cons (s_if (PW.pt (w_or (t_not (t_truth (d_call c.is_code hr rfl T.d_is_code.mg T.d_is_code.fn.kp T.d_is_code.bi tk (a_cons (d_ix (d_var 0) d_int) a_nil)))) (w_one_or (t_not (t_truth (d_call c.is_code hr rfl T.d_is_code.mg T.d_is_code.fn.kp T.d_is_code.bi tk (a_cons (d_ix (d_var 0) d_int) a_nil))))))) (ss_one (s_ret d_bl)) ss_nil)
 (ss_cons (s_if (PW.pt (w_or (t_cmp (o_ne hr.units) (d_ix (d_ix (d_var 0) d_int) d_int) (d_callB c_len (by rfl) T.z_len (by decide +kernel) (a_cons (d_ix (d_var 0) d_int) a_nil)) (nomark _)) (w_one_or (t_cmp (o_ne hr.units) (d_ix (d_ix (d_var 0) d_int) d_int) (d_callB c_len (by rfl) T.z_len (by decide +kernel) (a_cons (d_ix (d_var 0) d_int) a_nil)) (nomark _))))) (ss_one (s_ret d_bl)) ss_nil)
 (ss_one (s_ret (d_cmp (o_eq hr.units) (d_callB c_len (by rfl) T.z_len (by decide +kernel) (a_cons (d_ix (d_ix (d_var 0) d_int) d_int) a_nil)) (d_callB c_len (by rfl) T.z_len (by decide +kernel) (a_cons (d_ix (d_ix (d_var 0) d_int) d_int) a_nil)) (nomark _)))))))
theorem sc_is_op : FnScope n_is_op p_is_op (defScope s_is_op) := ⟨rfl, rfl, rfl, by decide +kernel, rfl, by decide +kernel, by decide +kernel⟩
theorem ok_is_op (fu : Nat) (c : Cal P w K mg base T k C) : FnOk P w K mg base (L2.CX P w) (k + 1) T.a_is_op T.f_is_op p_is_op (spD K mg (p_is_op).length (runDef false 2 (b_is_op fu C))) := by
  refine' fn_okL (N := n_is_op) T.d_is_op.fn sc_is_op ?hB ?hS ?body
  case hB => conv => lhs; whnf
  case hS => conv => lhs; whnf
  case body =>
  intro cdv A outer s H E hr nd tk pw
  exact (ss_cons (s_if (PW.pt (w_or (t_not (t_truth (d_isi "tuple" rfl T.z_isinstance (d_var 0) rfl T.z_tuple (by decide +kernel) (by decide)))) (w_or (t_cmp o_lt (d_callB c_len (by rfl) T.z_len (by decide +kernel) (a_cons (d_var 0) a_nil)) d_int (nomark _)) (w_one_or (t_not (t_truth (d_isi "str" rfl T.z_isinstance (d_ix (d_var 0) d_int) rfl T.z_str (by decide +kernel) (by decide)))))))) (ss_one (s_ret d_bl)) ss_nil)
 (ss_cons (s_if (t_cmp (o_eq hr.units) (d_ix (d_var 0) d_int) d_str (nomark _)) (ss_one (s_ret (d_and (d_cmp (o_eq hr.units) (d_callB c_len (by rfl) T.z_len (by decide +kernel) (a_cons (d_var 0) a_nil)) d_int (nomark _)) (d_one (d_call c.is_thing hr rfl T.d_is_thing.mg T.d_is_thing.fn.kp T.d_is_thing.bi tk (a_cons (d_ix (d_var 0) d_int) a_nil)))))) ss_nil)
 (ss_cons (s_if (t_cmp (o_eq hr.units) (d_ix (d_var 0) d_int) d_str (nomark _)) (ss_one (s_ret (d_and (d_cmp (o_eq hr.units) (d_callB c_len (by rfl) T.z_len (by decide +kernel) (a_cons (d_var 0) a_nil)) d_int (nomark _)) (d_one (d_call c.are_registers hr rfl T.d_are_registers.mg T.d_are_registers.fn.kp T.d_are_registers.bi tk (a_cons (d_slice false (d_var 0) (o_some d_int) o_none) (a_cons (d_var 1) a_nil))))))) ss_nil)
 (ss_cons (s_if (t_cmp o_in (d_ix (d_var 0) d_int) (d_globv T.c_PAIRS) (by rfl)) (ss_one (s_ret (d_and (d_cmp (o_eq hr.units) (d_callB c_len (by rfl) T.z_len (by decide +kernel) (a_cons (d_var 0) a_nil)) d_int (nomark _)) (d_one (d_call c.are_registers hr rfl T.d_are_registers.mg T.d_are_registers.fn.kp T.d_are_registers.bi tk (a_cons (d_slice false (d_var 0) (o_some d_int) o_none) (a_cons (d_var 1) a_nil))))))) ss_nil)
 (ss_one (s_ret (d_and (d_cmp (o_eq hr.units) (d_ix (d_var 0) d_int) d_str (nomark _)) (d_and (d_cmp (o_eq hr.units) (d_callB c_len (by rfl) T.z_len (by decide +kernel) (a_cons (d_var 0) a_nil)) d_int (nomark _)) (d_one (d_call c.is_choice hr rfl T.d_is_choice.mg T.d_is_choice.fn.kp T.d_is_choice.bi tk (a_cons (d_var 0) (a_cons (d_var 1) a_nil))))))))))))
theorem sc_is_code : FnScope n_is_code p_is_code (defScope s_is_code) := ⟨rfl, rfl, rfl, by decide +kernel, rfl, by decide +kernel, by decide +kernel⟩
theorem ok_is_code (fu : Nat) (c : Cal P w K mg base T k C) : FnOk P w K mg base (L2.CX P w) (k + 1) T.a_is_code T.f_is_code p_is_code (spD K mg (p_is_code).length (runDef false 3 (b_is_code fu C))) := by
  refine' fn_okL (N := n_is_code) T.d_is_code.fn sc_is_code ?hB ?hS ?body
  case hB => conv => lhs; whnf
  case hS => conv => lhs; whnf
  case body =>
  intro cdv A outer s H E hr nd tk pw
  exact (ss_cons (s_if (PW.pt (w_or (t_not (t_truth (d_isi "tuple" rfl T.z_isinstance (d_var 0) rfl T.z_tuple (by decide +kernel) (by decide)))) (w_or (t_cmp (o_ne hr.units) (d_callB c_len (by rfl) T.z_len (by decide +kernel) (a_cons (d_var 0) a_nil)) d_int (nomark _)) (w_or (t_not (t_truth (d_call c.is_whole hr rfl T.d_is_whole.mg T.d_is_whole.fn.kp T.d_is_whole.bi tk (a_cons (d_ix (d_var 0) d_int) a_nil)))) (w_one_or (t_not (t_truth (d_isi "tuple" rfl T.z_isinstance (d_ix (d_var 0) d_int) rfl T.z_tuple (by decide +kernel) (by decide))))))))) (ss_one (s_ret d_bl)) ss_nil)
 (ss_cons (s_set 1 nd (d_ix (d_var 0) d_int))
 (ss_cons (s_for pw rfl (i_it (d_ix (d_var 0) d_int)) (g_name 2) (pg_name (i := 2) nd rfl (by first | exact Or.inl rfl | exact Or.inr rfl)) (ss_cons (s_if (t_not (t_truth (d_call c.is_op hr rfl T.d_is_op.mg T.d_is_op.fn.kp T.d_is_op.bi tk (a_cons (d_var 2) (a_cons (d_var 1) a_nil))))) (ss_one (s_ret d_bl)) ss_nil)
 (ss_one (s_set 1 nd (d_bin o_add (d_var 1) (d_call c.made_by hr rfl T.d_made_by.mg T.d_made_by.fn.kp T.d_made_by.bi tk (a_cons (d_var 2) a_nil)))))))
 (ss_one (s_ret (d_call c.are_registers hr rfl T.d_are_registers.mg T.d_are_registers.fn.kp T.d_are_registers.bi tk (a_cons (d_ix (d_var 0) d_int) (a_cons (d_var 1) a_nil))))))))
theorem sc_l_mixed : FnScope n_l_mixed p_l_mixed (defScope s_l_mixed) := ⟨rfl, rfl, rfl, by decide +kernel, rfl, by decide +kernel, by decide +kernel⟩
theorem ok_l_mixed (fu : Nat) (c : Cal P w K mg base T k C) : FnOk P w K mg base (L2.CX P w) (k + 1) T.a_l_mixed T.f_l_mixed p_l_mixed (spD K mg (p_l_mixed).length (runDef false 1 (b_l_mixed fu C))) := by
  refine' fn_okL (N := n_l_mixed) T.d_l_mixed.fn sc_l_mixed ?hB ?hS ?body
  case hB => conv => lhs; whnf
  case hS => conv => lhs; whnf
  case body =>
  intro cdv A outer s H E hr nd tk pw
  exact (ss_cons (s_set 0 nd (d_bin o_mod (d_bin o_add (d_bin o_mul (d_bin o_mod (d_var 0) d_int) d_int) d_int) d_int))
 (ss_cons (s_set 0 nd (d_bin o_mod (d_bin o_add (d_bin o_add (d_bin o_mul (d_var 0) (d_var 0)) (d_bin o_mul d_int (d_var 0))) d_int) d_int))
 (ss_one (s_ret (d_bin o_mod (d_bin o_add (d_bin o_mul (d_var 0) d_int) d_int) d_int)))))
theorem sc_l_deck : FnScope n_l_deck p_l_deck (defScope s_l_deck) := ⟨rfl, rfl, rfl, by decide +kernel, rfl, by decide +kernel, by decide +kernel⟩
theorem ok_l_deck (fu : Nat) (c : Cal P w K mg base T k C) : FnOk P w K mg base (L2.CX P w) (k + 1) T.a_l_deck T.f_l_deck p_l_deck (spD K mg (p_l_deck).length (runDef true 4 (b_l_deck fu C))) := by
  refine' fn_okL (N := n_l_deck) T.d_l_deck.fn sc_l_deck ?hB ?hS ?body
  case hB => conv => lhs; whnf
  case hS => conv => lhs; whnf
  case body =>
  intro cdv A outer s H E hr nd tk pw
  exact (ss_cons (s_set 2 nd (d_callTy c_listM (by rfl) T.z_list (by decide +kernel) (a_cons (d_slice false (d_var 0) o_none (o_some d_int)) a_nil)))
 (ss_cons (s_set 3 nd (d_bin o_add d_int (d_bin o_mod (d_callB (c_sum rfl) (by rfl) T.z_sum (by decide +kernel) (a_cons (d_var 2) a_nil)) d_int)))
 (ss_cons (s_while fu pw (t_cmp o_lt (d_callB c_len (by rfl) T.z_len (by decide +kernel) (a_cons (d_var 2) a_nil)) (d_var 1) (nomark _)) (ss_cons (s_set 3 nd (d_call c.l_mixed hr rfl T.d_l_mixed.mg T.d_l_mixed.fn.kp T.d_l_mixed.bi tk (a_cons (d_bin o_add (d_var 3) (d_callB c_len (by rfl) T.z_len (by decide +kernel) (a_cons (d_var 2) a_nil))) a_nil)))
 (ss_one (s_expr (d_meth PySem.F.plainAttrs_list PySem.F.slot_list_append PySem.F.type_list_append m_append (d_var 2) (a_cons (d_var 3) a_nil))))))
 (ss_one (s_ret (d_rev true (d_var 2)))))))
theorem sc_l_draw : FnScope n_l_draw p_l_draw (defScope s_l_draw) := ⟨rfl, rfl, rfl, by decide +kernel, rfl, by decide +kernel, by decide +kernel⟩
theorem ok_l_draw (fu : Nat) (c : Cal P w K mg base T k C) : FnOk P w K mg base (L2.CX P w) (k + 1) T.a_l_draw T.f_l_draw p_l_draw (spD K mg (p_l_draw).length (runDef false 3 (b_l_draw fu C))) := by
  refine' fn_okL (N := n_l_draw) T.d_l_draw.fn sc_l_draw ?hB ?hS ?body
  case hB => conv => lhs; whnf
  case hS => conv => lhs; whnf
  case body =>
  intro cdv A outer s H E hr nd tk pw
  exact (ss_cons (s_if (t_cmp (o_eq hr.units) (d_var 0) (d_lst a_nil) (nomark _)) (ss_one (s_ret d_int)) ss_nil)
 (ss_cons (s_set 2 nd (d_meth0 PySem.F.plainAttrs_list PySem.F.slot_list_pop PySem.F.type_list_pop m_pop (d_var 0)))
 (ss_cons (s_if (t_cmp o_ge (d_var 2) (d_bin o_pow d_int d_int) (nomark _)) (ss_cons (s_expr (d_meth PySem.F.plainAttrs_list PySem.F.slot_list_append PySem.F.type_list_append m_append (d_var 0) (a_cons (d_bin o_div (d_var 2) (d_var 1)) a_nil)))
 (ss_one (s_ret (d_bin o_mod (d_var 2) (d_var 1))))) ss_nil)
 (ss_one (s_ret (d_bin o_mod (d_call c.l_mixed hr rfl T.d_l_mixed.mg T.d_l_mixed.fn.kp T.d_l_mixed.bi tk (a_cons (d_var 2) a_nil)) (d_var 1)))))))
theorem sc_l_size : FnScope n_l_size p_l_size (defScope s_l_size) := ⟨rfl, rfl, rfl, by decide +kernel, rfl, by decide +kernel, by decide +kernel⟩
theorem ok_l_size (fu : Nat) (c : Cal P w K mg base T k C) : FnOk P w K mg base (L2.CX P w) (k + 1) T.a_l_size T.f_l_size p_l_size (spD K mg (p_l_size).length (runDef false 4 (b_l_size fu C))) := by
  refine' fn_okL (N := n_l_size) T.d_l_size.fn sc_l_size ?hB ?hS ?body
  case hB => conv => lhs; whnf
  case hS => conv => lhs; whnf
  case body =>
  intro cdv A outer s H E hr nd tk pw
  exact (ss_cons (s_set 1 nd d_int)
 (ss_cons (s_for pw rfl (i_it (d_var 0)) (g_name 2) (pg_name (i := 2) nd rfl (by first | exact Or.inl rfl | exact Or.inr rfl)) (ss_cons (s_set 1 nd (d_bin o_add (d_var 1) d_int))
 (ss_cons (s_if (t_cmp (o_eq hr.units) (d_ix (d_var 2) d_int) d_str (nomark _)) (ss_one (s_set 1 nd (d_bin o_add (d_var 1) (d_call c.l_size hr rfl T.d_l_size.mg T.d_l_size.fn.kp T.d_l_size.bi tk (a_cons (d_ix (d_var 2) d_int) a_nil))))) ss_nil)
 (ss_one (s_if (t_cmp (o_eq hr.units) (d_ix (d_var 2) d_int) d_str (nomark _)) (ss_one (s_set 1 nd (d_bin o_add (d_bin o_add (d_var 1) (d_callB c_len (by rfl) T.z_len (by decide +kernel) (a_cons (d_ix (d_var 2) d_int) a_nil))) (d_call c.l_size hr rfl T.d_l_size.mg T.d_l_size.fn.kp T.d_l_size.bi tk (a_cons (d_comp rfl nd (i_it (d_ix (d_var 2) d_int)) (blkOk_by (own := [("_law_word", 3)]) (N := n_l_size) (sc := defScope s_l_size) (by decide +kernel)) rfl (g_name 3) (by decide) (fun _ _ _ _ _ => (pg_name (i := 3) nd rfl (by first | exact Or.inl rfl | exact Or.inr rfl))) (fun _ _ _ _ _ => ts_one (t_truth (d_isi "tuple" rfl T.z_isinstance (d_var 3) rfl T.z_tuple (by decide +kernel) (by decide)))) (fun _ _ _ _ _ => (d_ix (d_var 3) d_int))) a_nil))))) ss_nil)))))
 (ss_one (s_ret (d_var 1)))))
theorem sc_l_cut : FnScope n_l_cut p_l_cut (defScope s_l_cut) := ⟨rfl, rfl, rfl, by decide +kernel, rfl, by decide +kernel, by decide +kernel⟩
theorem ok_l_cut (fu : Nat) (c : Cal P w K mg base T k C) : FnOk P w K mg base (L2.CX P w) (k + 1) T.a_l_cut T.f_l_cut p_l_cut (spD K mg (p_l_cut).length (runDef false 2 (b_l_cut fu C))) := by
  refine' fn_okL (N := n_l_cut) T.d_l_cut.fn sc_l_cut ?hB ?hS ?body
  case hB => conv => lhs; whnf
  case hS => conv => lhs; whnf
  case body =>
  intro cdv A outer s H E hr nd tk pw
  exact (ss_cons (s_while fu pw (t_cmp o_gt (d_call c.l_size hr rfl T.d_l_size.mg T.d_l_size.fn.kp T.d_l_size.bi tk (a_cons (d_lst (a_cons (d_tup (a_cons d_str (a_cons (d_var 0) a_nil))) a_nil)) a_nil)) (d_var 1) (nomark _)) (ss_one (s_set 0 nd (d_slice false (d_var 0) o_none (o_some (d_un o_neg d_int))))))
 (ss_one (s_ret (d_callTy c_tuple (by rfl) T.z_tuple (by decide +kernel) (a_cons (d_var 0) a_nil)))))
theorem sc_l_number : FnScope n_l_number p_l_number (defScope s_l_number) := ⟨rfl, rfl, rfl, by decide +kernel, rfl, by decide +kernel, by decide +kernel⟩
theorem ok_l_number (fu : Nat) (c : Cal P w K mg base T k C) : FnOk P w K mg base (L2.CX P w) (k + 1) T.a_l_number T.f_l_number p_l_number (spD K mg (p_l_number).length (runDef false 1 (b_l_number fu C))) := by
  refine' fn_okL (N := n_l_number) T.d_l_number.fn sc_l_number ?hB ?hS ?body
  case hB => conv => lhs; whnf
  case hS => conv => lhs; whnf
  case body =>
  intro cdv A outer s H E hr nd tk pw
  exact (ss_one (s_ret (d_ix (d_lst (a_cons d_int (a_cons d_int (a_cons d_int (a_cons (d_call c.l_draw hr rfl T.d_l_draw.mg T.d_l_draw.fn.kp T.d_l_draw.bi tk (a_cons (d_var 0) (a_cons d_int a_nil))) (a_cons (d_bin o_sub (d_bin o_pow d_int d_int) d_int) (a_cons (d_call c.l_draw hr rfl T.d_l_draw.mg T.d_l_draw.fn.kp T.d_l_draw.bi tk (a_cons (d_var 0) (a_cons (d_bin o_pow d_int d_int) a_nil))) a_nil))))))) (d_call c.l_draw hr rfl T.d_l_draw.mg T.d_l_draw.fn.kp T.d_l_draw.bi tk (a_cons (d_var 0) (a_cons d_int a_nil))))))
theorem sc_l_thing : FnScope n_l_thing p_l_thing (defScope s_l_thing) := ⟨rfl, rfl, rfl, by decide +kernel, rfl, by decide +kernel, by decide +kernel⟩
theorem ok_l_thing (fu : Nat) (c : Cal P w K mg base T k C) : FnOk P w K mg base (L2.CX P w) (k + 1) T.a_l_thing T.f_l_thing p_l_thing (spD K mg (p_l_thing).length (runDef false 5 (b_l_thing fu C))) := by
  refine' fn_okL (N := n_l_thing) T.d_l_thing.fn sc_l_thing ?hB ?hS ?body
  case hB => conv => lhs; whnf
  case hS => conv => lhs; whnf
  case body =>
  intro cdv A outer s H E hr nd tk pw
  exact (ss_cons (s_set 2 nd (d_call c.l_draw hr rfl T.d_l_draw.mg T.d_l_draw.fn.kp T.d_l_draw.bi tk (a_cons (d_var 0) (a_cons d_int a_nil))))
 (ss_cons (s_if (PW.pt (w_or (t_cmp (o_eq hr.units) (d_var 1) d_int (nomark _)) (w_one_or (t_cmp o_lt (d_var 2) d_int (nomark _))))) (ss_one (s_ret (d_tup (a_cons d_str (a_cons (d_call c.l_number hr rfl T.d_l_number.mg T.d_l_number.fn.kp T.d_l_number.bi tk (a_cons (d_var 0) a_nil)) a_nil))))) ss_nil)
 (ss_cons (s_set 3 nd (d_ix (d_lst (a_cons (d_call c.l_draw hr rfl T.d_l_draw.mg T.d_l_draw.fn.kp T.d_l_draw.bi tk (a_cons (d_var 0) (a_cons d_int a_nil))) (a_cons (d_call c.l_draw hr rfl T.d_l_draw.mg T.d_l_draw.fn.kp T.d_l_draw.bi tk (a_cons (d_var 0) (a_cons d_int a_nil))) (a_cons (d_call c.l_draw hr rfl T.d_l_draw.mg T.d_l_draw.fn.kp T.d_l_draw.bi tk (a_cons (d_var 0) (a_cons d_int a_nil))) a_nil)))) (d_call c.l_draw hr rfl T.d_l_draw.mg T.d_l_draw.fn.kp T.d_l_draw.bi tk (a_cons (d_var 0) (a_cons d_int a_nil)))))
 (ss_cons (s_if (t_cmp o_lt (d_var 2) d_int (nomark _)) (ss_one (s_ret (d_tup (a_cons d_str (a_cons (d_call c.l_cut hr rfl T.d_l_cut.mg T.d_l_cut.fn.kp T.d_l_cut.bi tk (a_cons (d_comp rfl nd (i_range1 rfl T.z_range (a_cons (d_var 3) a_nil)) (blkOk_by (own := [("_law_k", 4)]) (N := n_l_thing) (sc := defScope s_l_thing) (by decide +kernel)) rfl (g_name 4) (by decide) (fun _ _ _ _ _ => (pg_name (i := 4) nd rfl (by first | exact Or.inl rfl | exact Or.inr rfl))) (fun _ _ _ _ _ => ts_nil) (fun _ _ _ _ _ => (d_call c.l_any_word hr rfl T.d_l_any_word.mg T.d_l_any_word.fn.kp T.d_l_any_word.bi takes0 (a_cons (d_var 0) (a_cons (d_bin o_sub (d_var 1) d_int) a_nil))))) (a_cons d_int a_nil))) a_nil))))) ss_nil)
 (ss_one (s_ret (d_tup (a_cons d_str (a_cons (d_callTy c_tuple (by rfl) T.z_tuple (by decide +kernel) (a_cons (d_comp rfl nd (i_range1 rfl T.z_range (a_cons (d_var 3) a_nil)) (blkOk_by (own := [("_law_k", 4)]) (N := n_l_thing) (sc := defScope s_l_thing) (by decide +kernel)) rfl (g_name 4) (by decide) (fun _ _ _ _ _ => (pg_name (i := 4) nd rfl (by first | exact Or.inl rfl | exact Or.inr rfl))) (fun _ _ _ _ _ => ts_nil) (fun _ _ _ _ _ => (d_call c.l_thing hr rfl T.d_l_thing.mg T.d_l_thing.fn.kp T.d_l_thing.bi takes0 (a_cons (d_var 0) (a_cons (d_bin o_sub (d_var 1) d_int) a_nil))))) a_nil)) a_nil)))))))))
theorem sc_l_shuffle : FnScope n_l_shuffle p_l_shuffle (defScope s_l_shuffle) := ⟨rfl, rfl, rfl, by decide +kernel, rfl, by decide +kernel, by decide +kernel⟩
theorem ok_l_shuffle (fu : Nat) (c : Cal P w K mg base T k C) : FnOk P w K mg base (L2.CX P w) (k + 1) T.a_l_shuffle T.f_l_shuffle p_l_shuffle (spD K mg (p_l_shuffle).length (runDef false 7 (b_l_shuffle fu C))) := by
  refine' fn_okL (N := n_l_shuffle) T.d_l_shuffle.fn sc_l_shuffle ?hB ?hS ?body
  case hB => conv => lhs; whnf
  case hS => conv => lhs; whnf
  case body =>
  intro cdv A outer s H E hr nd tk pw
  exact (ss_cons (s_set 2 nd (d_call c.l_draw hr rfl T.d_l_draw.mg T.d_l_draw.fn.kp T.d_l_draw.bi tk (a_cons (d_var 0) (a_cons (d_bin o_add (d_var 1) d_int) a_nil))))
 (ss_cons (s_set 3 nd (d_slice false d_str o_none (o_some (d_var 2))))
 (ss_cons (s_set 4 nd d_str)
 (ss_cons (s_if (t_cmp o_gt (d_var 2) d_int (nomark _)) (ss_cons (s_set 5 nd (d_ix (d_lst (a_cons d_int (a_cons d_int a_nil))) (d_bin o_div (d_call c.l_draw hr rfl T.d_l_draw.mg T.d_l_draw.fn.kp T.d_l_draw.bi tk (a_cons (d_var 0) (a_cons d_int a_nil))) d_int)))
 (ss_one (s_for pw rfl (i_range1 rfl T.z_range (a_cons (d_call c.l_draw hr rfl T.d_l_draw.mg T.d_l_draw.fn.kp T.d_l_draw.bi tk (a_cons (d_var 0) (a_cons (d_var 5) a_nil))) a_nil)) (g_name 6) (pg_name (i := 6) nd rfl (by first | exact Or.inl rfl | exact Or.inr rfl)) (ss_one (s_set 4 nd (d_bin o_add (d_var 4) (d_ix (d_var 3) (d_call c.l_draw hr rfl T.d_l_draw.mg T.d_l_draw.fn.kp T.d_l_draw.bi tk (a_cons (d_var 0) (a_cons (d_var 2) a_nil)))))))))) ss_nil)
 (ss_one (s_ret (d_bin o_add (d_bin o_add (d_var 3) d_str) (d_var 4))))))))
theorem sc_l_any_word : FnScope n_l_any_word p_l_any_word (defScope s_l_any_word) := ⟨rfl, rfl, rfl, by decide +kernel, rfl, by decide +kernel, by decide +kernel⟩
theorem ok_l_any_word (fu : Nat) (c : Cal P w K mg base T k C) : FnOk P w K mg base (L2.CX P w) (k + 1) T.a_l_any_word T.f_l_any_word p_l_any_word (spD K mg (p_l_any_word).length (runDef false 4 (b_l_any_word fu C))) := by
  refine' fn_okL (N := n_l_any_word) T.d_l_any_word.fn sc_l_any_word ?hB ?hS ?body
  case hB => conv => lhs; whnf
  case hS => conv => lhs; whnf
  case body =>
  intro cdv A outer s H E hr nd tk pw
  exact (ss_cons (s_set 2 nd (d_lst (a_cons d_str (a_cons d_str (a_cons d_str (a_cons d_str (a_cons d_str (a_cons d_str (a_cons d_str (a_cons d_str (a_cons d_str (a_cons d_str (a_cons d_str (a_cons d_str (a_cons d_str a_nil)))))))))))))))
 (ss_cons (s_set 3 nd (d_call c.l_draw hr rfl T.d_l_draw.mg T.d_l_draw.fn.kp T.d_l_draw.bi tk (a_cons (d_var 0) (a_cons d_int a_nil))))
 (ss_cons (s_if (t_cmp o_lt (d_var 3) d_int (nomark _)) (ss_one (s_ret (d_tup (a_cons d_str (a_cons (d_call c.l_thing hr rfl T.d_l_thing.mg T.d_l_thing.fn.kp T.d_l_thing.bi tk (a_cons (d_var 0) (a_cons (d_var 1) a_nil))) a_nil))))) ss_nil)
 (ss_cons (s_if (t_cmp o_lt (d_var 3) d_int (nomark _)) (ss_one (s_ret (d_call c.l_shuffle hr rfl T.d_l_shuffle.mg T.d_l_shuffle.fn.kp T.d_l_shuffle.bi tk (a_cons (d_var 0) (a_cons (d_ix (d_lst (a_cons d_int (a_cons d_int a_nil))) (d_bin o_div (d_call c.l_draw hr rfl T.d_l_draw.mg T.d_l_draw.fn.kp T.d_l_draw.bi tk (a_cons (d_var 0) (a_cons d_int a_nil))) d_int)) a_nil))))) ss_nil)
 (ss_one (s_ret (d_ix (d_bin o_add (d_var 2) (d_lst (a_cons d_str (a_cons d_str a_nil)))) (d_call c.l_draw hr rfl T.d_l_draw.mg T.d_l_draw.fn.kp T.d_l_draw.bi tk (a_cons (d_var 0) (a_cons d_int a_nil))))))))))
theorem sc_l_op : FnScope n_l_op p_l_op (defScope s_l_op) := ⟨rfl, rfl, rfl, by decide +kernel, rfl, by decide +kernel, by decide +kernel⟩
theorem ok_l_op (fu : Nat) (c : Cal P w K mg base T k C) : FnOk P w K mg base (L2.CX P w) (k + 1) T.a_l_op T.f_l_op p_l_op (spD K mg (p_l_op).length (runDef false 8 (b_l_op fu C))) := by
  refine' fn_okL (N := n_l_op) T.d_l_op.fn sc_l_op ?hB ?hS ?body
  case hB => conv => lhs; whnf
  case hS => conv => lhs; whnf
  case body =>
  intro cdv A outer s H E hr nd tk pw
  exact (ss_cons (s_set 3 nd (d_ix (d_lst (a_cons d_str (a_cons d_str (a_cons d_str (a_cons d_str (a_cons d_str (a_cons d_str (a_cons d_str (a_cons d_str (a_cons d_str (a_cons d_str (a_cons d_str a_nil)))))))))))) (d_call c.l_draw hr rfl T.d_l_draw.mg T.d_l_draw.fn.kp T.d_l_draw.bi tk (a_cons (d_var 0) (a_cons d_int a_nil)))))
 (ss_cons (s_if (PW.pt (w_or (t_cmp (o_eq hr.units) (d_var 1) d_int (nomark _)) (w_or (t_cmp (o_eq hr.units) (d_var 3) d_str (nomark _)) (w_one_or (PW.pt (w_and (t_cmp (o_eq hr.units) (d_var 3) d_str (nomark _)) (w_one_and (t_cmp (o_eq hr.units) (d_var 2) d_int (nomark _))))))))) (ss_one (s_ret (d_tup (a_cons d_str (a_cons (d_call c.l_thing hr rfl T.d_l_thing.mg T.d_l_thing.fn.kp T.d_l_thing.bi tk (a_cons (d_var 0) (a_cons d_int a_nil))) a_nil))))) ss_nil)
 (ss_cons (s_if (t_cmp (o_eq hr.units) (d_var 3) d_str (nomark _)) (ss_one (s_ret (d_tup (a_cons (d_var 3) (a_cons (d_call c.l_draw hr rfl T.d_l_draw.mg T.d_l_draw.fn.kp T.d_l_draw.bi tk (a_cons (d_var 0) (a_cons (d_var 1) a_nil))) a_nil))))) ss_nil)
 (ss_cons (s_if (t_cmp (o_ne hr.units) (d_var 3) d_str (nomark _)) (ss_one (s_ret (d_tup (a_cons (d_var 3) (a_cons (d_call c.l_draw hr rfl T.d_l_draw.mg T.d_l_draw.fn.kp T.d_l_draw.bi tk (a_cons (d_var 0) (a_cons (d_var 1) a_nil))) (a_cons (d_call c.l_draw hr rfl T.d_l_draw.mg T.d_l_draw.fn.kp T.d_l_draw.bi tk (a_cons (d_var 0) (a_cons (d_var 1) a_nil))) a_nil)))))) ss_nil)
 (ss_cons (s_set 4 nd (d_callTy c_tuple (by rfl) T.z_tuple (by decide +kernel) (a_cons (d_comp rfl nd (i_range1 rfl T.z_range (a_cons (d_call c.l_draw hr rfl T.d_l_draw.mg T.d_l_draw.fn.kp T.d_l_draw.bi tk (a_cons (d_var 0) (a_cons d_int a_nil))) a_nil)) (blkOk_by (own := [("_law_k", 7)]) (N := n_l_op) (sc := defScope s_l_op) (by decide +kernel)) rfl (g_name 7) (by decide) (fun _ _ _ _ _ => (pg_name (i := 7) nd rfl (by first | exact Or.inl rfl | exact Or.inr rfl))) (fun _ _ _ _ _ => ts_nil) (fun _ _ _ _ _ => (d_call c.l_draw hr rfl T.d_l_draw.mg T.d_l_draw.fn.kp T.d_l_draw.bi takes0 (a_cons (d_var 0) (a_cons (d_var 1) a_nil))))) a_nil)))
 (ss_cons (s_set 5 nd (d_call c.l_draw hr rfl T.d_l_draw.mg T.d_l_draw.fn.kp T.d_l_draw.bi tk (a_cons (d_var 0) (a_cons d_int a_nil))))
 (ss_cons (s_setLc 6 rfl nd (i_range1 rfl T.z_range (a_cons d_int a_nil)) (blkOk_by (own := [("_law_k", 7)]) (N := n_l_op) (sc := defScope s_l_op) (by decide +kernel)) rfl (g_name 7) (by decide) (fun _ _ _ _ _ => (pg_name (i := 7) nd rfl (by first | exact Or.inl rfl | exact Or.inr rfl))) (fun _ _ _ _ _ => ts_nil) (fun _ _ _ _ _ => (d_call c.l_code hr rfl T.d_l_code.mg T.d_l_code.fn.kp T.d_l_code.bi takes0 (a_cons (d_var 0) (a_cons (d_callB c_len (by rfl) T.z_len (by decide +kernel) (a_cons (d_var 4) a_nil)) (a_cons (d_var 5) (a_cons (d_bin o_sub (d_var 2) d_int) a_nil)))))))
 (ss_one (s_ret (d_tup (a_cons (d_var 3) (a_cons (d_call c.l_draw hr rfl T.d_l_draw.mg T.d_l_draw.fn.kp T.d_l_draw.bi tk (a_cons (d_var 0) (a_cons (d_var 1) a_nil))) (a_cons (d_var 4) (a_cons (d_ix (d_var 6) d_int) (a_cons (d_ix (d_var 6) d_int) a_nil)))))))))))))))
theorem sc_l_made : FnScope n_l_made p_l_made (defScope s_l_made) := ⟨rfl, rfl, rfl, by decide +kernel, rfl, by decide +kernel, by decide +kernel⟩
theorem ok_l_made (fu : Nat) (c : Cal P w K mg base T k C) : FnOk P w K mg base (L2.CX P w) (k + 1) T.a_l_made T.f_l_made p_l_made (spD K mg (p_l_made).length (runDef false 1 (b_l_made fu C))) := by
  refine' fn_okL (N := n_l_made) T.d_l_made.fn sc_l_made ?hB ?hS ?body
  case hB => conv => lhs; whnf
  case hS => conv => lhs; whnf
  case body =>
  intro cdv A outer s H E hr nd tk pw
  exact (ss_cons (s_if (t_cmp (o_eq hr.units) (d_ix (d_var 0) d_int) d_str (nomark _)) (ss_one (s_ret (d_callB c_len (by rfl) T.z_len (by decide +kernel) (a_cons (d_ix (d_ix (d_var 0) d_int) d_int) a_nil)))) ss_nil)
 (ss_one (s_ret d_int)))
theorem sc_l_code : FnScope n_l_code p_l_code (defScope s_l_code) := ⟨rfl, rfl, rfl, by decide +kernel, rfl, by decide +kernel, by decide +kernel⟩
theorem ok_l_code (fu : Nat) (c : Cal P w K mg base T k C) : FnOk P w K mg base (L2.CX P w) (k + 1) T.a_l_code T.f_l_code p_l_code (spD K mg (p_l_code).length (runDef false 7 (b_l_code fu C))) := by
  refine' fn_okL (N := n_l_code) T.d_l_code.fn sc_l_code ?hB ?hS ?body
  case hB => conv => lhs; whnf
  case hS => conv => lhs; whnf
  case body =>
  intro cdv A outer s H E hr nd tk pw
  exact (ss_cons (s_set 4 nd (d_lstM a_nil))
 (ss_cons (s_set 5 nd (d_var 1))
 (ss_cons (s_for pw rfl (i_range1 rfl T.z_range (a_cons (d_bin o_add (d_call c.l_draw hr rfl T.d_l_draw.mg T.d_l_draw.fn.kp T.d_l_draw.bi tk (a_cons (d_var 0) (a_cons d_int a_nil))) (d_callTy c_int (by rfl) T.z_int (by decide +kernel) (a_cons (d_cmp (o_eq hr.units) (d_var 1) d_int (nomark _)) a_nil))) a_nil)) (g_name 6) (pg_name (i := 6) nd rfl (by first | exact Or.inl rfl | exact Or.inr rfl)) (ss_cons (s_expr (d_meth PySem.F.plainAttrs_list PySem.F.slot_list_append PySem.F.type_list_append m_append (d_var 4) (a_cons (d_call c.l_op hr rfl T.d_l_op.mg T.d_l_op.fn.kp T.d_l_op.bi tk (a_cons (d_var 0) (a_cons (d_var 5) (a_cons (d_var 3) a_nil)))) a_nil)))
 (ss_one (s_set 5 nd (d_bin o_add (d_var 5) (d_call c.l_made hr rfl T.d_l_made.mg T.d_l_made.fn.kp T.d_l_made.bi tk (a_cons (d_ix (d_var 4) (d_un o_neg d_int)) a_nil)))))))
 (ss_cons (s_if (t_cmp (o_eq hr.units) (d_var 5) d_int (nomark _)) (ss_cons (s_expr (d_meth PySem.F.plainAttrs_list PySem.F.slot_list_append PySem.F.type_list_append m_append (d_var 4) (a_cons (d_tup (a_cons d_str (a_cons (d_call c.l_thing hr rfl T.d_l_thing.mg T.d_l_thing.fn.kp T.d_l_thing.bi tk (a_cons (d_var 0) (a_cons d_int a_nil))) a_nil))) a_nil)))
 (ss_one (s_set 5 nd d_int))) ss_nil)
 (ss_one (s_ret (d_tup (a_cons (d_var 1) (a_cons (d_callTy c_tuple (by rfl) T.z_tuple (by decide +kernel) (a_cons (d_var 4) a_nil)) (a_cons (d_callTy c_tuple (by rfl) T.z_tuple (by decide +kernel) (a_cons (d_comp rfl nd (i_range1 rfl T.z_range (a_cons (d_var 2) a_nil)) (blkOk_by (own := [("_law_k", 6)]) (N := n_l_code) (sc := defScope s_l_code) (by decide +kernel)) rfl (g_name 6) (by decide) (fun _ _ _ _ _ => (pg_name (i := 6) nd rfl (by first | exact Or.inl rfl | exact Or.inr rfl))) (fun _ _ _ _ _ => ts_nil) (fun _ _ _ _ _ => (d_call c.l_draw hr rfl T.d_l_draw.mg T.d_l_draw.fn.kp T.d_l_draw.bi takes0 (a_cons (d_var 0) (a_cons (d_var 5) a_nil))))) a_nil)) a_nil))))))))))
theorem sc_l_bad_op : FnScope n_l_bad_op p_l_bad_op (defScope s_l_bad_op) := ⟨rfl, rfl, rfl, by decide +kernel, rfl, by decide +kernel, by decide +kernel⟩
theorem ok_l_bad_op (fu : Nat) (c : Cal P w K mg base T k C) : FnOk P w K mg base (L2.CX P w) (k + 1) T.a_l_bad_op T.f_l_bad_op p_l_bad_op (spD K mg (p_l_bad_op).length (runDef false 15 (b_l_bad_op fu C))) := by
  refine' fn_okL (N := n_l_bad_op) T.d_l_bad_op.fn sc_l_bad_op ?hB ?hS ?body
  case hB => conv => lhs; whnf
  case hS => conv => lhs; whnf
  case body =>
  intro cdv A outer s H E hr nd tk pw
  exact (ss_cons (s_set 3 nd (d_ix (d_lst (a_cons (d_var 2) (a_cons (d_bin o_add (d_var 2) (d_call c.l_draw hr rfl T.d_l_draw.mg T.d_l_draw.fn.kp T.d_l_draw.bi tk (a_cons (d_var 0) (a_cons d_int a_nil)))) (a_cons (d_un o_neg d_int) (a_cons d_bl (a_cons d_non (a_cons d_str (a_cons (d_tup (a_cons d_int a_nil)) a_nil)))))))) (d_call c.l_draw hr rfl T.d_l_draw.mg T.d_l_draw.fn.kp T.d_l_draw.bi tk (a_cons (d_var 0) (a_cons d_int a_nil)))))
 (ss_cons (s_set 4 nd (d_lst (a_cons (d_callTy c_list (by rfl) T.z_list (by decide +kernel) (a_cons (d_var 1) a_nil)) (a_cons (d_bin o_add (d_var 1) (d_tup (a_cons d_int a_nil))) (a_cons (d_slice false (d_var 1) o_none (o_some (d_un o_neg d_int))) (a_cons (d_bin o_add (d_tup (a_cons d_str a_nil)) (d_slice false (d_var 1) (o_some d_int) o_none)) (a_cons (d_bin o_add (d_tup (a_cons d_non a_nil)) (d_slice false (d_var 1) (o_some d_int) o_none)) (a_cons (d_tup a_nil) (a_cons d_non (a_cons (d_ix (d_var 1) d_int) a_nil))))))))))
 (ss_cons (s_if (t_cmp (o_eq hr.units) (d_ix (d_var 1) d_int) d_str (nomark _)) (ss_one (s_set 4 nd (d_bin o_add (d_var 4) (d_lst (a_cons (d_tup (a_cons d_str (a_cons (d_tup (a_cons d_str (a_cons (d_un o_neg d_int) a_nil))) a_nil))) (a_cons (d_tup (a_cons d_str (a_cons (d_tup (a_cons d_str (a_cons (d_bin o_pow d_int d_int) a_nil))) a_nil))) (a_cons (d_tup (a_cons d_str (a_cons d_int a_nil))) (a_cons (d_tup (a_cons d_str (a_cons (d_tup (a_cons d_str (a_cons (d_lst (a_cons d_str a_nil)) a_nil))) a_nil))) a_nil)))))))) (ss_one (s_if (t_cmp (o_eq hr.units) (d_ix (d_var 1) d_int) d_str (nomark _)) (ss_cons (s_asg (d_var 1) (g_tup (gs_cons 9 (gs_cons 10 (gs_cons 11 (gs_cons 12 (gs_cons 13 gs_nil)))))) (pg_tup rfl (pgs_cons (pg_name (i := 9) nd rfl (by first | exact Or.inl rfl | exact Or.inr rfl)) (pgs_cons (pg_name (i := 10) nd rfl (by first | exact Or.inl rfl | exact Or.inr rfl)) (pgs_cons (pg_name (i := 11) nd rfl (by first | exact Or.inl rfl | exact Or.inr rfl)) (pgs_cons (pg_name (i := 12) nd rfl (by first | exact Or.inl rfl | exact Or.inr rfl)) (pgs_cons (pg_name (i := 13) nd rfl (by first | exact Or.inl rfl | exact Or.inr rfl)) pgs_nil)))))))
 (ss_cons (s_set 5 nd (d_bin o_add (d_tup (a_cons (d_bin o_add (d_ix (d_var 12) d_int) d_int) a_nil)) (d_slice false (d_var 12) (o_some d_int) o_none)))
 (ss_cons (s_set 6 nd (d_bin o_add (d_slice false (d_var 12) o_none (o_some d_int)) (d_tup (a_cons (d_bin o_add (d_ix (d_var 12) d_int) (d_tup (a_cons d_int a_nil))) a_nil))))
 (ss_cons (s_if (t_cmp (o_eq hr.units) (d_bin o_add (d_ix (d_var 12) d_int) (d_callB c_len (by rfl) T.z_len (by decide +kernel) (a_cons (d_ix (d_var 12) d_int) a_nil))) d_int (nomark _)) (ss_one (s_set 6 nd (d_bin o_add (d_slice false (d_var 12) o_none (o_some d_int)) (d_tup (a_cons (d_ix (d_var 12) d_int) (a_cons (d_ix (d_var 12) d_int) a_nil)))))) ss_nil)
 (ss_cons (s_set 4 nd (d_bin o_add (d_var 4) (d_lst (a_cons (d_tup (a_cons (d_var 9) (a_cons (d_var 3) (a_cons (d_var 11) (a_cons (d_var 12) (a_cons (d_var 13) a_nil)))))) (a_cons (d_tup (a_cons (d_var 9) (a_cons (d_var 10) (a_cons (d_bin o_add (d_var 11) (d_tup (a_cons (d_var 3) a_nil))) (a_cons (d_var 12) (a_cons (d_var 13) a_nil)))))) a_nil)))))
 (ss_cons (s_set 4 nd (d_bin o_add (d_var 4) (d_lst (a_cons (d_tup (a_cons (d_var 9) (a_cons (d_var 10) (a_cons (d_var 11) (a_cons (d_var 5) (a_cons (d_var 13) a_nil)))))) (a_cons (d_tup (a_cons (d_var 9) (a_cons (d_var 10) (a_cons (d_var 11) (a_cons (d_var 12) (a_cons (d_bin o_add (d_tup (a_cons (d_bin o_add (d_ix (d_var 13) d_int) d_int) a_nil)) (d_slice false (d_var 13) (o_some d_int) o_none)) a_nil)))))) a_nil)))))
 (ss_cons (s_set 4 nd (d_bin o_add (d_var 4) (d_lst (a_cons (d_tup (a_cons (d_var 9) (a_cons (d_var 10) (a_cons (d_var 11) (a_cons (d_var 6) (a_cons (d_var 13) a_nil)))))) (a_cons (d_tup (a_cons (d_var 9) (a_cons (d_var 10) (a_cons (d_callTy c_list (by rfl) T.z_list (by decide +kernel) (a_cons (d_var 11) a_nil)) (a_cons (d_var 12) (a_cons (d_var 13) a_nil)))))) a_nil)))))
 (ss_cons (s_set 4 nd (d_bin o_add (d_var 4) (d_lst (a_cons (d_tup (a_cons (d_var 9) (a_cons (d_var 10) (a_cons (d_var 11) (a_cons (d_var 12) (a_cons d_non a_nil)))))) (a_cons (d_tup (a_cons (d_var 9) (a_cons (d_var 10) (a_cons (d_bin o_add (d_bin o_add (d_var 11) (d_var 11)) (d_tup (a_cons (d_var 10) a_nil))) (a_cons (d_var 12) (a_cons (d_var 13) a_nil)))))) a_nil)))))
 (ss_cons (s_setLc 7 rfl nd (i_it (d_tup (a_cons (d_var 12) (a_cons (d_var 13) a_nil)))) (blkOk_by (own := [("_law_code_here", 14)]) (N := n_l_bad_op) (sc := defScope s_l_bad_op) (by decide +kernel)) rfl (g_name 14) (by decide) (fun _ _ _ _ _ => (pg_name (i := 14) nd rfl (by first | exact Or.inl rfl | exact Or.inr rfl))) (fun _ _ _ _ _ => ts_nil) (fun _ _ _ _ _ => (d_bin o_add (d_bin o_add (d_slice false (d_var 14) o_none (o_some d_int)) (d_tup (a_cons (d_bin o_add (d_ix (d_var 14) d_int) (d_tup (a_cons (d_tup (a_cons d_str (a_cons d_int a_nil))) a_nil))) a_nil))) (d_slice false (d_var 14) (o_some d_int) o_none))))
 (ss_cons (s_set 4 nd (d_bin o_add (d_var 4) (d_lst (a_cons (d_tup (a_cons (d_var 9) (a_cons (d_var 10) (a_cons (d_var 11) (a_cons (d_ix (d_var 7) d_int) (a_cons (d_var 13) a_nil)))))) (a_cons (d_tup (a_cons (d_var 9) (a_cons (d_var 10) (a_cons (d_var 11) (a_cons (d_var 12) (a_cons (d_ix (d_var 7) d_int) a_nil)))))) a_nil)))))
 (ss_one (s_set 4 nd (d_bin o_add (d_var 4) (d_lst (a_cons (d_tup (a_cons (d_var 9) (a_cons (d_var 10) (a_cons (d_var 11) (a_cons d_non (a_cons (d_var 13) a_nil)))))) (a_cons (d_tup (a_cons (d_var 9) (a_cons (d_var 10) (a_cons (d_var 11) (a_cons (d_bin o_add (d_slice false (d_var 12) o_none (o_some d_int)) (d_bin o_mulS (d_tup (a_cons (d_tup (a_cons d_int a_nil)) a_nil)) d_int)) (a_cons (d_var 13) a_nil)))))) a_nil)))))))))))))))) (ss_cons (s_set 8 nd (d_bin o_add d_int (d_call c.l_draw hr rfl T.d_l_draw.mg T.d_l_draw.fn.kp T.d_l_draw.bi tk (a_cons (d_var 0) (a_cons (d_bin o_sub (d_callB c_len (by rfl) T.z_len (by decide +kernel) (a_cons (d_var 1) a_nil)) d_int) a_nil)))))
 (ss_one (s_set 4 nd (d_bin o_add (d_var 4) (d_bin o_mulS (d_lst (a_cons (d_bin o_add (d_bin o_add (d_slice false (d_var 1) o_none (o_some (d_var 8))) (d_tup (a_cons (d_var 3) a_nil))) (d_slice false (d_var 1) (o_some (d_bin o_add (d_var 8) d_int)) o_none)) a_nil)) d_int))))))))
 (ss_one (s_ret (d_ix (d_var 4) (d_call c.l_draw hr rfl T.d_l_draw.mg T.d_l_draw.fn.kp T.d_l_draw.bi tk (a_cons (d_var 0) (a_cons (d_callB c_len (by rfl) T.z_len (by decide +kernel) (a_cons (d_var 4) a_nil)) a_nil)))))))))
theorem sc_l_bad : FnScope n_l_bad p_l_bad (defScope s_l_bad) := ⟨rfl, rfl, rfl, by decide +kernel, rfl, by decide +kernel, by decide +kernel⟩
theorem ok_l_bad (fu : Nat) (c : Cal P w K mg base T k C) : FnOk P w K mg base (L2.CX P w) (k + 1) T.a_l_bad T.f_l_bad p_l_bad (spD K mg (p_l_bad).length (runDef false 11 (b_l_bad fu C))) := by
  refine' fn_okL (N := n_l_bad) T.d_l_bad.fn sc_l_bad ?hB ?hS ?body
  case hB => conv => lhs; whnf
  case hS => conv => lhs; whnf
  case body =>
  intro cdv A outer s H E hr nd tk pw
  exact (ss_cons (s_asg (d_var 1) (g_tup (gs_cons 6 (gs_cons 7 (gs_cons 8 gs_nil)))) (pg_tup rfl (pgs_cons (pg_name (i := 6) nd rfl (by first | exact Or.inl rfl | exact Or.inr rfl)) (pgs_cons (pg_name (i := 7) nd rfl (by first | exact Or.inl rfl | exact Or.inr rfl)) (pgs_cons (pg_name (i := 8) nd rfl (by first | exact Or.inl rfl | exact Or.inr rfl)) pgs_nil)))))
 (ss_cons (s_set 2 nd (d_var 6))
 (ss_cons (s_for pw rfl (i_it (d_var 7)) (g_name 3) (pg_name (i := 3) nd rfl (by first | exact Or.inl rfl | exact Or.inr rfl)) (ss_one (s_set 2 nd (d_bin o_add (d_var 2) (d_call c.l_made hr rfl T.d_l_made.mg T.d_l_made.fn.kp T.d_l_made.bi tk (a_cons (d_var 3) a_nil))))))
 (ss_cons (s_set 4 nd (d_ix (d_lst (a_cons (d_var 2) (a_cons (d_bin o_add (d_var 2) (d_call c.l_draw hr rfl T.d_l_draw.mg T.d_l_draw.fn.kp T.d_l_draw.bi tk (a_cons (d_var 0) (a_cons d_int a_nil)))) (a_cons (d_un o_neg d_int) (a_cons d_bl (a_cons d_non (a_cons d_str (a_cons (d_tup (a_cons d_int a_nil)) a_nil)))))))) (d_call c.l_draw hr rfl T.d_l_draw.mg T.d_l_draw.fn.kp T.d_l_draw.bi tk (a_cons (d_var 0) (a_cons d_int a_nil)))))
 (ss_cons (s_set 5 nd (d_lst (a_cons (d_tup (a_cons (d_un o_neg d_int) (a_cons (d_var 7) (a_cons (d_var 8) a_nil)))) (a_cons (d_tup (a_cons d_bl (a_cons (d_var 7) (a_cons (d_var 8) a_nil)))) (a_cons (d_tup (a_cons d_str (a_cons (d_var 7) (a_cons (d_var 8) a_nil)))) (a_cons (d_tup (a_cons d_non (a_cons (d_var 7) (a_cons (d_var 8) a_nil)))) (a_cons (d_tup (a_cons (d_var 6) (a_cons (d_callTy c_list (by rfl) T.z_list (by decide +kernel) (a_cons (d_var 7) a_nil)) (a_cons (d_var 8) a_nil)))) a_nil)))))))
 (ss_cons (s_set 5 nd (d_bin o_add (d_var 5) (d_lst (a_cons (d_tup (a_cons (d_var 6) (a_cons (d_var 7) (a_cons (d_callTy c_list (by rfl) T.z_list (by decide +kernel) (a_cons (d_var 8) a_nil)) a_nil)))) (a_cons (d_tup (a_cons (d_var 6) (a_cons (d_var 7) a_nil))) (a_cons (d_bin o_add (d_var 1) (d_tup (a_cons (d_tup a_nil) a_nil))) (a_cons (d_callTy c_list (by rfl) T.z_list (by decide +kernel) (a_cons (d_var 1) a_nil)) (a_cons (d_tup (a_cons (d_var 6) (a_cons (d_var 7) (a_cons (d_bin o_add (d_var 8) (d_tup (a_cons (d_var 4) a_nil))) a_nil)))) a_nil))))))))
 (ss_cons (s_set 5 nd (d_bin o_add (d_var 5) (d_lst (a_cons (d_tup (a_cons (d_var 6) (a_cons (d_var 7) (a_cons (d_bin o_add (d_tup (a_cons (d_var 4) a_nil)) (d_var 8)) a_nil)))) (a_cons d_non (a_cons d_int (a_cons d_str (a_cons (d_tup a_nil) (a_cons (d_tup (a_cons (d_var 6) (a_cons d_non (a_cons (d_var 8) a_nil)))) (a_cons (d_tup (a_cons (d_var 6) (a_cons (d_var 7) (a_cons d_non a_nil)))) a_nil))))))))))
 (ss_cons (s_if (PW.pt (w_and (t_cmp (o_ne hr.units) (d_var 7) (d_tup a_nil) (nomark _)) (w_one_and (t_cmp (o_eq hr.units) (d_call c.l_draw hr rfl T.d_l_draw.mg T.d_l_draw.fn.kp T.d_l_draw.bi tk (a_cons (d_var 0) (a_cons d_int a_nil))) d_int (nomark _))))) (ss_cons (s_set 9 nd (d_call c.l_draw hr rfl T.d_l_draw.mg T.d_l_draw.fn.kp T.d_l_draw.bi tk (a_cons (d_var 0) (a_cons (d_callB c_len (by rfl) T.z_len (by decide +kernel) (a_cons (d_var 7) a_nil)) a_nil))))
 (ss_cons (s_set 2 nd (d_var 6))
 (ss_cons (s_for pw rfl (i_it (d_slice false (d_var 7) o_none (o_some (d_var 9)))) (g_name 3) (pg_name (i := 3) nd rfl (by first | exact Or.inl rfl | exact Or.inr rfl)) (ss_one (s_set 2 nd (d_bin o_add (d_var 2) (d_call c.l_made hr rfl T.d_l_made.mg T.d_l_made.fn.kp T.d_l_made.bi tk (a_cons (d_var 3) a_nil))))))
 (ss_cons (s_set 10 nd (d_call c.l_bad_op hr rfl T.d_l_bad_op.mg T.d_l_bad_op.fn.kp T.d_l_bad_op.bi tk (a_cons (d_var 0) (a_cons (d_ix (d_var 7) (d_var 9)) (a_cons (d_var 2) a_nil)))))
 (ss_one (s_ret (d_tup (a_cons (d_var 6) (a_cons (d_bin o_add (d_bin o_add (d_slice false (d_var 7) o_none (o_some (d_var 9))) (d_tup (a_cons (d_var 10) a_nil))) (d_slice false (d_var 7) (o_some (d_bin o_add (d_var 9) d_int)) o_none)) (a_cons (d_slice false (d_var 8) o_none (o_some d_int)) a_nil)))))))))) ss_nil)
 (ss_one (s_ret (d_ix (d_var 5) (d_call c.l_draw hr rfl T.d_l_draw.mg T.d_l_draw.fn.kp T.d_l_draw.bi tk (a_cons (d_var 0) (a_cons (d_callB c_len (by rfl) T.z_len (by decide +kernel) (a_cons (d_var 5) a_nil)) a_nil))))))))))))))
theorem sc_law : FnScope n_law p_law (defScope s_law) := ⟨rfl, rfl, rfl, by decide +kernel, rfl, by decide +kernel, by decide +kernel⟩
theorem ok_law (fu : Nat) (c : Cal P w K mg base T k C) : FnOk P w K mg base (L2.CX P w) (k + 1) T.a_law T.f_law p_law (spD K mg (p_law).length (runDef false 4 (b_law fu C))) := by
  refine' fn_okL (N := n_law) T.d_law.fn sc_law ?hB ?hS ?body
  case hB => conv => lhs; whnf
  case hS => conv => lhs; whnf
  case body =>
  intro cdv A outer s H E hr nd tk pw
  exact (ss_cons (s_set 1 nd (d_call c.l_deck hr rfl T.d_l_deck.mg T.d_l_deck.fn.kp T.d_l_deck.bi tk (a_cons (d_var 0) (a_cons d_int a_nil))))
 (ss_cons (s_set 2 nd (d_call c.l_code hr rfl T.d_l_code.mg T.d_l_code.fn.kp T.d_l_code.bi tk (a_cons (d_var 1) (a_cons (d_call c.l_draw hr rfl T.d_l_draw.mg T.d_l_draw.fn.kp T.d_l_draw.bi tk (a_cons (d_var 1) (a_cons d_int a_nil))) (a_cons (d_call c.l_draw hr rfl T.d_l_draw.mg T.d_l_draw.fn.kp T.d_l_draw.bi tk (a_cons (d_var 1) (a_cons d_int a_nil))) (a_cons d_int a_nil))))))
 (ss_cons (s_if (t_cmp o_isnot (d_call c.is_code hr rfl T.d_is_code.mg T.d_is_code.fn.kp T.d_is_code.bi tk (a_cons (d_var 2) a_nil)) d_bl (nomark _)) (ss_one (s_ret d_bl)) ss_nil)
 (ss_cons (s_for pw rfl (i_range1 rfl T.z_range (a_cons d_int a_nil)) (g_name 3) (pg_name (i := 3) nd rfl (by first | exact Or.inl rfl | exact Or.inr rfl)) (ss_one (s_if (t_cmp o_isnot (d_call c.is_code hr rfl T.d_is_code.mg T.d_is_code.fn.kp T.d_is_code.bi tk (a_cons (d_call c.l_bad hr rfl T.d_l_bad.mg T.d_l_bad.fn.kp T.d_l_bad.bi tk (a_cons (d_var 1) (a_cons (d_var 2) a_nil))) a_nil)) d_bl (nomark _)) (ss_one (s_ret d_bl)) ss_nil)))
 (ss_one (s_ret (d_and (d_cmp o_is (d_call c.is_code hr rfl T.d_is_code.mg T.d_is_code.fn.kp T.d_is_code.bi tk (a_cons (d_var 2) a_nil)) d_bl (nomark _)) (d_one (d_cmp o_is (d_call c.is_code hr rfl T.d_is_code.mg T.d_is_code.fn.kp T.d_is_code.bi tk (a_cons (d_tup (a_cons d_int (a_cons (d_tup a_nil) (a_cons (d_tup a_nil) a_nil)))) a_nil)) d_bl (nomark _))))))))))
theorem cal (fu : Nat) : ∀ n : Nat, Cal P w K mg base T n (den fu n)
  | 0 => ⟨fn_zero, fn_zero, fn_zero, fn_zero, fn_zero, fn_zero, fn_zero, fn_zero, fn_zero, fn_zero, fn_zero, fn_zero, fn_zero, fn_zero, fn_zero, fn_zero, fn_zero, fn_zero, fn_zero, fn_zero, fn_zero, fn_zero, fn_zero, fn_zero, fn_zero, fn_zero, fn_zero, fn_zero⟩
  | n + 1 => ⟨ok_is_shuffle fu (cal fu n), ok_is_number fu (cal fu n), ok_is_name fu (cal fu n), ok_is_thing fu (cal fu n), ok_is_word fu (cal fu n), ok_is_row fu (cal fu n), ok_is_stack fu (cal fu n), ok_is_whole fu (cal fu n), ok_are_registers fu (cal fu n), ok_made_by fu (cal fu n), ok_is_choice fu (cal fu n), ok_is_op fu (cal fu n), ok_is_code fu (cal fu n), ok_l_mixed fu (cal fu n), ok_l_deck fu (cal fu n), ok_l_draw fu (cal fu n), ok_l_size fu (cal fu n), ok_l_cut fu (cal fu n), ok_l_number fu (cal fu n), ok_l_thing fu (cal fu n), ok_l_shuffle fu (cal fu n), ok_l_any_word fu (cal fu n), ok_l_op fu (cal fu n), ok_l_made fu (cal fu n), ok_l_code fu (cal fu n), ok_l_bad_op fu (cal fu n), ok_l_bad fu (cal fu n), ok_law fu (cal fu n)⟩
end
end K63

namespace K63
open PySem L2 PyProof.Rows DL
def txMk {K : PySem.W.Frag} {h : Heap} {mg : Str → Option Value} (X : K.In h) (G : h.Ns mainGlobals mg)
    {f1 : Addr} {od1 an1 : Option Addr} {sl1 : Array (Option Value)} {oc1 kV1 dc1 pm1 cd1 ct1 : Value}
    {f2 : Addr} {od2 an2 : Option Addr} {sl2 : Array (Option Value)} {oc2 kV2 dc2 pm2 cd2 ct2 : Value}
    {f3 : Addr} {od3 an3 : Option Addr} {sl3 : Array (Option Value)} {oc3 kV3 dc3 pm3 cd3 ct3 : Value}
    {f4 : Addr} {od4 an4 : Option Addr} {sl4 : Array (Option Value)} {oc4 kV4 dc4 pm4 cd4 ct4 : Value}
    {f5 : Addr} {od5 an5 : Option Addr} {sl5 : Array (Option Value)} {oc5 kV5 dc5 pm5 cd5 ct5 : Value}
    {f6 : Addr} {od6 an6 : Option Addr} {sl6 : Array (Option Value)} {oc6 kV6 dc6 pm6 cd6 ct6 : Value}
    {f7 : Addr} {od7 an7 : Option Addr} {sl7 : Array (Option Value)} {oc7 kV7 dc7 pm7 cd7 ct7 : Value}
    {f8 : Addr} {od8 an8 : Option Addr} {sl8 : Array (Option Value)} {oc8 kV8 dc8 pm8 cd8 ct8 : Value}
    {f9 : Addr} {od9 an9 : Option Addr} {sl9 : Array (Option Value)} {oc9 kV9 dc9 pm9 cd9 ct9 : Value}
    {f10 : Addr} {od10 an10 : Option Addr} {sl10 : Array (Option Value)} {oc10 kV10 dc10 pm10 cd10 ct10 : Value}
    {f11 : Addr} {od11 an11 : Option Addr} {sl11 : Array (Option Value)} {oc11 kV11 dc11 pm11 cd11 ct11 : Value}
    {f12 : Addr} {od12 an12 : Option Addr} {sl12 : Array (Option Value)} {oc12 kV12 dc12 pm12 cd12 ct12 : Value}
    {f13 : Addr} {od13 an13 : Option Addr} {sl13 : Array (Option Value)} {oc13 kV13 dc13 pm13 cd13 ct13 : Value}
    {f14 : Addr} {od14 an14 : Option Addr} {sl14 : Array (Option Value)} {oc14 kV14 dc14 pm14 cd14 ct14 : Value}
    {f15 : Addr} {od15 an15 : Option Addr} {sl15 : Array (Option Value)} {oc15 kV15 dc15 pm15 cd15 ct15 : Value}
    {f16 : Addr} {od16 an16 : Option Addr} {sl16 : Array (Option Value)} {oc16 kV16 dc16 pm16 cd16 ct16 : Value}
    {f17 : Addr} {od17 an17 : Option Addr} {sl17 : Array (Option Value)} {oc17 kV17 dc17 pm17 cd17 ct17 : Value}
    {f18 : Addr} {od18 an18 : Option Addr} {sl18 : Array (Option Value)} {oc18 kV18 dc18 pm18 cd18 ct18 : Value}
    {f19 : Addr} {od19 an19 : Option Addr} {sl19 : Array (Option Value)} {oc19 kV19 dc19 pm19 cd19 ct19 : Value}
    {f20 : Addr} {od20 an20 : Option Addr} {sl20 : Array (Option Value)} {oc20 kV20 dc20 pm20 cd20 ct20 : Value}
    {f21 : Addr} {od21 an21 : Option Addr} {sl21 : Array (Option Value)} {oc21 kV21 dc21 pm21 cd21 ct21 : Value}
    {f22 : Addr} {od22 an22 : Option Addr} {sl22 : Array (Option Value)} {oc22 kV22 dc22 pm22 cd22 ct22 : Value}
    {f23 : Addr} {od23 an23 : Option Addr} {sl23 : Array (Option Value)} {oc23 kV23 dc23 pm23 cd23 ct23 : Value}
    {f24 : Addr} {od24 an24 : Option Addr} {sl24 : Array (Option Value)} {oc24 kV24 dc24 pm24 cd24 ct24 : Value}
    {f25 : Addr} {od25 an25 : Option Addr} {sl25 : Array (Option Value)} {oc25 kV25 dc25 pm25 cd25 ct25 : Value}
    {f26 : Addr} {od26 an26 : Option Addr} {sl26 : Array (Option Value)} {oc26 kV26 dc26 pm26 cd26 ct26 : Value}
    {f27 : Addr} {od27 an27 : Option Addr} {sl27 : Array (Option Value)} {oc27 kV27 dc27 pm27 cd27 ct27 : Value}
    {f28 : Addr} {od28 an28 : Option Addr} {sl28 : Array (Option Value)} {oc28 kV28 dc28 pm28 cd28 ct28 : Value}
    {b_BASICS : Addr} {t_BASICS0 t_BASICS1 t_BASICS2 t_BASICS3 t_BASICS4 t_BASICS5 t_BASICS6 t_BASICS7 t_BASICS8 t_BASICS9 t_BASICS10 t_BASICS11 t_BASICS12 t_BASICS13 t_BASICS14 : Tok} {m_BASICS : Nat} {dd_BASICS : Option Addr} {sl_BASICS : Array (Option Value)}
    {t_LETTERS : Tok}
    {t_MOST_LEFT : Tok}
    {t_MOST_SIGNS : Tok}
    {t_NUMBERS : Tok}
    {b_PAIRS : Addr} {t_PAIRS0 t_PAIRS1 t_PAIRS2 t_PAIRS3 t_PAIRS4 t_PAIRS5 t_PAIRS6 : Tok} {m_PAIRS : Nat} {dd_PAIRS : Option Addr} {sl_PAIRS : Array (Option Value)}
    {t_SMALL : Tok}
    (a1 : PySem.W.nsIn K mainGlobals "is_shuffle" = some (some (.ref f1))) (l1 : K.lookup f1 = some ⟨oc1, od1, .func (PySem.W.fnOf "is_shuffle" "is_shuffle" (defArgs s_is_shuffle) (defBody s_is_shuffle) (defScope s_is_shuffle) .none kV1 dc1 pm1 an1 cd1 ct1), sl1⟩) (c1 : PySem.W.codeIn K cd1 "is_shuffle" = true) (k1 : PySem.W.keepIn K (.ref f1) = true)
    (a2 : PySem.W.nsIn K mainGlobals "is_number" = some (some (.ref f2))) (l2 : K.lookup f2 = some ⟨oc2, od2, .func (PySem.W.fnOf "is_number" "is_number" (defArgs s_is_number) (defBody s_is_number) (defScope s_is_number) .none kV2 dc2 pm2 an2 cd2 ct2), sl2⟩) (c2 : PySem.W.codeIn K cd2 "is_number" = true) (k2 : PySem.W.keepIn K (.ref f2) = true)
    (a3 : PySem.W.nsIn K mainGlobals "is_name" = some (some (.ref f3))) (l3 : K.lookup f3 = some ⟨oc3, od3, .func (PySem.W.fnOf "is_name" "is_name" (defArgs s_is_name) (defBody s_is_name) (defScope s_is_name) .none kV3 dc3 pm3 an3 cd3 ct3), sl3⟩) (c3 : PySem.W.codeIn K cd3 "is_name" = true) (k3 : PySem.W.keepIn K (.ref f3) = true)
    (a4 : PySem.W.nsIn K mainGlobals "is_thing" = some (some (.ref f4))) (l4 : K.lookup f4 = some ⟨oc4, od4, .func (PySem.W.fnOf "is_thing" "is_thing" (defArgs s_is_thing) (defBody s_is_thing) (defScope s_is_thing) .none kV4 dc4 pm4 an4 cd4 ct4), sl4⟩) (c4 : PySem.W.codeIn K cd4 "is_thing" = true) (k4 : PySem.W.keepIn K (.ref f4) = true)
    (a5 : PySem.W.nsIn K mainGlobals "is_word" = some (some (.ref f5))) (l5 : K.lookup f5 = some ⟨oc5, od5, .func (PySem.W.fnOf "is_word" "is_word" (defArgs s_is_word) (defBody s_is_word) (defScope s_is_word) .none kV5 dc5 pm5 an5 cd5 ct5), sl5⟩) (c5 : PySem.W.codeIn K cd5 "is_word" = true) (k5 : PySem.W.keepIn K (.ref f5) = true)
    (a6 : PySem.W.nsIn K mainGlobals "is_row" = some (some (.ref f6))) (l6 : K.lookup f6 = some ⟨oc6, od6, .func (PySem.W.fnOf "is_row" "is_row" (defArgs s_is_row) (defBody s_is_row) (defScope s_is_row) .none kV6 dc6 pm6 an6 cd6 ct6), sl6⟩) (c6 : PySem.W.codeIn K cd6 "is_row" = true) (k6 : PySem.W.keepIn K (.ref f6) = true)
    (a7 : PySem.W.nsIn K mainGlobals "is_stack" = some (some (.ref f7))) (l7 : K.lookup f7 = some ⟨oc7, od7, .func (PySem.W.fnOf "is_stack" "is_stack" (defArgs s_is_stack) (defBody s_is_stack) (defScope s_is_stack) .none kV7 dc7 pm7 an7 cd7 ct7), sl7⟩) (c7 : PySem.W.codeIn K cd7 "is_stack" = true) (k7 : PySem.W.keepIn K (.ref f7) = true)
    (a8 : PySem.W.nsIn K mainGlobals "is_whole" = some (some (.ref f8))) (l8 : K.lookup f8 = some ⟨oc8, od8, .func (PySem.W.fnOf "is_whole" "is_whole" (defArgs s_is_whole) (defBody s_is_whole) (defScope s_is_whole) .none kV8 dc8 pm8 an8 cd8 ct8), sl8⟩) (c8 : PySem.W.codeIn K cd8 "is_whole" = true) (k8 : PySem.W.keepIn K (.ref f8) = true)
    (a9 : PySem.W.nsIn K mainGlobals "are_registers" = some (some (.ref f9))) (l9 : K.lookup f9 = some ⟨oc9, od9, .func (PySem.W.fnOf "are_registers" "are_registers" (defArgs s_are_registers) (defBody s_are_registers) (defScope s_are_registers) .none kV9 dc9 pm9 an9 cd9 ct9), sl9⟩) (c9 : PySem.W.codeIn K cd9 "are_registers" = true) (k9 : PySem.W.keepIn K (.ref f9) = true)
    (a10 : PySem.W.nsIn K mainGlobals "made_by" = some (some (.ref f10))) (l10 : K.lookup f10 = some ⟨oc10, od10, .func (PySem.W.fnOf "made_by" "made_by" (defArgs s_made_by) (defBody s_made_by) (defScope s_made_by) .none kV10 dc10 pm10 an10 cd10 ct10), sl10⟩) (c10 : PySem.W.codeIn K cd10 "made_by" = true) (k10 : PySem.W.keepIn K (.ref f10) = true)
    (a11 : PySem.W.nsIn K mainGlobals "is_choice" = some (some (.ref f11))) (l11 : K.lookup f11 = some ⟨oc11, od11, .func (PySem.W.fnOf "is_choice" "is_choice" (defArgs s_is_choice) (defBody s_is_choice) (defScope s_is_choice) .none kV11 dc11 pm11 an11 cd11 ct11), sl11⟩) (c11 : PySem.W.codeIn K cd11 "is_choice" = true) (k11 : PySem.W.keepIn K (.ref f11) = true)
    (a12 : PySem.W.nsIn K mainGlobals "is_op" = some (some (.ref f12))) (l12 : K.lookup f12 = some ⟨oc12, od12, .func (PySem.W.fnOf "is_op" "is_op" (defArgs s_is_op) (defBody s_is_op) (defScope s_is_op) .none kV12 dc12 pm12 an12 cd12 ct12), sl12⟩) (c12 : PySem.W.codeIn K cd12 "is_op" = true) (k12 : PySem.W.keepIn K (.ref f12) = true)
    (a13 : PySem.W.nsIn K mainGlobals "is_code" = some (some (.ref f13))) (l13 : K.lookup f13 = some ⟨oc13, od13, .func (PySem.W.fnOf "is_code" "is_code" (defArgs s_is_code) (defBody s_is_code) (defScope s_is_code) .none kV13 dc13 pm13 an13 cd13 ct13), sl13⟩) (c13 : PySem.W.codeIn K cd13 "is_code" = true) (k13 : PySem.W.keepIn K (.ref f13) = true)
    (a14 : PySem.W.nsIn K mainGlobals "_law_mixed" = some (some (.ref f14))) (l14 : K.lookup f14 = some ⟨oc14, od14, .func (PySem.W.fnOf "_law_mixed" "_law_mixed" (defArgs s_l_mixed) (defBody s_l_mixed) (defScope s_l_mixed) .none kV14 dc14 pm14 an14 cd14 ct14), sl14⟩) (c14 : PySem.W.codeIn K cd14 "_law_mixed" = true) (k14 : PySem.W.keepIn K (.ref f14) = true)
    (a15 : PySem.W.nsIn K mainGlobals "_law_deck" = some (some (.ref f15))) (l15 : K.lookup f15 = some ⟨oc15, od15, .func (PySem.W.fnOf "_law_deck" "_law_deck" (defArgs s_l_deck) (defBody s_l_deck) (defScope s_l_deck) .none kV15 dc15 pm15 an15 cd15 ct15), sl15⟩) (c15 : PySem.W.codeIn K cd15 "_law_deck" = true) (k15 : PySem.W.keepIn K (.ref f15) = true)
    (a16 : PySem.W.nsIn K mainGlobals "_law_draw" = some (some (.ref f16))) (l16 : K.lookup f16 = some ⟨oc16, od16, .func (PySem.W.fnOf "_law_draw" "_law_draw" (defArgs s_l_draw) (defBody s_l_draw) (defScope s_l_draw) .none kV16 dc16 pm16 an16 cd16 ct16), sl16⟩) (c16 : PySem.W.codeIn K cd16 "_law_draw" = true) (k16 : PySem.W.keepIn K (.ref f16) = true)
    (a17 : PySem.W.nsIn K mainGlobals "_law_size" = some (some (.ref f17))) (l17 : K.lookup f17 = some ⟨oc17, od17, .func (PySem.W.fnOf "_law_size" "_law_size" (defArgs s_l_size) (defBody s_l_size) (defScope s_l_size) .none kV17 dc17 pm17 an17 cd17 ct17), sl17⟩) (c17 : PySem.W.codeIn K cd17 "_law_size" = true) (k17 : PySem.W.keepIn K (.ref f17) = true)
    (a18 : PySem.W.nsIn K mainGlobals "_law_cut" = some (some (.ref f18))) (l18 : K.lookup f18 = some ⟨oc18, od18, .func (PySem.W.fnOf "_law_cut" "_law_cut" (defArgs s_l_cut) (defBody s_l_cut) (defScope s_l_cut) .none kV18 dc18 pm18 an18 cd18 ct18), sl18⟩) (c18 : PySem.W.codeIn K cd18 "_law_cut" = true) (k18 : PySem.W.keepIn K (.ref f18) = true)
    (a19 : PySem.W.nsIn K mainGlobals "_law_number" = some (some (.ref f19))) (l19 : K.lookup f19 = some ⟨oc19, od19, .func (PySem.W.fnOf "_law_number" "_law_number" (defArgs s_l_number) (defBody s_l_number) (defScope s_l_number) .none kV19 dc19 pm19 an19 cd19 ct19), sl19⟩) (c19 : PySem.W.codeIn K cd19 "_law_number" = true) (k19 : PySem.W.keepIn K (.ref f19) = true)
    (a20 : PySem.W.nsIn K mainGlobals "_law_thing" = some (some (.ref f20))) (l20 : K.lookup f20 = some ⟨oc20, od20, .func (PySem.W.fnOf "_law_thing" "_law_thing" (defArgs s_l_thing) (defBody s_l_thing) (defScope s_l_thing) .none kV20 dc20 pm20 an20 cd20 ct20), sl20⟩) (c20 : PySem.W.codeIn K cd20 "_law_thing" = true) (k20 : PySem.W.keepIn K (.ref f20) = true)
    (a21 : PySem.W.nsIn K mainGlobals "_law_shuffle" = some (some (.ref f21))) (l21 : K.lookup f21 = some ⟨oc21, od21, .func (PySem.W.fnOf "_law_shuffle" "_law_shuffle" (defArgs s_l_shuffle) (defBody s_l_shuffle) (defScope s_l_shuffle) .none kV21 dc21 pm21 an21 cd21 ct21), sl21⟩) (c21 : PySem.W.codeIn K cd21 "_law_shuffle" = true) (k21 : PySem.W.keepIn K (.ref f21) = true)
    (a22 : PySem.W.nsIn K mainGlobals "_law_any_word" = some (some (.ref f22))) (l22 : K.lookup f22 = some ⟨oc22, od22, .func (PySem.W.fnOf "_law_any_word" "_law_any_word" (defArgs s_l_any_word) (defBody s_l_any_word) (defScope s_l_any_word) .none kV22 dc22 pm22 an22 cd22 ct22), sl22⟩) (c22 : PySem.W.codeIn K cd22 "_law_any_word" = true) (k22 : PySem.W.keepIn K (.ref f22) = true)
    (a23 : PySem.W.nsIn K mainGlobals "_law_op" = some (some (.ref f23))) (l23 : K.lookup f23 = some ⟨oc23, od23, .func (PySem.W.fnOf "_law_op" "_law_op" (defArgs s_l_op) (defBody s_l_op) (defScope s_l_op) .none kV23 dc23 pm23 an23 cd23 ct23), sl23⟩) (c23 : PySem.W.codeIn K cd23 "_law_op" = true) (k23 : PySem.W.keepIn K (.ref f23) = true)
    (a24 : PySem.W.nsIn K mainGlobals "_law_made" = some (some (.ref f24))) (l24 : K.lookup f24 = some ⟨oc24, od24, .func (PySem.W.fnOf "_law_made" "_law_made" (defArgs s_l_made) (defBody s_l_made) (defScope s_l_made) .none kV24 dc24 pm24 an24 cd24 ct24), sl24⟩) (c24 : PySem.W.codeIn K cd24 "_law_made" = true) (k24 : PySem.W.keepIn K (.ref f24) = true)
    (a25 : PySem.W.nsIn K mainGlobals "_law_code" = some (some (.ref f25))) (l25 : K.lookup f25 = some ⟨oc25, od25, .func (PySem.W.fnOf "_law_code" "_law_code" (defArgs s_l_code) (defBody s_l_code) (defScope s_l_code) .none kV25 dc25 pm25 an25 cd25 ct25), sl25⟩) (c25 : PySem.W.codeIn K cd25 "_law_code" = true) (k25 : PySem.W.keepIn K (.ref f25) = true)
    (a26 : PySem.W.nsIn K mainGlobals "_law_bad_op" = some (some (.ref f26))) (l26 : K.lookup f26 = some ⟨oc26, od26, .func (PySem.W.fnOf "_law_bad_op" "_law_bad_op" (defArgs s_l_bad_op) (defBody s_l_bad_op) (defScope s_l_bad_op) .none kV26 dc26 pm26 an26 cd26 ct26), sl26⟩) (c26 : PySem.W.codeIn K cd26 "_law_bad_op" = true) (k26 : PySem.W.keepIn K (.ref f26) = true)
    (a27 : PySem.W.nsIn K mainGlobals "_law_bad" = some (some (.ref f27))) (l27 : K.lookup f27 = some ⟨oc27, od27, .func (PySem.W.fnOf "_law_bad" "_law_bad" (defArgs s_l_bad) (defBody s_l_bad) (defScope s_l_bad) .none kV27 dc27 pm27 an27 cd27 ct27), sl27⟩) (c27 : PySem.W.codeIn K cd27 "_law_bad" = true) (k27 : PySem.W.keepIn K (.ref f27) = true)
    (a28 : PySem.W.nsIn K mainGlobals "law" = some (some (.ref f28))) (l28 : K.lookup f28 = some ⟨oc28, od28, .func (PySem.W.fnOf "law" "law" (defArgs s_law) (defBody s_law) (defScope s_law) .none kV28 dc28 pm28 an28 cd28 ct28), sl28⟩) (c28 : PySem.W.codeIn K cd28 "law" = true) (k28 : PySem.W.keepIn K (.ref f28) = true)
    (z_all : PySem.W.nsIn K mainGlobals "all" = some none)
    (z_bool : PySem.W.nsIn K mainGlobals "bool" = some none)
    (z_int : PySem.W.nsIn K mainGlobals "int" = some none)
    (z_isinstance : PySem.W.nsIn K mainGlobals "isinstance" = some none)
    (z_len : PySem.W.nsIn K mainGlobals "len" = some none)
    (z_list : PySem.W.nsIn K mainGlobals "list" = some none)
    (z_range : PySem.W.nsIn K mainGlobals "range" = some none)
    (z_str : PySem.W.nsIn K mainGlobals "str" = some none)
    (z_sum : PySem.W.nsIn K mainGlobals "sum" = some none)
    (z_tuple : PySem.W.nsIn K mainGlobals "tuple" = some none)
    (n_BASICS : PySem.W.nsIn K mainGlobals "BASICS" = some (some (.ref b_BASICS))) (q_BASICS : K.lookup b_BASICS = some ⟨.type "tuple", dd_BASICS, .seq #[.str "plus" t_BASICS0, .str "minus" t_BASICS1, .str "times" t_BASICS2, .str "less" t_BASICS3, .str "same" t_BASICS4, .str "do" t_BASICS5, .str "dip" t_BASICS6, .str "if" t_BASICS7, .str "while" t_BASICS8, .str "repeat" t_BASICS9, .str "join" t_BASICS10, .str "wrap" t_BASICS11, .str "put" t_BASICS12, .str "part" t_BASICS13, .str "each" t_BASICS14] m_BASICS, sl_BASICS⟩)
    (n_LETTERS : PySem.W.nsIn K mainGlobals "LETTERS" = some (some (.str "abcdefgh" t_LETTERS)))
    (n_MOST_LEFT : PySem.W.nsIn K mainGlobals "MOST_LEFT" = some (some (.int 12 t_MOST_LEFT)))
    (n_MOST_SIGNS : PySem.W.nsIn K mainGlobals "MOST_SIGNS" = some (some (.int 8 t_MOST_SIGNS)))
    (n_NUMBERS : PySem.W.nsIn K mainGlobals "NUMBERS" = some (some (.int 1000000000000 t_NUMBERS)))
    (n_PAIRS : PySem.W.nsIn K mainGlobals "PAIRS" = some (some (.ref b_PAIRS))) (q_PAIRS : K.lookup b_PAIRS = some ⟨.type "tuple", dd_PAIRS, .seq #[.str "plus" t_PAIRS0, .str "minus" t_PAIRS1, .str "times" t_PAIRS2, .str "less" t_PAIRS3, .str "same" t_PAIRS4, .str "put" t_PAIRS5, .str "join" t_PAIRS6] m_PAIRS, sl_PAIRS⟩)
    (n_SMALL : PySem.W.nsIn K mainGlobals "SMALL" = some (some (.str "abcdefghijklmnopqrstuvwxyz" t_SMALL))) : Tx K mg where
  a_is_shuffle := f1
  f_is_shuffle := PySem.W.fnOf "is_shuffle" "is_shuffle" (defArgs s_is_shuffle) (defBody s_is_shuffle) (defScope s_is_shuffle) .none kV1 dc1 pm1 an1 cd1 ct1
  d_is_shuffle := ⟨fun_mk (st := s_is_shuffle) l1 c1 k1, PySem.W.mg_of X G a1, (fun_mk (st := s_is_shuffle) l1 c1 k1).binds (ps := p_is_shuffle) fun _ _ _ _ _ _ us hl => match us, hl with | [_], _ => rfl⟩
  a_is_number := f2
  f_is_number := PySem.W.fnOf "is_number" "is_number" (defArgs s_is_number) (defBody s_is_number) (defScope s_is_number) .none kV2 dc2 pm2 an2 cd2 ct2
  d_is_number := ⟨fun_mk (st := s_is_number) l2 c2 k2, PySem.W.mg_of X G a2, (fun_mk (st := s_is_number) l2 c2 k2).binds (ps := p_is_number) fun _ _ _ _ _ _ us hl => match us, hl with | [_], _ => rfl⟩
  a_is_name := f3
  f_is_name := PySem.W.fnOf "is_name" "is_name" (defArgs s_is_name) (defBody s_is_name) (defScope s_is_name) .none kV3 dc3 pm3 an3 cd3 ct3
  d_is_name := ⟨fun_mk (st := s_is_name) l3 c3 k3, PySem.W.mg_of X G a3, (fun_mk (st := s_is_name) l3 c3 k3).binds (ps := p_is_name) fun _ _ _ _ _ _ us hl => match us, hl with | [_], _ => rfl⟩
  a_is_thing := f4
  f_is_thing := PySem.W.fnOf "is_thing" "is_thing" (defArgs s_is_thing) (defBody s_is_thing) (defScope s_is_thing) .none kV4 dc4 pm4 an4 cd4 ct4
  d_is_thing := ⟨fun_mk (st := s_is_thing) l4 c4 k4, PySem.W.mg_of X G a4, (fun_mk (st := s_is_thing) l4 c4 k4).binds (ps := p_is_thing) fun _ _ _ _ _ _ us hl => match us, hl with | [_], _ => rfl⟩
  a_is_word := f5
  f_is_word := PySem.W.fnOf "is_word" "is_word" (defArgs s_is_word) (defBody s_is_word) (defScope s_is_word) .none kV5 dc5 pm5 an5 cd5 ct5
  d_is_word := ⟨fun_mk (st := s_is_word) l5 c5 k5, PySem.W.mg_of X G a5, (fun_mk (st := s_is_word) l5 c5 k5).binds (ps := p_is_word) fun _ _ _ _ _ _ us hl => match us, hl with | [_], _ => rfl⟩
  a_is_row := f6
  f_is_row := PySem.W.fnOf "is_row" "is_row" (defArgs s_is_row) (defBody s_is_row) (defScope s_is_row) .none kV6 dc6 pm6 an6 cd6 ct6
  d_is_row := ⟨fun_mk (st := s_is_row) l6 c6 k6, PySem.W.mg_of X G a6, (fun_mk (st := s_is_row) l6 c6 k6).binds (ps := p_is_row) fun _ _ _ _ _ _ us hl => match us, hl with | [_], _ => rfl⟩
  a_is_stack := f7
  f_is_stack := PySem.W.fnOf "is_stack" "is_stack" (defArgs s_is_stack) (defBody s_is_stack) (defScope s_is_stack) .none kV7 dc7 pm7 an7 cd7 ct7
  d_is_stack := ⟨fun_mk (st := s_is_stack) l7 c7 k7, PySem.W.mg_of X G a7, (fun_mk (st := s_is_stack) l7 c7 k7).binds (ps := p_is_stack) fun _ _ _ _ _ _ us hl => match us, hl with | [_], _ => rfl⟩
  a_is_whole := f8
  f_is_whole := PySem.W.fnOf "is_whole" "is_whole" (defArgs s_is_whole) (defBody s_is_whole) (defScope s_is_whole) .none kV8 dc8 pm8 an8 cd8 ct8
  d_is_whole := ⟨fun_mk (st := s_is_whole) l8 c8 k8, PySem.W.mg_of X G a8, (fun_mk (st := s_is_whole) l8 c8 k8).binds (ps := p_is_whole) fun _ _ _ _ _ _ us hl => match us, hl with | [_], _ => rfl⟩
  a_are_registers := f9
  f_are_registers := PySem.W.fnOf "are_registers" "are_registers" (defArgs s_are_registers) (defBody s_are_registers) (defScope s_are_registers) .none kV9 dc9 pm9 an9 cd9 ct9
  d_are_registers := ⟨fun_mk (st := s_are_registers) l9 c9 k9, PySem.W.mg_of X G a9, (fun_mk (st := s_are_registers) l9 c9 k9).binds (ps := p_are_registers) fun _ _ _ _ _ _ us hl => match us, hl with | [_, _], _ => rfl⟩
  a_made_by := f10
  f_made_by := PySem.W.fnOf "made_by" "made_by" (defArgs s_made_by) (defBody s_made_by) (defScope s_made_by) .none kV10 dc10 pm10 an10 cd10 ct10
  d_made_by := ⟨fun_mk (st := s_made_by) l10 c10 k10, PySem.W.mg_of X G a10, (fun_mk (st := s_made_by) l10 c10 k10).binds (ps := p_made_by) fun _ _ _ _ _ _ us hl => match us, hl with | [_], _ => rfl⟩
  a_is_choice := f11
  f_is_choice := PySem.W.fnOf "is_choice" "is_choice" (defArgs s_is_choice) (defBody s_is_choice) (defScope s_is_choice) .none kV11 dc11 pm11 an11 cd11 ct11
  d_is_choice := ⟨fun_mk (st := s_is_choice) l11 c11 k11, PySem.W.mg_of X G a11, (fun_mk (st := s_is_choice) l11 c11 k11).binds (ps := p_is_choice) fun _ _ _ _ _ _ us hl => match us, hl with | [_, _], _ => rfl⟩
  a_is_op := f12
  f_is_op := PySem.W.fnOf "is_op" "is_op" (defArgs s_is_op) (defBody s_is_op) (defScope s_is_op) .none kV12 dc12 pm12 an12 cd12 ct12
  d_is_op := ⟨fun_mk (st := s_is_op) l12 c12 k12, PySem.W.mg_of X G a12, (fun_mk (st := s_is_op) l12 c12 k12).binds (ps := p_is_op) fun _ _ _ _ _ _ us hl => match us, hl with | [_, _], _ => rfl⟩
  a_is_code := f13
  f_is_code := PySem.W.fnOf "is_code" "is_code" (defArgs s_is_code) (defBody s_is_code) (defScope s_is_code) .none kV13 dc13 pm13 an13 cd13 ct13
  d_is_code := ⟨fun_mk (st := s_is_code) l13 c13 k13, PySem.W.mg_of X G a13, (fun_mk (st := s_is_code) l13 c13 k13).binds (ps := p_is_code) fun _ _ _ _ _ _ us hl => match us, hl with | [_], _ => rfl⟩
  a_l_mixed := f14
  f_l_mixed := PySem.W.fnOf "_law_mixed" "_law_mixed" (defArgs s_l_mixed) (defBody s_l_mixed) (defScope s_l_mixed) .none kV14 dc14 pm14 an14 cd14 ct14
  d_l_mixed := ⟨fun_mk (st := s_l_mixed) l14 c14 k14, PySem.W.mg_of X G a14, (fun_mk (st := s_l_mixed) l14 c14 k14).binds (ps := p_l_mixed) fun _ _ _ _ _ _ us hl => match us, hl with | [_], _ => rfl⟩
  a_l_deck := f15
  f_l_deck := PySem.W.fnOf "_law_deck" "_law_deck" (defArgs s_l_deck) (defBody s_l_deck) (defScope s_l_deck) .none kV15 dc15 pm15 an15 cd15 ct15
  d_l_deck := ⟨fun_mk (st := s_l_deck) l15 c15 k15, PySem.W.mg_of X G a15, (fun_mk (st := s_l_deck) l15 c15 k15).binds (ps := p_l_deck) fun _ _ _ _ _ _ us hl => match us, hl with | [_, _], _ => rfl⟩
  a_l_draw := f16
  f_l_draw := PySem.W.fnOf "_law_draw" "_law_draw" (defArgs s_l_draw) (defBody s_l_draw) (defScope s_l_draw) .none kV16 dc16 pm16 an16 cd16 ct16
  d_l_draw := ⟨fun_mk (st := s_l_draw) l16 c16 k16, PySem.W.mg_of X G a16, (fun_mk (st := s_l_draw) l16 c16 k16).binds (ps := p_l_draw) fun _ _ _ _ _ _ us hl => match us, hl with | [_, _], _ => rfl⟩
  a_l_size := f17
  f_l_size := PySem.W.fnOf "_law_size" "_law_size" (defArgs s_l_size) (defBody s_l_size) (defScope s_l_size) .none kV17 dc17 pm17 an17 cd17 ct17
  d_l_size := ⟨fun_mk (st := s_l_size) l17 c17 k17, PySem.W.mg_of X G a17, (fun_mk (st := s_l_size) l17 c17 k17).binds (ps := p_l_size) fun _ _ _ _ _ _ us hl => match us, hl with | [_], _ => rfl⟩
  a_l_cut := f18
  f_l_cut := PySem.W.fnOf "_law_cut" "_law_cut" (defArgs s_l_cut) (defBody s_l_cut) (defScope s_l_cut) .none kV18 dc18 pm18 an18 cd18 ct18
  d_l_cut := ⟨fun_mk (st := s_l_cut) l18 c18 k18, PySem.W.mg_of X G a18, (fun_mk (st := s_l_cut) l18 c18 k18).binds (ps := p_l_cut) fun _ _ _ _ _ _ us hl => match us, hl with | [_, _], _ => rfl⟩
  a_l_number := f19
  f_l_number := PySem.W.fnOf "_law_number" "_law_number" (defArgs s_l_number) (defBody s_l_number) (defScope s_l_number) .none kV19 dc19 pm19 an19 cd19 ct19
  d_l_number := ⟨fun_mk (st := s_l_number) l19 c19 k19, PySem.W.mg_of X G a19, (fun_mk (st := s_l_number) l19 c19 k19).binds (ps := p_l_number) fun _ _ _ _ _ _ us hl => match us, hl with | [_], _ => rfl⟩
  a_l_thing := f20
  f_l_thing := PySem.W.fnOf "_law_thing" "_law_thing" (defArgs s_l_thing) (defBody s_l_thing) (defScope s_l_thing) .none kV20 dc20 pm20 an20 cd20 ct20
  d_l_thing := ⟨fun_mk (st := s_l_thing) l20 c20 k20, PySem.W.mg_of X G a20, (fun_mk (st := s_l_thing) l20 c20 k20).binds (ps := p_l_thing) fun _ _ _ _ _ _ us hl => match us, hl with | [_, _], _ => rfl⟩
  a_l_shuffle := f21
  f_l_shuffle := PySem.W.fnOf "_law_shuffle" "_law_shuffle" (defArgs s_l_shuffle) (defBody s_l_shuffle) (defScope s_l_shuffle) .none kV21 dc21 pm21 an21 cd21 ct21
  d_l_shuffle := ⟨fun_mk (st := s_l_shuffle) l21 c21 k21, PySem.W.mg_of X G a21, (fun_mk (st := s_l_shuffle) l21 c21 k21).binds (ps := p_l_shuffle) fun _ _ _ _ _ _ us hl => match us, hl with | [_, _], _ => rfl⟩
  a_l_any_word := f22
  f_l_any_word := PySem.W.fnOf "_law_any_word" "_law_any_word" (defArgs s_l_any_word) (defBody s_l_any_word) (defScope s_l_any_word) .none kV22 dc22 pm22 an22 cd22 ct22
  d_l_any_word := ⟨fun_mk (st := s_l_any_word) l22 c22 k22, PySem.W.mg_of X G a22, (fun_mk (st := s_l_any_word) l22 c22 k22).binds (ps := p_l_any_word) fun _ _ _ _ _ _ us hl => match us, hl with | [_, _], _ => rfl⟩
  a_l_op := f23
  f_l_op := PySem.W.fnOf "_law_op" "_law_op" (defArgs s_l_op) (defBody s_l_op) (defScope s_l_op) .none kV23 dc23 pm23 an23 cd23 ct23
  d_l_op := ⟨fun_mk (st := s_l_op) l23 c23 k23, PySem.W.mg_of X G a23, (fun_mk (st := s_l_op) l23 c23 k23).binds (ps := p_l_op) fun _ _ _ _ _ _ us hl => match us, hl with | [_, _, _], _ => rfl⟩
  a_l_made := f24
  f_l_made := PySem.W.fnOf "_law_made" "_law_made" (defArgs s_l_made) (defBody s_l_made) (defScope s_l_made) .none kV24 dc24 pm24 an24 cd24 ct24
  d_l_made := ⟨fun_mk (st := s_l_made) l24 c24 k24, PySem.W.mg_of X G a24, (fun_mk (st := s_l_made) l24 c24 k24).binds (ps := p_l_made) fun _ _ _ _ _ _ us hl => match us, hl with | [_], _ => rfl⟩
  a_l_code := f25
  f_l_code := PySem.W.fnOf "_law_code" "_law_code" (defArgs s_l_code) (defBody s_l_code) (defScope s_l_code) .none kV25 dc25 pm25 an25 cd25 ct25
  d_l_code := ⟨fun_mk (st := s_l_code) l25 c25 k25, PySem.W.mg_of X G a25, (fun_mk (st := s_l_code) l25 c25 k25).binds (ps := p_l_code) fun _ _ _ _ _ _ us hl => match us, hl with | [_, _, _, _], _ => rfl⟩
  a_l_bad_op := f26
  f_l_bad_op := PySem.W.fnOf "_law_bad_op" "_law_bad_op" (defArgs s_l_bad_op) (defBody s_l_bad_op) (defScope s_l_bad_op) .none kV26 dc26 pm26 an26 cd26 ct26
  d_l_bad_op := ⟨fun_mk (st := s_l_bad_op) l26 c26 k26, PySem.W.mg_of X G a26, (fun_mk (st := s_l_bad_op) l26 c26 k26).binds (ps := p_l_bad_op) fun _ _ _ _ _ _ us hl => match us, hl with | [_, _, _], _ => rfl⟩
  a_l_bad := f27
  f_l_bad := PySem.W.fnOf "_law_bad" "_law_bad" (defArgs s_l_bad) (defBody s_l_bad) (defScope s_l_bad) .none kV27 dc27 pm27 an27 cd27 ct27
  d_l_bad := ⟨fun_mk (st := s_l_bad) l27 c27 k27, PySem.W.mg_of X G a27, (fun_mk (st := s_l_bad) l27 c27 k27).binds (ps := p_l_bad) fun _ _ _ _ _ _ us hl => match us, hl with | [_, _], _ => rfl⟩
  a_law := f28
  f_law := PySem.W.fnOf "law" "law" (defArgs s_law) (defBody s_law) (defScope s_law) .none kV28 dc28 pm28 an28 cd28 ct28
  d_law := ⟨fun_mk (st := s_law) l28 c28 k28, PySem.W.mg_of X G a28, (fun_mk (st := s_law) l28 c28 k28).binds (ps := p_law) fun _ _ _ _ _ _ us hl => match us, hl with | [_], _ => rfl⟩
  z_all := PySem.W.mg_none_of X G z_all
  z_bool := PySem.W.mg_none_of X G z_bool
  z_int := PySem.W.mg_none_of X G z_int
  z_isinstance := PySem.W.mg_none_of X G z_isinstance
  z_len := PySem.W.mg_none_of X G z_len
  z_list := PySem.W.mg_none_of X G z_list
  z_range := PySem.W.mg_none_of X G z_range
  z_str := PySem.W.mg_none_of X G z_str
  z_sum := PySem.W.mg_none_of X G z_sum
  z_tuple := PySem.W.mg_none_of X G z_tuple
  c_BASICS := ⟨_, .ref b_BASICS, PySem.W.mg_of X G n_BASICS, rfl, fun _ _ => .tup (vs := [.str "plus", .str "minus", .str "times", .str "less", .str "same", .str "do", .str "dip", .str "if", .str "while", .str "repeat", .str "join", .str "wrap", .str "put", .str "part", .str "each"]) (.inr ⟨_, _, _, q_BASICS, rfl, rfl, by simp [sizeLine_eq], (.cons ⟨_, rfl⟩ (.cons ⟨_, rfl⟩ (.cons ⟨_, rfl⟩ (.cons ⟨_, rfl⟩ (.cons ⟨_, rfl⟩ (.cons ⟨_, rfl⟩ (.cons ⟨_, rfl⟩ (.cons ⟨_, rfl⟩ (.cons ⟨_, rfl⟩ (.cons ⟨_, rfl⟩ (.cons ⟨_, rfl⟩ (.cons ⟨_, rfl⟩ (.cons ⟨_, rfl⟩ (.cons ⟨_, rfl⟩ (.cons ⟨_, rfl⟩ .nil)))))))))))))))⟩) (.cons (.str _) (.cons (.str _) (.cons (.str _) (.cons (.str _) (.cons (.str _) (.cons (.str _) (.cons (.str _) (.cons (.str _) (.cons (.str _) (.cons (.str _) (.cons (.str _) (.cons (.str _) (.cons (.str _) (.cons (.str _) (.cons (.str _) .nil)))))))))))))))⟩
  c_LETTERS := ⟨_, .str "abcdefgh", PySem.W.mg_of X G n_LETTERS, ⟨_, rfl⟩, fun _ _ => .str _⟩
  c_MOST_LEFT := ⟨_, .int 12, PySem.W.mg_of X G n_MOST_LEFT, ⟨_, rfl⟩, fun _ _ => .int _⟩
  c_MOST_SIGNS := ⟨_, .int 8, PySem.W.mg_of X G n_MOST_SIGNS, ⟨_, rfl⟩, fun _ _ => .int _⟩
  c_NUMBERS := ⟨_, .int 1000000000000, PySem.W.mg_of X G n_NUMBERS, ⟨_, rfl⟩, fun _ _ => .int _⟩
  c_PAIRS := ⟨_, .ref b_PAIRS, PySem.W.mg_of X G n_PAIRS, rfl, fun _ _ => .tup (vs := [.str "plus", .str "minus", .str "times", .str "less", .str "same", .str "put", .str "join"]) (.inr ⟨_, _, _, q_PAIRS, rfl, rfl, by simp [sizeLine_eq], (.cons ⟨_, rfl⟩ (.cons ⟨_, rfl⟩ (.cons ⟨_, rfl⟩ (.cons ⟨_, rfl⟩ (.cons ⟨_, rfl⟩ (.cons ⟨_, rfl⟩ (.cons ⟨_, rfl⟩ .nil)))))))⟩) (.cons (.str _) (.cons (.str _) (.cons (.str _) (.cons (.str _) (.cons (.str _) (.cons (.str _) (.cons (.str _) .nil)))))))⟩
  c_SMALL := ⟨_, .str "abcdefghijklmnopqrstuvwxyz", PySem.W.mg_of X G n_SMALL, ⟨_, rfl⟩, fun _ _ => .str _⟩
def spLaw (K : PySem.W.Frag) : Sp := fun vs H Q _ => ∃ (a : Addr) (ns : List Int), vs = [.ref a] ∧ Only H ∧ SqL K H a (ns.map V.int) ∧ ns.length ≤ 63 ∧ ∀ H', Q (.bl true) H'
theorem law_sp {K : PySem.W.Frag} {mg : Str → Option Value} {G : List D → M D} (hG : ∀ ns : List Int, ns.length ≤ 63 → ∃ S', G [.fl (ns.map .int)] [] = .ok (.bl true) S') (vs : List V) (H : Hp) (Q : VK) (E : XK) (h : spLaw K vs H Q E) : spD K mg 1 G vs H Q E := by
  obtain ⟨a, ns, rfl, hO, hS, hl, k⟩ := h
  obtain ⟨S', hS'⟩ := hG ns hl
  refine ⟨⟨[], []⟩, [], [.fl (ns.map .int)], rfl, .cons (.fl (vs := ns.map V.int) ?_ (RDs.of_ints ns)) .nil, ⟨rfl, List.nodup_nil, fun i a m h => by simp at h, fun a h => by simp at h, fun a h => by simp at h⟩, ?_⟩
  · rcases hS with (hS | ⟨o, hS⟩) | hS
    · rcases hO a with z | ⟨o, xs, z⟩ <;> rw [hS] at z <;> cases z
    · exact .inl ⟨o, hS⟩
    · exact .inr hS
  · rw [hS']
    intro μ' H' _ _ v rv
    cases rv
    exact k H'
theorem all_mk {l : PySem.W.OpenLaw} {w : World} {K : PySem.W.Frag} {h : Heap} {mg : Str → Option Value} {fa : Addr} (fu n : Nat) (hG : ∀ ns : List Int, ns.length ≤ 63 → ∃ S', den fu n i_law [.fl (ns.map .int)] [] = .ok (.bl true) S') (X : K.In h) (G : h.Ns mainGlobals mg) (hfa : mg "law" = some (.ref fa))
    {f1 : Addr} {od1 an1 : Option Addr} {sl1 : Array (Option Value)} {oc1 kV1 dc1 pm1 cd1 ct1 : Value}
    {f2 : Addr} {od2 an2 : Option Addr} {sl2 : Array (Option Value)} {oc2 kV2 dc2 pm2 cd2 ct2 : Value}
    {f3 : Addr} {od3 an3 : Option Addr} {sl3 : Array (Option Value)} {oc3 kV3 dc3 pm3 cd3 ct3 : Value}
    {f4 : Addr} {od4 an4 : Option Addr} {sl4 : Array (Option Value)} {oc4 kV4 dc4 pm4 cd4 ct4 : Value}
    {f5 : Addr} {od5 an5 : Option Addr} {sl5 : Array (Option Value)} {oc5 kV5 dc5 pm5 cd5 ct5 : Value}
    {f6 : Addr} {od6 an6 : Option Addr} {sl6 : Array (Option Value)} {oc6 kV6 dc6 pm6 cd6 ct6 : Value}
    {f7 : Addr} {od7 an7 : Option Addr} {sl7 : Array (Option Value)} {oc7 kV7 dc7 pm7 cd7 ct7 : Value}
    {f8 : Addr} {od8 an8 : Option Addr} {sl8 : Array (Option Value)} {oc8 kV8 dc8 pm8 cd8 ct8 : Value}
    {f9 : Addr} {od9 an9 : Option Addr} {sl9 : Array (Option Value)} {oc9 kV9 dc9 pm9 cd9 ct9 : Value}
    {f10 : Addr} {od10 an10 : Option Addr} {sl10 : Array (Option Value)} {oc10 kV10 dc10 pm10 cd10 ct10 : Value}
    {f11 : Addr} {od11 an11 : Option Addr} {sl11 : Array (Option Value)} {oc11 kV11 dc11 pm11 cd11 ct11 : Value}
    {f12 : Addr} {od12 an12 : Option Addr} {sl12 : Array (Option Value)} {oc12 kV12 dc12 pm12 cd12 ct12 : Value}
    {f13 : Addr} {od13 an13 : Option Addr} {sl13 : Array (Option Value)} {oc13 kV13 dc13 pm13 cd13 ct13 : Value}
    {f14 : Addr} {od14 an14 : Option Addr} {sl14 : Array (Option Value)} {oc14 kV14 dc14 pm14 cd14 ct14 : Value}
    {f15 : Addr} {od15 an15 : Option Addr} {sl15 : Array (Option Value)} {oc15 kV15 dc15 pm15 cd15 ct15 : Value}
    {f16 : Addr} {od16 an16 : Option Addr} {sl16 : Array (Option Value)} {oc16 kV16 dc16 pm16 cd16 ct16 : Value}
    {f17 : Addr} {od17 an17 : Option Addr} {sl17 : Array (Option Value)} {oc17 kV17 dc17 pm17 cd17 ct17 : Value}
    {f18 : Addr} {od18 an18 : Option Addr} {sl18 : Array (Option Value)} {oc18 kV18 dc18 pm18 cd18 ct18 : Value}
    {f19 : Addr} {od19 an19 : Option Addr} {sl19 : Array (Option Value)} {oc19 kV19 dc19 pm19 cd19 ct19 : Value}
    {f20 : Addr} {od20 an20 : Option Addr} {sl20 : Array (Option Value)} {oc20 kV20 dc20 pm20 cd20 ct20 : Value}
    {f21 : Addr} {od21 an21 : Option Addr} {sl21 : Array (Option Value)} {oc21 kV21 dc21 pm21 cd21 ct21 : Value}
    {f22 : Addr} {od22 an22 : Option Addr} {sl22 : Array (Option Value)} {oc22 kV22 dc22 pm22 cd22 ct22 : Value}
    {f23 : Addr} {od23 an23 : Option Addr} {sl23 : Array (Option Value)} {oc23 kV23 dc23 pm23 cd23 ct23 : Value}
    {f24 : Addr} {od24 an24 : Option Addr} {sl24 : Array (Option Value)} {oc24 kV24 dc24 pm24 cd24 ct24 : Value}
    {f25 : Addr} {od25 an25 : Option Addr} {sl25 : Array (Option Value)} {oc25 kV25 dc25 pm25 cd25 ct25 : Value}
    {f26 : Addr} {od26 an26 : Option Addr} {sl26 : Array (Option Value)} {oc26 kV26 dc26 pm26 cd26 ct26 : Value}
    {f27 : Addr} {od27 an27 : Option Addr} {sl27 : Array (Option Value)} {oc27 kV27 dc27 pm27 cd27 ct27 : Value}
    {f28 : Addr} {od28 an28 : Option Addr} {sl28 : Array (Option Value)} {oc28 kV28 dc28 pm28 cd28 ct28 : Value}
    {b_BASICS : Addr} {t_BASICS0 t_BASICS1 t_BASICS2 t_BASICS3 t_BASICS4 t_BASICS5 t_BASICS6 t_BASICS7 t_BASICS8 t_BASICS9 t_BASICS10 t_BASICS11 t_BASICS12 t_BASICS13 t_BASICS14 : Tok} {m_BASICS : Nat} {dd_BASICS : Option Addr} {sl_BASICS : Array (Option Value)}
    {t_LETTERS : Tok}
    {t_MOST_LEFT : Tok}
    {t_MOST_SIGNS : Tok}
    {t_NUMBERS : Tok}
    {b_PAIRS : Addr} {t_PAIRS0 t_PAIRS1 t_PAIRS2 t_PAIRS3 t_PAIRS4 t_PAIRS5 t_PAIRS6 : Tok} {m_PAIRS : Nat} {dd_PAIRS : Option Addr} {sl_PAIRS : Array (Option Value)}
    {t_SMALL : Tok}
    (a1 : PySem.W.nsIn K mainGlobals "is_shuffle" = some (some (.ref f1))) (l1 : K.lookup f1 = some ⟨oc1, od1, .func (PySem.W.fnOf "is_shuffle" "is_shuffle" (defArgs s_is_shuffle) (defBody s_is_shuffle) (defScope s_is_shuffle) .none kV1 dc1 pm1 an1 cd1 ct1), sl1⟩) (c1 : PySem.W.codeIn K cd1 "is_shuffle" = true) (k1 : PySem.W.keepIn K (.ref f1) = true)
    (a2 : PySem.W.nsIn K mainGlobals "is_number" = some (some (.ref f2))) (l2 : K.lookup f2 = some ⟨oc2, od2, .func (PySem.W.fnOf "is_number" "is_number" (defArgs s_is_number) (defBody s_is_number) (defScope s_is_number) .none kV2 dc2 pm2 an2 cd2 ct2), sl2⟩) (c2 : PySem.W.codeIn K cd2 "is_number" = true) (k2 : PySem.W.keepIn K (.ref f2) = true)
    (a3 : PySem.W.nsIn K mainGlobals "is_name" = some (some (.ref f3))) (l3 : K.lookup f3 = some ⟨oc3, od3, .func (PySem.W.fnOf "is_name" "is_name" (defArgs s_is_name) (defBody s_is_name) (defScope s_is_name) .none kV3 dc3 pm3 an3 cd3 ct3), sl3⟩) (c3 : PySem.W.codeIn K cd3 "is_name" = true) (k3 : PySem.W.keepIn K (.ref f3) = true)
    (a4 : PySem.W.nsIn K mainGlobals "is_thing" = some (some (.ref f4))) (l4 : K.lookup f4 = some ⟨oc4, od4, .func (PySem.W.fnOf "is_thing" "is_thing" (defArgs s_is_thing) (defBody s_is_thing) (defScope s_is_thing) .none kV4 dc4 pm4 an4 cd4 ct4), sl4⟩) (c4 : PySem.W.codeIn K cd4 "is_thing" = true) (k4 : PySem.W.keepIn K (.ref f4) = true)
    (a5 : PySem.W.nsIn K mainGlobals "is_word" = some (some (.ref f5))) (l5 : K.lookup f5 = some ⟨oc5, od5, .func (PySem.W.fnOf "is_word" "is_word" (defArgs s_is_word) (defBody s_is_word) (defScope s_is_word) .none kV5 dc5 pm5 an5 cd5 ct5), sl5⟩) (c5 : PySem.W.codeIn K cd5 "is_word" = true) (k5 : PySem.W.keepIn K (.ref f5) = true)
    (a6 : PySem.W.nsIn K mainGlobals "is_row" = some (some (.ref f6))) (l6 : K.lookup f6 = some ⟨oc6, od6, .func (PySem.W.fnOf "is_row" "is_row" (defArgs s_is_row) (defBody s_is_row) (defScope s_is_row) .none kV6 dc6 pm6 an6 cd6 ct6), sl6⟩) (c6 : PySem.W.codeIn K cd6 "is_row" = true) (k6 : PySem.W.keepIn K (.ref f6) = true)
    (a7 : PySem.W.nsIn K mainGlobals "is_stack" = some (some (.ref f7))) (l7 : K.lookup f7 = some ⟨oc7, od7, .func (PySem.W.fnOf "is_stack" "is_stack" (defArgs s_is_stack) (defBody s_is_stack) (defScope s_is_stack) .none kV7 dc7 pm7 an7 cd7 ct7), sl7⟩) (c7 : PySem.W.codeIn K cd7 "is_stack" = true) (k7 : PySem.W.keepIn K (.ref f7) = true)
    (a8 : PySem.W.nsIn K mainGlobals "is_whole" = some (some (.ref f8))) (l8 : K.lookup f8 = some ⟨oc8, od8, .func (PySem.W.fnOf "is_whole" "is_whole" (defArgs s_is_whole) (defBody s_is_whole) (defScope s_is_whole) .none kV8 dc8 pm8 an8 cd8 ct8), sl8⟩) (c8 : PySem.W.codeIn K cd8 "is_whole" = true) (k8 : PySem.W.keepIn K (.ref f8) = true)
    (a9 : PySem.W.nsIn K mainGlobals "are_registers" = some (some (.ref f9))) (l9 : K.lookup f9 = some ⟨oc9, od9, .func (PySem.W.fnOf "are_registers" "are_registers" (defArgs s_are_registers) (defBody s_are_registers) (defScope s_are_registers) .none kV9 dc9 pm9 an9 cd9 ct9), sl9⟩) (c9 : PySem.W.codeIn K cd9 "are_registers" = true) (k9 : PySem.W.keepIn K (.ref f9) = true)
    (a10 : PySem.W.nsIn K mainGlobals "made_by" = some (some (.ref f10))) (l10 : K.lookup f10 = some ⟨oc10, od10, .func (PySem.W.fnOf "made_by" "made_by" (defArgs s_made_by) (defBody s_made_by) (defScope s_made_by) .none kV10 dc10 pm10 an10 cd10 ct10), sl10⟩) (c10 : PySem.W.codeIn K cd10 "made_by" = true) (k10 : PySem.W.keepIn K (.ref f10) = true)
    (a11 : PySem.W.nsIn K mainGlobals "is_choice" = some (some (.ref f11))) (l11 : K.lookup f11 = some ⟨oc11, od11, .func (PySem.W.fnOf "is_choice" "is_choice" (defArgs s_is_choice) (defBody s_is_choice) (defScope s_is_choice) .none kV11 dc11 pm11 an11 cd11 ct11), sl11⟩) (c11 : PySem.W.codeIn K cd11 "is_choice" = true) (k11 : PySem.W.keepIn K (.ref f11) = true)
    (a12 : PySem.W.nsIn K mainGlobals "is_op" = some (some (.ref f12))) (l12 : K.lookup f12 = some ⟨oc12, od12, .func (PySem.W.fnOf "is_op" "is_op" (defArgs s_is_op) (defBody s_is_op) (defScope s_is_op) .none kV12 dc12 pm12 an12 cd12 ct12), sl12⟩) (c12 : PySem.W.codeIn K cd12 "is_op" = true) (k12 : PySem.W.keepIn K (.ref f12) = true)
    (a13 : PySem.W.nsIn K mainGlobals "is_code" = some (some (.ref f13))) (l13 : K.lookup f13 = some ⟨oc13, od13, .func (PySem.W.fnOf "is_code" "is_code" (defArgs s_is_code) (defBody s_is_code) (defScope s_is_code) .none kV13 dc13 pm13 an13 cd13 ct13), sl13⟩) (c13 : PySem.W.codeIn K cd13 "is_code" = true) (k13 : PySem.W.keepIn K (.ref f13) = true)
    (a14 : PySem.W.nsIn K mainGlobals "_law_mixed" = some (some (.ref f14))) (l14 : K.lookup f14 = some ⟨oc14, od14, .func (PySem.W.fnOf "_law_mixed" "_law_mixed" (defArgs s_l_mixed) (defBody s_l_mixed) (defScope s_l_mixed) .none kV14 dc14 pm14 an14 cd14 ct14), sl14⟩) (c14 : PySem.W.codeIn K cd14 "_law_mixed" = true) (k14 : PySem.W.keepIn K (.ref f14) = true)
    (a15 : PySem.W.nsIn K mainGlobals "_law_deck" = some (some (.ref f15))) (l15 : K.lookup f15 = some ⟨oc15, od15, .func (PySem.W.fnOf "_law_deck" "_law_deck" (defArgs s_l_deck) (defBody s_l_deck) (defScope s_l_deck) .none kV15 dc15 pm15 an15 cd15 ct15), sl15⟩) (c15 : PySem.W.codeIn K cd15 "_law_deck" = true) (k15 : PySem.W.keepIn K (.ref f15) = true)
    (a16 : PySem.W.nsIn K mainGlobals "_law_draw" = some (some (.ref f16))) (l16 : K.lookup f16 = some ⟨oc16, od16, .func (PySem.W.fnOf "_law_draw" "_law_draw" (defArgs s_l_draw) (defBody s_l_draw) (defScope s_l_draw) .none kV16 dc16 pm16 an16 cd16 ct16), sl16⟩) (c16 : PySem.W.codeIn K cd16 "_law_draw" = true) (k16 : PySem.W.keepIn K (.ref f16) = true)
    (a17 : PySem.W.nsIn K mainGlobals "_law_size" = some (some (.ref f17))) (l17 : K.lookup f17 = some ⟨oc17, od17, .func (PySem.W.fnOf "_law_size" "_law_size" (defArgs s_l_size) (defBody s_l_size) (defScope s_l_size) .none kV17 dc17 pm17 an17 cd17 ct17), sl17⟩) (c17 : PySem.W.codeIn K cd17 "_law_size" = true) (k17 : PySem.W.keepIn K (.ref f17) = true)
    (a18 : PySem.W.nsIn K mainGlobals "_law_cut" = some (some (.ref f18))) (l18 : K.lookup f18 = some ⟨oc18, od18, .func (PySem.W.fnOf "_law_cut" "_law_cut" (defArgs s_l_cut) (defBody s_l_cut) (defScope s_l_cut) .none kV18 dc18 pm18 an18 cd18 ct18), sl18⟩) (c18 : PySem.W.codeIn K cd18 "_law_cut" = true) (k18 : PySem.W.keepIn K (.ref f18) = true)
    (a19 : PySem.W.nsIn K mainGlobals "_law_number" = some (some (.ref f19))) (l19 : K.lookup f19 = some ⟨oc19, od19, .func (PySem.W.fnOf "_law_number" "_law_number" (defArgs s_l_number) (defBody s_l_number) (defScope s_l_number) .none kV19 dc19 pm19 an19 cd19 ct19), sl19⟩) (c19 : PySem.W.codeIn K cd19 "_law_number" = true) (k19 : PySem.W.keepIn K (.ref f19) = true)
    (a20 : PySem.W.nsIn K mainGlobals "_law_thing" = some (some (.ref f20))) (l20 : K.lookup f20 = some ⟨oc20, od20, .func (PySem.W.fnOf "_law_thing" "_law_thing" (defArgs s_l_thing) (defBody s_l_thing) (defScope s_l_thing) .none kV20 dc20 pm20 an20 cd20 ct20), sl20⟩) (c20 : PySem.W.codeIn K cd20 "_law_thing" = true) (k20 : PySem.W.keepIn K (.ref f20) = true)
    (a21 : PySem.W.nsIn K mainGlobals "_law_shuffle" = some (some (.ref f21))) (l21 : K.lookup f21 = some ⟨oc21, od21, .func (PySem.W.fnOf "_law_shuffle" "_law_shuffle" (defArgs s_l_shuffle) (defBody s_l_shuffle) (defScope s_l_shuffle) .none kV21 dc21 pm21 an21 cd21 ct21), sl21⟩) (c21 : PySem.W.codeIn K cd21 "_law_shuffle" = true) (k21 : PySem.W.keepIn K (.ref f21) = true)
    (a22 : PySem.W.nsIn K mainGlobals "_law_any_word" = some (some (.ref f22))) (l22 : K.lookup f22 = some ⟨oc22, od22, .func (PySem.W.fnOf "_law_any_word" "_law_any_word" (defArgs s_l_any_word) (defBody s_l_any_word) (defScope s_l_any_word) .none kV22 dc22 pm22 an22 cd22 ct22), sl22⟩) (c22 : PySem.W.codeIn K cd22 "_law_any_word" = true) (k22 : PySem.W.keepIn K (.ref f22) = true)
    (a23 : PySem.W.nsIn K mainGlobals "_law_op" = some (some (.ref f23))) (l23 : K.lookup f23 = some ⟨oc23, od23, .func (PySem.W.fnOf "_law_op" "_law_op" (defArgs s_l_op) (defBody s_l_op) (defScope s_l_op) .none kV23 dc23 pm23 an23 cd23 ct23), sl23⟩) (c23 : PySem.W.codeIn K cd23 "_law_op" = true) (k23 : PySem.W.keepIn K (.ref f23) = true)
    (a24 : PySem.W.nsIn K mainGlobals "_law_made" = some (some (.ref f24))) (l24 : K.lookup f24 = some ⟨oc24, od24, .func (PySem.W.fnOf "_law_made" "_law_made" (defArgs s_l_made) (defBody s_l_made) (defScope s_l_made) .none kV24 dc24 pm24 an24 cd24 ct24), sl24⟩) (c24 : PySem.W.codeIn K cd24 "_law_made" = true) (k24 : PySem.W.keepIn K (.ref f24) = true)
    (a25 : PySem.W.nsIn K mainGlobals "_law_code" = some (some (.ref f25))) (l25 : K.lookup f25 = some ⟨oc25, od25, .func (PySem.W.fnOf "_law_code" "_law_code" (defArgs s_l_code) (defBody s_l_code) (defScope s_l_code) .none kV25 dc25 pm25 an25 cd25 ct25), sl25⟩) (c25 : PySem.W.codeIn K cd25 "_law_code" = true) (k25 : PySem.W.keepIn K (.ref f25) = true)
    (a26 : PySem.W.nsIn K mainGlobals "_law_bad_op" = some (some (.ref f26))) (l26 : K.lookup f26 = some ⟨oc26, od26, .func (PySem.W.fnOf "_law_bad_op" "_law_bad_op" (defArgs s_l_bad_op) (defBody s_l_bad_op) (defScope s_l_bad_op) .none kV26 dc26 pm26 an26 cd26 ct26), sl26⟩) (c26 : PySem.W.codeIn K cd26 "_law_bad_op" = true) (k26 : PySem.W.keepIn K (.ref f26) = true)
    (a27 : PySem.W.nsIn K mainGlobals "_law_bad" = some (some (.ref f27))) (l27 : K.lookup f27 = some ⟨oc27, od27, .func (PySem.W.fnOf "_law_bad" "_law_bad" (defArgs s_l_bad) (defBody s_l_bad) (defScope s_l_bad) .none kV27 dc27 pm27 an27 cd27 ct27), sl27⟩) (c27 : PySem.W.codeIn K cd27 "_law_bad" = true) (k27 : PySem.W.keepIn K (.ref f27) = true)
    (a28 : PySem.W.nsIn K mainGlobals "law" = some (some (.ref f28))) (l28 : K.lookup f28 = some ⟨oc28, od28, .func (PySem.W.fnOf "law" "law" (defArgs s_law) (defBody s_law) (defScope s_law) .none kV28 dc28 pm28 an28 cd28 ct28), sl28⟩) (c28 : PySem.W.codeIn K cd28 "law" = true) (k28 : PySem.W.keepIn K (.ref f28) = true)
    (z_all : PySem.W.nsIn K mainGlobals "all" = some none)
    (z_bool : PySem.W.nsIn K mainGlobals "bool" = some none)
    (z_int : PySem.W.nsIn K mainGlobals "int" = some none)
    (z_isinstance : PySem.W.nsIn K mainGlobals "isinstance" = some none)
    (z_len : PySem.W.nsIn K mainGlobals "len" = some none)
    (z_list : PySem.W.nsIn K mainGlobals "list" = some none)
    (z_range : PySem.W.nsIn K mainGlobals "range" = some none)
    (z_str : PySem.W.nsIn K mainGlobals "str" = some none)
    (z_sum : PySem.W.nsIn K mainGlobals "sum" = some none)
    (z_tuple : PySem.W.nsIn K mainGlobals "tuple" = some none)
    (n_BASICS : PySem.W.nsIn K mainGlobals "BASICS" = some (some (.ref b_BASICS))) (q_BASICS : K.lookup b_BASICS = some ⟨.type "tuple", dd_BASICS, .seq #[.str "plus" t_BASICS0, .str "minus" t_BASICS1, .str "times" t_BASICS2, .str "less" t_BASICS3, .str "same" t_BASICS4, .str "do" t_BASICS5, .str "dip" t_BASICS6, .str "if" t_BASICS7, .str "while" t_BASICS8, .str "repeat" t_BASICS9, .str "join" t_BASICS10, .str "wrap" t_BASICS11, .str "put" t_BASICS12, .str "part" t_BASICS13, .str "each" t_BASICS14] m_BASICS, sl_BASICS⟩)
    (n_LETTERS : PySem.W.nsIn K mainGlobals "LETTERS" = some (some (.str "abcdefgh" t_LETTERS)))
    (n_MOST_LEFT : PySem.W.nsIn K mainGlobals "MOST_LEFT" = some (some (.int 12 t_MOST_LEFT)))
    (n_MOST_SIGNS : PySem.W.nsIn K mainGlobals "MOST_SIGNS" = some (some (.int 8 t_MOST_SIGNS)))
    (n_NUMBERS : PySem.W.nsIn K mainGlobals "NUMBERS" = some (some (.int 1000000000000 t_NUMBERS)))
    (n_PAIRS : PySem.W.nsIn K mainGlobals "PAIRS" = some (some (.ref b_PAIRS))) (q_PAIRS : K.lookup b_PAIRS = some ⟨.type "tuple", dd_PAIRS, .seq #[.str "plus" t_PAIRS0, .str "minus" t_PAIRS1, .str "times" t_PAIRS2, .str "less" t_PAIRS3, .str "same" t_PAIRS4, .str "put" t_PAIRS5, .str "join" t_PAIRS6] m_PAIRS, sl_PAIRS⟩)
    (n_SMALL : PySem.W.nsIn K mainGlobals "SMALL" = some (some (.str "abcdefghijklmnopqrstuvwxyz" t_SMALL))) :
    ∃ fd : FuncData, (∀ (s : Shared) (v : Value), BindsTo s fd ⟨[v], []⟩ [("_law_script", v)]) ∧ ∀ base : Heap, K.In base → base.Ns mainGlobals mg → FnOk l.prog w K mg base (L2.CX l.prog w) n fa fd ["_law_script"] (spLaw K) := by
  have e := hfa.symm.trans (PySem.W.mg_of X G a28)
  cases e
  exact ⟨PySem.W.fnOf "law" "law" (defArgs s_law) (defBody s_law) (defScope s_law) .none kV28 dc28 pm28 an28 cd28 ct28, fun s v => .of_eq rfl, fun base _ _ => (cal (T := txMk X G a1 l1 c1 k1 a2 l2 c2 k2 a3 l3 c3 k3 a4 l4 c4 k4 a5 l5 c5 k5 a6 l6 c6 k6 a7 l7 c7 k7 a8 l8 c8 k8 a9 l9 c9 k9 a10 l10 c10 k10 a11 l11 c11 k11 a12 l12 c12 k12 a13 l13 c13 k13 a14 l14 c14 k14 a15 l15 c15 k15 a16 l16 c16 k16 a17 l17 c17 k17 a18 l18 c18 k18 a19 l19 c19 k19 a20 l20 c20 k20 a21 l21 c21 k21 a22 l22 c22 k22 a23 l23 c23 k23 a24 l24 c24 k24 a25 l25 c25 k25 a26 l26 c26 k26 a27 l27 c27 k27 a28 l28 c28 k28 z_all z_bool z_int z_isinstance z_len z_list z_range z_str z_sum z_tuple n_BASICS q_BASICS n_LETTERS n_MOST_LEFT n_MOST_SIGNS n_NUMBERS n_PAIRS q_PAIRS n_SMALL) fu n).law.imp (law_sp hG)⟩
end K63

namespace K63
open PySem L2 DL
variable {fu n : Nat} {S : Sto} {F : D → Sto → Prop} {E : Exc → Sto → Prop}
theorem isiN_ss : isiN "str" "str" = true := by decide
theorem isiN_tt : isiN "tuple" "tuple" = true := by decide
theorem isiN_ii : isiN "int" "int" = true := by decide
theorem isiN_ib : isiN "int" "bool" = false := by decide
theorem isiN_bi : isiN "bool" "int" = true := by decide
theorem isiN_bb : isiN "bool" "bool" = true := by decide
theorem isiN_ts : isiN "tuple" "str" = false := by decide
theorem isiN_st : isiN "str" "tuple" = false := by decide
theorem isiN_lt : isiN "list" "tuple" = false := by decide
theorem isiN_nt : isiN "NoneType" "tuple" = false := by decide
theorem isiN_ns : isiN "NoneType" "str" = false := by decide
theorem isiN_ni : isiN "NoneType" "int" = false := by decide
theorem isiN_it : isiN "int" "tuple" = false := by decide
theorem isiN_si : isiN "str" "int" = false := by decide
theorem isiN_ti : isiN "tuple" "int" = false := by decide
theorem isiN_bt : isiN "bool" "tuple" = false := by decide
/-! the program -/
theorem number_ok {i : Int} (hS : WF S) (hF : F (.bl (decide (0 ≤ i ∧ i < 1000000000000))) S) : wp (den fu (n + 1) i_is_number [.int i] S) F E := by
  show wp (runDef false 1 (b_is_number fu (den fu n)) _ _) _ _
  simp only [b_is_number, k_NUMBERS, isiN_ii, isiN_ib, fin_bl hS, wp_ok, wp_ret, wp_stuck, wp_bad, wp_bnd, wp_if, wp_fif, wps_ok_nx, wps_ok_rt, wps_ok_bk, wps_ok_ct, wps_ok_xc, wps_bad, wps_lft, wps_seq, wps_nil, wps_ret, wps_expr, wps_asg, wps_if, wp_run, wps_for, wps_while, wp_comp, wp_var, wp_C, wp_bin, wp_un, wp_T, wp_Tb, wp_asBl, wp_truthBl, wp_bAnd, wp_bOr, wp_bNot, wp_eIf, wp_eAnd, wp_eOr, wp_eNot, blCase_bl, wp_chain, wp_aNil, wp_aCons, wp_tup, wp_lst, wp_lstM, wp_call, wp_cl1, wp_cl2, wp_cl3, wp_cl4, wp_cl5, wp_meth, wp_isi, wp_oNone, wp_oSome, wp_sl, wp_it, wp_range1, wp_range2, wp_bYes, gEq_str, gNe_str, gEq_int, gNe_int, gEq_bl, gNe_bl, gIs_bl, gIsNot_bl, gAdd_int, gSub_int, gC_int, gI_int, gAdd_str, gAdd_tup, gAdd_lst, gNeg_int, gIx_tup, gIx_lst, gLen_tup, gLen_lst, gLen_str, gInt_int, gInt_bl, gTuple_lst, gTuple_tup, gList_lst, gList_tup, gSl_tup, gSl_lst, gSl_fl, gSl_str, srcL_tup, srcL_lst, srcL_fl, srcL_str, srcR1_int, typN, startR, List.map_cons, List.map_nil, List.length_cons, List.length_nil, Nat.reduceAdd, Nat.reduceSub, Nat.zero_add, Nat.sub_self, Nat.sub_zero, List.replicate_zero, List.replicate_succ, List.cons_append, List.nil_append, List.append_nil, List.getElem?_cons_zero, List.getElem?_cons_succ, List.set_cons_zero, List.set_cons_succ, List.set_nil, List.getElem?_nil, Option.some.injEq, exists_eq_left', exists_eq_left, exists_eq_right, reduceCtorEq, false_and, and_false, true_and, and_true, exists_false, exists_const, wipeR, Nat.zero_le, String.reduceEq, D.int.injEq, D.str.injEq, D.bl.injEq, atI_0, atI_1, atI_2, atI_3, atI_4, beq_self_eq_true, not_true_eq_false, not_false_eq_true, Int.cast_ofNat_Int, Int.reduceEq, Int.reduceLE, Int.reduceLT, Int.reduceAdd, Int.reduceSub, Int.reduceMul, Int.reduceNeg, if_true, if_false, ite_true, ite_false, Bool.false_eq_true, if_neg, if_pos, decide_eq_true_eq, Bool.not_eq_true', decide_eq_false_iff_not, eq_self_iff_true, decide_true, decide_false, Bool.not_true, Bool.not_false]
  by_cases h : 0 ≤ i
  · rw [if_pos h]; simpa [h] using hF
  · rw [if_neg h]; simpa [h] using hF
def small : List Nat := [97, 98, 99, 100, 101, 102, 103, 104, 105, 106, 107, 108, 109, 110, 111, 112, 113, 114, 115, 116, 117, 118, 119, 120, 121, 122]
def basics : List Str := ["plus", "minus", "times", "less", "same", "do", "dip", "if", "while", "repeat", "join", "wrap", "put", "part", "each"]
theorem k_BASICS_eq : k_BASICS = .tup (basics.map .str) := rfl
theorem small_eq : (Str.ofString "abcdefghijklmnopqrstuvwxyz").cps.toList = small := by decide +kernel
/-- a comprehension over a text's signs that asks where they stand -/
theorem signs_in {ρ : Rho} {i : Nat} {z : Str} {l : List Nat} (hl : z.length ≤ sizeLine) {el : EvD} (hi : ∀ c S, wp (el ((wipeR ρ [i]).set i (some (.str ⟨#[c]⟩))) S) (fun d S' => d = .bl (decide (c ∈ l)) ∧ S' = S) nx) {FF : List D → Sto → Prop} (h : FF ((z.cps.toList.map fun c => decide (c ∈ l)).map D.bl) S) :
    wp (compM none (z.cps.toList.map fun c => D.str ⟨#[c]⟩) (gN i) bYes el (wipeR ρ [i]) (z.cps.toList.map fun c => D.str ⟨#[c]⟩) S) FF nx := by
  refine wp_compM (fun k ys S' => S' = S ∧ ys = ((z.cps.toList.take k).map fun c => decide (c ∈ l)).map D.bl) (fun _ _ _ _ => trivial) (fun k d ys S' hd hk => ?_) (fun ys S' hk => ?_) ⟨rfl, rfl⟩
  · obtain ⟨rfl, rfl⟩ := hk
    rw [List.getElem?_map, Option.map_eq_some_iff] at hd
    obtain ⟨c, hc, rfl⟩ := hd
    refine ⟨_, rfl, ?_⟩
    rw [wp_bYes, if_pos rfl]
    refine wp_mono (hi c S') (fun y S'' hy => ?_) (fun _ _ h => h)
    obtain ⟨rfl, rfl⟩ := hy
    refine ⟨rfl, ?_⟩
    rw [List.take_succ, hc]
    simp
  · obtain ⟨rfl, rfl⟩ := hk
    rw [List.length_map, List.take_length]
    exact h
theorem name_ok {z : Str} (hS : WF S) (hz : z.length ≤ sizeLine) (hF : ∀ b, F (.bl b) S) : wp (den fu (n + 1) i_is_name [.str z] S) F E := by
  show wp (runDef false 2 (b_is_name fu (den fu n)) _ _) _ _
  simp only [b_is_name, k_MOST_SIGNS, isiN_ss, k_BASICS_eq, gIn_strs (show iLst S (.tup (basics.map .str)) = some (basics.map .str) from rfl), hz, fin_bl hS, wp_ok, wp_ret, wp_stuck, wp_bad, wp_bnd, wp_if, wp_fif, wps_ok_nx, wps_ok_rt, wps_ok_bk, wps_ok_ct, wps_ok_xc, wps_bad, wps_lft, wps_seq, wps_nil, wps_ret, wps_expr, wps_asg, wps_if, wp_run, wps_for, wps_while, wp_comp, wp_var, wp_C, wp_bin, wp_un, wp_T, wp_Tb, wp_asBl, wp_truthBl, wp_bAnd, wp_bOr, wp_bNot, wp_eIf, wp_eAnd, wp_eOr, wp_eNot, blCase_bl, wp_chain, wp_aNil, wp_aCons, wp_tup, wp_lst, wp_lstM, wp_call, wp_cl1, wp_cl2, wp_cl3, wp_cl4, wp_cl5, wp_meth, wp_isi, wp_oNone, wp_oSome, wp_sl, wp_it, wp_range1, wp_range2, wp_bYes, gEq_str, gNe_str, gEq_int, gNe_int, gEq_bl, gNe_bl, gIs_bl, gIsNot_bl, gAdd_int, gSub_int, gC_int, gI_int, gAdd_str, gAdd_tup, gAdd_lst, gNeg_int, gIx_tup, gIx_lst, gLen_tup, gLen_lst, gLen_str, gInt_int, gInt_bl, gTuple_lst, gTuple_tup, gList_lst, gList_tup, gSl_tup, gSl_lst, gSl_fl, gSl_str, srcL_tup, srcL_lst, srcL_fl, srcL_str, srcR1_int, typN, startR, List.map_cons, List.map_nil, List.length_cons, List.length_nil, Nat.reduceAdd, Nat.reduceSub, Nat.zero_add, Nat.sub_self, Nat.sub_zero, List.replicate_zero, List.replicate_succ, List.cons_append, List.nil_append, List.append_nil, List.getElem?_cons_zero, List.getElem?_cons_succ, List.set_cons_zero, List.set_cons_succ, List.set_nil, List.getElem?_nil, Option.some.injEq, exists_eq_left', exists_eq_left, exists_eq_right, reduceCtorEq, false_and, and_false, true_and, and_true, exists_false, exists_const, wipeR, Nat.zero_le, String.reduceEq, D.int.injEq, D.str.injEq, D.bl.injEq, atI_0, atI_1, atI_2, atI_3, atI_4, beq_self_eq_true, not_true_eq_false, not_false_eq_true, Int.cast_ofNat_Int, Int.reduceEq, Int.reduceLE, Int.reduceLT, Int.reduceAdd, Int.reduceSub, Int.reduceMul, Int.reduceNeg, if_true, if_false, ite_true, ite_false, Bool.false_eq_true, if_neg, if_pos, decide_eq_true_eq, Bool.not_eq_true', decide_eq_false_iff_not, eq_self_iff_true, decide_true, decide_false, Bool.not_true, Bool.not_false]
  by_cases h1 : (1 : Int) ≤ z.length
  · rw [if_pos h1]
    by_cases h2 : (z.length : Int) ≤ 8
    · simp only [h2, Nat.zero_le, String.reduceEq, D.int.injEq, D.str.injEq, D.bl.injEq, atI_0, atI_1, atI_2, atI_3, atI_4, beq_self_eq_true, not_true_eq_false, not_false_eq_true, Int.cast_ofNat_Int, Int.reduceEq, Int.reduceLE, Int.reduceLT, Int.reduceAdd, Int.reduceSub, Int.reduceMul, Int.reduceNeg, if_true, if_false, ite_true, ite_false, Bool.false_eq_true, if_neg, if_pos, decide_eq_true_eq, Bool.not_eq_true', decide_eq_false_iff_not, eq_self_iff_true, decide_true, decide_false, Bool.not_true, Bool.not_false]
      by_cases h3 : z ∈ basics
      · rw [if_pos h3]; exact hF _
      · rw [if_neg h3]
        refine ⟨by rw [List.length_map, Array.length_toList]; exact hz, ?_⟩
        refine signs_in (ρ := [some (.str z), none]) hz (l := small) (fun c S => ?_) ?_
        · simp only [k_SMALL, gIn_sign, small_eq, wp_ok, wp_ret, wp_stuck, wp_bad, wp_bnd, wp_if, wp_fif, wps_ok_nx, wps_ok_rt, wps_ok_bk, wps_ok_ct, wps_ok_xc, wps_bad, wps_lft, wps_seq, wps_nil, wps_ret, wps_expr, wps_asg, wps_if, wp_run, wps_for, wps_while, wp_comp, wp_var, wp_C, wp_bin, wp_un, wp_T, wp_Tb, wp_asBl, wp_truthBl, wp_bAnd, wp_bOr, wp_bNot, wp_eIf, wp_eAnd, wp_eOr, wp_eNot, blCase_bl, wp_chain, wp_aNil, wp_aCons, wp_tup, wp_lst, wp_lstM, wp_call, wp_cl1, wp_cl2, wp_cl3, wp_cl4, wp_cl5, wp_meth, wp_isi, wp_oNone, wp_oSome, wp_sl, wp_it, wp_range1, wp_range2, wp_bYes, gEq_str, gNe_str, gEq_int, gNe_int, gEq_bl, gNe_bl, gIs_bl, gIsNot_bl, gAdd_int, gSub_int, gC_int, gI_int, gAdd_str, gAdd_tup, gAdd_lst, gNeg_int, gIx_tup, gIx_lst, gLen_tup, gLen_lst, gLen_str, gInt_int, gInt_bl, gTuple_lst, gTuple_tup, gList_lst, gList_tup, gSl_tup, gSl_lst, gSl_fl, gSl_str, srcL_tup, srcL_lst, srcL_fl, srcL_str, srcR1_int, typN, startR, List.map_cons, List.map_nil, List.length_cons, List.length_nil, Nat.reduceAdd, Nat.reduceSub, Nat.zero_add, Nat.sub_self, Nat.sub_zero, List.replicate_zero, List.replicate_succ, List.cons_append, List.nil_append, List.append_nil, List.getElem?_cons_zero, List.getElem?_cons_succ, List.set_cons_zero, List.set_cons_succ, List.set_nil, List.getElem?_nil, Option.some.injEq, exists_eq_left', exists_eq_left, exists_eq_right, reduceCtorEq, false_and, and_false, true_and, and_true, exists_false, exists_const, wipeR, Nat.zero_le, String.reduceEq, D.int.injEq, D.str.injEq, D.bl.injEq, atI_0, atI_1, atI_2, atI_3, atI_4, beq_self_eq_true, not_true_eq_false, not_false_eq_true, Int.cast_ofNat_Int, Int.reduceEq, Int.reduceLE, Int.reduceLT, Int.reduceAdd, Int.reduceSub, Int.reduceMul, Int.reduceNeg, if_true, if_false, ite_true, ite_false, Bool.false_eq_true, if_neg, if_pos, decide_eq_true_eq, Bool.not_eq_true', decide_eq_false_iff_not, eq_self_iff_true, decide_true, decide_false, Bool.not_true, Bool.not_false]
        · rw [gAll_bls]; exact (fin_bl hS).mpr (hF _)
    · simp only [h2, Nat.zero_le, String.reduceEq, D.int.injEq, D.str.injEq, D.bl.injEq, atI_0, atI_1, atI_2, atI_3, atI_4, beq_self_eq_true, not_true_eq_false, not_false_eq_true, Int.cast_ofNat_Int, Int.reduceEq, Int.reduceLE, Int.reduceLT, Int.reduceAdd, Int.reduceSub, Int.reduceMul, Int.reduceNeg, if_true, if_false, ite_true, ite_false, Bool.false_eq_true, if_neg, if_pos, decide_eq_true_eq, Bool.not_eq_true', decide_eq_false_iff_not, eq_self_iff_true, decide_true, decide_false, Bool.not_true, Bool.not_false]; exact hF _
  · rw [if_neg h1]; exact hF _
/-- a text of letters, a dash, letters of these -/
def IsSh (z : Str) : Prop := ∃ a b : List Nat, z = (⟨a.toArray⟩ : Str) ++ (⟨#[45]⟩ : Str) ++ (⟨b.toArray⟩ : Str) ∧ (∃ m, m ≤ 8 ∧ a = [97, 98, 99, 100, 101, 102, 103, 104].take m) ∧ b.length ≤ 12 ∧ ∀ x ∈ b, x ∈ a
theorem dash_eq : Str.ofString "-" = ⟨#[45]⟩ := by decide +kernel
theorem letters_eq : Str.ofString "abcdefgh" = ⟨#[97, 98, 99, 100, 101, 102, 103, 104]⟩ := by decide +kernel
theorem iLst_strs {l : List Str} : iLst S (.lst (l.map .str)) = some (l.map .str) := rfl
theorem shuffle_ok {z : Str} (hS : WF S) (hz : IsSh z) (hF : F (.bl true) S) : wp (den fu (n + 1) i_is_shuffle [.str z] S) F E := by
  obtain ⟨a, b, rfl, ⟨m, hm, ha⟩, hb, hab⟩ := hz
  have la : a.length = m := by rw [ha]; simp; omega
  have n45 : ∀ x ∈ a, x ≠ 45 := by
    intro x hx
    rw [ha] at hx
    have := List.mem_of_mem_take hx
    intro e; subst e; revert this; decide
  have sp : Txt.split ((⟨a.toArray⟩ : Str) ++ (⟨#[45]⟩ : Str) ++ (⟨b.toArray⟩ : Str)) ⟨#[45]⟩ = [⟨a.toArray⟩, ⟨b.toArray⟩] :=
    split_two (fun h => n45 45 (by simpa using h) rfl) (fun h => n45 45 (hab 45 (by simpa using h)) rfl)
  have hlen : ((⟨a.toArray⟩ : Str) ++ (⟨#[45]⟩ : Str) ++ (⟨b.toArray⟩ : Str)).length ≤ 21 := by
    show ((a.toArray ++ #[45]) ++ b.toArray).size ≤ 21
    simp; omega
  generalize hzz : ((⟨a.toArray⟩ : Str) ++ (⟨#[45]⟩ : Str) ++ (⟨b.toArray⟩ : Str)) = z at sp hlen
  show wp (runDef false 3 (b_is_shuffle fu (den fu n)) _ _) _ _
  have spl : ∀ S F, wp (gSplit false (.str z) [.str (Str.ofString "-")] S) F E ↔ F (.lst [.str ⟨a.toArray⟩, .str ⟨b.toArray⟩]) S := by
    intro S F
    unfold gSplit
    rw [dash_eq]
    simp only [sp, List.map_cons, List.map_nil]
    rw [if_pos ⟨by decide, by rw [sizeLine_eq]; omega⟩]
    exact Iff.rfl
  have l8 : ∀ x : Nat, x ≤ 16777216 → x ≤ sizeLine := fun x h => by rw [sizeLine_eq]; exact h
  have cut : cutS (Str.ofString "abcdefgh") none (some (m : Int)) = ⟨a.toArray⟩ := by
    rw [letters_eq]
    unfold cutS
    apply str_ext
    simp only [List.toList_toArray]
    rw [ha]
    have e1 : HT.sIx (Str.length ⟨#[97, 98, 99, 100, 101, 102, 103, 104]⟩) 0 none = 0 := rfl
    have e2 : HT.sIx (Str.length ⟨#[97, 98, 99, 100, 101, 102, 103, 104]⟩) (Str.length ⟨#[97, 98, 99, 100, 101, 102, 103, 104]⟩) (some (m : Int)) = m := by
      rw [HT.sIx_nat]; show min m 8 = m; omega
    rw [e1, e2]; simp
  have hL : ((⟨a.toArray⟩ : Str)).length = m := by show a.toArray.size = m; simp [la]
  have hR : ((⟨b.toArray⟩ : Str)).length = b.length := by show b.toArray.size = _; simp
  have hA : (Str.ofString "abcdefgh").length ≤ sizeLine := by rw [letters_eq]; exact l8 _ (by decide)
  simp only [b_is_shuffle, k_MOST_LEFT, k_LETTERS, isiN_ss, spl, isTy, hL, hR, cut, hA, l8 m (by omega), l8 b.length (by omega), show ¬ (12 : Int) < (b.length : Int) by omega, wp_ok, wp_ret, wp_stuck, wp_bad, wp_bnd, wp_if, wp_fif, wps_ok_nx, wps_ok_rt, wps_ok_bk, wps_ok_ct, wps_ok_xc, wps_bad, wps_lft, wps_seq, wps_nil, wps_ret, wps_expr, wps_asg, wps_if, wp_run, wps_for, wps_while, wp_comp, wp_var, wp_C, wp_bin, wp_un, wp_T, wp_Tb, wp_asBl, wp_truthBl, wp_bAnd, wp_bOr, wp_bNot, wp_eIf, wp_eAnd, wp_eOr, wp_eNot, blCase_bl, wp_chain, wp_aNil, wp_aCons, wp_tup, wp_lst, wp_lstM, wp_call, wp_cl1, wp_cl2, wp_cl3, wp_cl4, wp_cl5, wp_meth, wp_isi, wp_oNone, wp_oSome, wp_sl, wp_it, wp_range1, wp_range2, wp_bYes, gEq_str, gNe_str, gEq_int, gNe_int, gEq_bl, gNe_bl, gIs_bl, gIsNot_bl, gAdd_int, gSub_int, gC_int, gI_int, gAdd_str, gAdd_tup, gAdd_lst, gNeg_int, gIx_tup, gIx_lst, gLen_tup, gLen_lst, gLen_str, gInt_int, gInt_bl, gTuple_lst, gTuple_tup, gList_lst, gList_tup, gSl_tup, gSl_lst, gSl_fl, gSl_str, srcL_tup, srcL_lst, srcL_fl, srcL_str, srcR1_int, typN, startR, List.map_cons, List.map_nil, List.length_cons, List.length_nil, Nat.reduceAdd, Nat.reduceSub, Nat.zero_add, Nat.sub_self, Nat.sub_zero, List.replicate_zero, List.replicate_succ, List.cons_append, List.nil_append, List.append_nil, List.getElem?_cons_zero, List.getElem?_cons_succ, List.set_cons_zero, List.set_cons_succ, List.set_nil, List.getElem?_nil, Option.some.injEq, exists_eq_left', exists_eq_left, exists_eq_right, reduceCtorEq, false_and, and_false, true_and, and_true, exists_false, exists_const, wipeR, Nat.zero_le, String.reduceEq, D.int.injEq, D.str.injEq, D.bl.injEq, atI_0, atI_1, atI_2, atI_3, atI_4, beq_self_eq_true, not_true_eq_false, not_false_eq_true, Int.cast_ofNat_Int, Int.reduceEq, Int.reduceLE, Int.reduceLT, Int.reduceAdd, Int.reduceSub, Int.reduceMul, Int.reduceNeg, if_true, if_false, ite_true, ite_false, Bool.false_eq_true, if_neg, if_pos, decide_eq_true_eq, Bool.not_eq_true', decide_eq_false_iff_not, eq_self_iff_true, decide_true, decide_false, Bool.not_true, Bool.not_false]
  refine ⟨by rw [List.length_map]; exact l8 _ (by omega), ?_⟩
  refine signs_in (ρ := [some (.str z), some (.lst [.str ⟨a.toArray⟩, .str ⟨b.toArray⟩]), none]) (by rw [hR]; exact l8 _ (by omega)) (l := a) (fun c S => ?_) ?_
  · simp only [gIn_sign, List.toList_toArray, wp_ok, wp_ret, wp_stuck, wp_bad, wp_bnd, wp_if, wp_fif, wps_ok_nx, wps_ok_rt, wps_ok_bk, wps_ok_ct, wps_ok_xc, wps_bad, wps_lft, wps_seq, wps_nil, wps_ret, wps_expr, wps_asg, wps_if, wp_run, wps_for, wps_while, wp_comp, wp_var, wp_C, wp_bin, wp_un, wp_T, wp_Tb, wp_asBl, wp_truthBl, wp_bAnd, wp_bOr, wp_bNot, wp_eIf, wp_eAnd, wp_eOr, wp_eNot, blCase_bl, wp_chain, wp_aNil, wp_aCons, wp_tup, wp_lst, wp_lstM, wp_call, wp_cl1, wp_cl2, wp_cl3, wp_cl4, wp_cl5, wp_meth, wp_isi, wp_oNone, wp_oSome, wp_sl, wp_it, wp_range1, wp_range2, wp_bYes, gEq_str, gNe_str, gEq_int, gNe_int, gEq_bl, gNe_bl, gIs_bl, gIsNot_bl, gAdd_int, gSub_int, gC_int, gI_int, gAdd_str, gAdd_tup, gAdd_lst, gNeg_int, gIx_tup, gIx_lst, gLen_tup, gLen_lst, gLen_str, gInt_int, gInt_bl, gTuple_lst, gTuple_tup, gList_lst, gList_tup, gSl_tup, gSl_lst, gSl_fl, gSl_str, srcL_tup, srcL_lst, srcL_fl, srcL_str, srcR1_int, typN, startR, List.map_cons, List.map_nil, List.length_cons, List.length_nil, Nat.reduceAdd, Nat.reduceSub, Nat.zero_add, Nat.sub_self, Nat.sub_zero, List.replicate_zero, List.replicate_succ, List.cons_append, List.nil_append, List.append_nil, List.getElem?_cons_zero, List.getElem?_cons_succ, List.set_cons_zero, List.set_cons_succ, List.set_nil, List.getElem?_nil, Option.some.injEq, exists_eq_left', exists_eq_left, exists_eq_right, reduceCtorEq, false_and, and_false, true_and, and_true, exists_false, exists_const, wipeR, Nat.zero_le, String.reduceEq, D.int.injEq, D.str.injEq, D.bl.injEq, atI_0, atI_1, atI_2, atI_3, atI_4, beq_self_eq_true, not_true_eq_false, not_false_eq_true, Int.cast_ofNat_Int, Int.reduceEq, Int.reduceLE, Int.reduceLT, Int.reduceAdd, Int.reduceSub, Int.reduceMul, Int.reduceNeg, if_true, if_false, ite_true, ite_false, Bool.false_eq_true, if_neg, if_pos, decide_eq_true_eq, Bool.not_eq_true', decide_eq_false_iff_not, eq_self_iff_true, decide_true, decide_false, Bool.not_true, Bool.not_false]
  · rw [gAll_bls, List.toList_toArray]
    have : ((b.map fun c => decide (c ∈ a)).all id) = true := by simpa using hab
    rw [this]
    exact (fin_bl hS).mpr hF
def WdS (w : D) : Prop := ∃ z : Str, w = .str z ∧ z.length ≤ 100 ∧ (z ∈ basics ∨ IsSh z)
def Num (d : D) : Prop := ∃ i : Int, d = .tup [.str "number", .int i] ∧ 0 ≤ i ∧ i < 1000000000000
def ThG : Nat → D → Prop
  | 0, d => Num d
  | k + 1, d => Num d ∨ (∃ ws, d = .tup [.str "row", .tup ws] ∧ ws.length ≤ 1000 ∧ ∀ w ∈ ws, WdS w ∨ ∃ t, w = .tup [.str "push", t] ∧ ThG k t) ∨
      (∃ ts, d = .tup [.str "list", .tup ts] ∧ ts.length ≤ 1000 ∧ ∀ t ∈ ts, ThG k t)
def WdG (k : Nat) (w : D) : Prop := WdS w ∨ ∃ t, w = .tup [.str "push", t] ∧ ThG k t
theorem ThG.num {d : D} (h : Num d) : ∀ k, ThG k d
  | 0 => h
  | _ + 1 => .inl h
theorem WdS.tr {w : D} (h : WdS w) : tr w := by obtain ⟨z, rfl, _⟩ := h; rfl
theorem ThG.tr : ∀ {k : Nat} {d : D}, ThG k d → tr d
  | 0, d, ⟨i, e, _⟩ => by subst e; rfl
  | k + 1, d, h => by
    rcases h with ⟨i, rfl, _⟩ | ⟨ws, rfl, _, h⟩ | ⟨ts, rfl, _, h⟩
    · rfl
    · have : D.los 0 ws = true := los_iff ws |>.mpr fun w hw => by
        rcases h w hw with q | ⟨t, rfl, q⟩
        · exact q.tr
        · have := ThG.tr q
          simp only [DL.tr, D.lo, D.los, Bool.and_true, Bool.true_and] at this ⊢
          exact this
      simp only [DL.tr, D.lo, D.los, Bool.and_true, Bool.true_and]
      exact this
    · have : D.los 0 ts = true := los_iff ts |>.mpr fun t ht => ThG.tr (h t ht)
      simp only [DL.tr, D.lo, D.los, Bool.and_true, Bool.true_and]
      exact this
theorem word_str {N : Nat} {z : Str} (hN : 2 ≤ N) (hS : WF S) (hz : z.length ≤ 100) (h : z ∈ basics ∨ IsSh z) (hF : F (.bl true) S) : wp (den fu N i_is_word [.str z] S) F E := by
  obtain ⟨m, rfl⟩ : ∃ m, N = m + 2 := ⟨N - 2, by omega⟩
  show wp (runDef false 1 (b_is_word fu (den fu (m + 1))) _ _) _ _
  simp only [b_is_word, isiN_ss, k_BASICS_eq, gIn_strs (show iLst S (.tup (basics.map .str)) = some (basics.map .str) from rfl), fin_bl hS, wp_ok, wp_ret, wp_stuck, wp_bad, wp_bnd, wp_if, wp_fif, wps_ok_nx, wps_ok_rt, wps_ok_bk, wps_ok_ct, wps_ok_xc, wps_bad, wps_lft, wps_seq, wps_nil, wps_ret, wps_expr, wps_asg, wps_if, wp_run, wps_for, wps_while, wp_comp, wp_var, wp_C, wp_bin, wp_un, wp_T, wp_Tb, wp_asBl, wp_truthBl, wp_bAnd, wp_bOr, wp_bNot, wp_eIf, wp_eAnd, wp_eOr, wp_eNot, blCase_bl, wp_chain, wp_aNil, wp_aCons, wp_tup, wp_lst, wp_lstM, wp_call, wp_cl1, wp_cl2, wp_cl3, wp_cl4, wp_cl5, wp_meth, wp_isi, wp_oNone, wp_oSome, wp_sl, wp_it, wp_range1, wp_range2, wp_bYes, gEq_str, gNe_str, gEq_int, gNe_int, gEq_bl, gNe_bl, gIs_bl, gIsNot_bl, gAdd_int, gSub_int, gC_int, gI_int, gAdd_str, gAdd_tup, gAdd_lst, gNeg_int, gIx_tup, gIx_lst, gLen_tup, gLen_lst, gLen_str, gInt_int, gInt_bl, gTuple_lst, gTuple_tup, gList_lst, gList_tup, gSl_tup, gSl_lst, gSl_fl, gSl_str, srcL_tup, srcL_lst, srcL_fl, srcL_str, srcR1_int, typN, startR, List.map_cons, List.map_nil, List.length_cons, List.length_nil, Nat.reduceAdd, Nat.reduceSub, Nat.zero_add, Nat.sub_self, Nat.sub_zero, List.replicate_zero, List.replicate_succ, List.cons_append, List.nil_append, List.append_nil, List.getElem?_cons_zero, List.getElem?_cons_succ, List.set_cons_zero, List.set_cons_succ, List.set_nil, List.getElem?_nil, Option.some.injEq, exists_eq_left', exists_eq_left, exists_eq_right, reduceCtorEq, false_and, and_false, true_and, and_true, exists_false, exists_const, wipeR, Nat.zero_le, String.reduceEq, D.int.injEq, D.str.injEq, D.bl.injEq, atI_0, atI_1, atI_2, atI_3, atI_4, beq_self_eq_true, not_true_eq_false, not_false_eq_true, Int.cast_ofNat_Int, Int.reduceEq, Int.reduceLE, Int.reduceLT, Int.reduceAdd, Int.reduceSub, Int.reduceMul, Int.reduceNeg, if_true, if_false, ite_true, ite_false, Bool.false_eq_true, if_neg, if_pos, decide_eq_true_eq, Bool.not_eq_true', decide_eq_false_iff_not, eq_self_iff_true, decide_true, decide_false, Bool.not_true, Bool.not_false]
  by_cases hb : z ∈ basics
  · rw [if_pos hb]; exact hF
  · rw [if_neg hb]
    refine name_ok hS (small_line (by omega)) fun b => ?_
    rw [blCase_bl]
    cases b with
    | true => rw [if_pos rfl]; exact (fin_bl hS).mpr hF
    | false =>
      rw [if_neg Bool.false_ne_true]
      rcases h with h | h
      · exact absurd h hb
      · exact shuffle_ok hS h ((fin_bl hS).mpr hF)
theorem thing_ok : ∀ (k : Nat) (d : D) (N : Nat) (S : Sto) (F : D → Sto → Prop) (E : Exc → Sto → Prop), ThG k d → 3 * k + 2 ≤ N → WF S → F (.bl true) S → wp (den fu N i_is_thing [d] S) F E := by
  intro k
  induction k with
  | zero =>
    rintro d N S F E ⟨i, rfl, h0, h1⟩ hN hS hF
    obtain ⟨m, rfl⟩ : ∃ m, N = m + 2 := ⟨N - 2, by omega⟩
    show wp (runDef false 1 (b_is_thing fu (den fu (m + 1))) _ _) _ _
    simp only [b_is_thing, isiN_ss, isiN_tt, fin_bl hS, ofString_inj, wp_ok, wp_ret, wp_stuck, wp_bad, wp_bnd, wp_if, wp_fif, wps_ok_nx, wps_ok_rt, wps_ok_bk, wps_ok_ct, wps_ok_xc, wps_bad, wps_lft, wps_seq, wps_nil, wps_ret, wps_expr, wps_asg, wps_if, wp_run, wps_for, wps_while, wp_comp, wp_var, wp_C, wp_bin, wp_un, wp_T, wp_Tb, wp_asBl, wp_truthBl, wp_bAnd, wp_bOr, wp_bNot, wp_eIf, wp_eAnd, wp_eOr, wp_eNot, blCase_bl, wp_chain, wp_aNil, wp_aCons, wp_tup, wp_lst, wp_lstM, wp_call, wp_cl1, wp_cl2, wp_cl3, wp_cl4, wp_cl5, wp_meth, wp_isi, wp_oNone, wp_oSome, wp_sl, wp_it, wp_range1, wp_range2, wp_bYes, gEq_str, gNe_str, gEq_int, gNe_int, gEq_bl, gNe_bl, gIs_bl, gIsNot_bl, gAdd_int, gSub_int, gC_int, gI_int, gAdd_str, gAdd_tup, gAdd_lst, gNeg_int, gIx_tup, gIx_lst, gLen_tup, gLen_lst, gLen_str, gInt_int, gInt_bl, gTuple_lst, gTuple_tup, gList_lst, gList_tup, gSl_tup, gSl_lst, gSl_fl, gSl_str, srcL_tup, srcL_lst, srcL_fl, srcL_str, srcR1_int, typN, startR, List.map_cons, List.map_nil, List.length_cons, List.length_nil, Nat.reduceAdd, Nat.reduceSub, Nat.zero_add, Nat.sub_self, Nat.sub_zero, List.replicate_zero, List.replicate_succ, List.cons_append, List.nil_append, List.append_nil, List.getElem?_cons_zero, List.getElem?_cons_succ, List.set_cons_zero, List.set_cons_succ, List.set_nil, List.getElem?_nil, Option.some.injEq, exists_eq_left', exists_eq_left, exists_eq_right, reduceCtorEq, false_and, and_false, true_and, and_true, exists_false, exists_const, wipeR, Nat.zero_le, String.reduceEq, D.int.injEq, D.str.injEq, D.bl.injEq, atI_0, atI_1, atI_2, atI_3, atI_4, beq_self_eq_true, not_true_eq_false, not_false_eq_true, Int.cast_ofNat_Int, Int.reduceEq, Int.reduceLE, Int.reduceLT, Int.reduceAdd, Int.reduceSub, Int.reduceMul, Int.reduceNeg, if_true, if_false, ite_true, ite_false, Bool.false_eq_true, if_neg, if_pos, decide_eq_true_eq, Bool.not_eq_true', decide_eq_false_iff_not, eq_self_iff_true, decide_true, decide_false, Bool.not_true, Bool.not_false]
    refine number_ok hS ?_
    rw [show decide (0 ≤ i ∧ i < 1000000000000) = true from decide_eq_true ⟨h0, h1⟩]
    exact (fin_bl hS).mpr hF
  | succ k ih =>
    intro d N S F E hd hN hS hF
    obtain ⟨m, rfl⟩ : ∃ m, N = m + 3 := ⟨N - 3, by omega⟩
    have hm : 3 * k + 2 ≤ m := by omega
    show wp (runDef false 1 (b_is_thing fu (den fu (m + 2))) _ _) _ _
    rcases hd with ⟨i, rfl, h0, h1⟩ | ⟨ws, rfl, hl, hw⟩ | ⟨ts, rfl, hl, ht⟩
    · simp only [b_is_thing, isiN_ss, isiN_tt, fin_bl hS, ofString_inj, wp_ok, wp_ret, wp_stuck, wp_bad, wp_bnd, wp_if, wp_fif, wps_ok_nx, wps_ok_rt, wps_ok_bk, wps_ok_ct, wps_ok_xc, wps_bad, wps_lft, wps_seq, wps_nil, wps_ret, wps_expr, wps_asg, wps_if, wp_run, wps_for, wps_while, wp_comp, wp_var, wp_C, wp_bin, wp_un, wp_T, wp_Tb, wp_asBl, wp_truthBl, wp_bAnd, wp_bOr, wp_bNot, wp_eIf, wp_eAnd, wp_eOr, wp_eNot, blCase_bl, wp_chain, wp_aNil, wp_aCons, wp_tup, wp_lst, wp_lstM, wp_call, wp_cl1, wp_cl2, wp_cl3, wp_cl4, wp_cl5, wp_meth, wp_isi, wp_oNone, wp_oSome, wp_sl, wp_it, wp_range1, wp_range2, wp_bYes, gEq_str, gNe_str, gEq_int, gNe_int, gEq_bl, gNe_bl, gIs_bl, gIsNot_bl, gAdd_int, gSub_int, gC_int, gI_int, gAdd_str, gAdd_tup, gAdd_lst, gNeg_int, gIx_tup, gIx_lst, gLen_tup, gLen_lst, gLen_str, gInt_int, gInt_bl, gTuple_lst, gTuple_tup, gList_lst, gList_tup, gSl_tup, gSl_lst, gSl_fl, gSl_str, srcL_tup, srcL_lst, srcL_fl, srcL_str, srcR1_int, typN, startR, List.map_cons, List.map_nil, List.length_cons, List.length_nil, Nat.reduceAdd, Nat.reduceSub, Nat.zero_add, Nat.sub_self, Nat.sub_zero, List.replicate_zero, List.replicate_succ, List.cons_append, List.nil_append, List.append_nil, List.getElem?_cons_zero, List.getElem?_cons_succ, List.set_cons_zero, List.set_cons_succ, List.set_nil, List.getElem?_nil, Option.some.injEq, exists_eq_left', exists_eq_left, exists_eq_right, reduceCtorEq, false_and, and_false, true_and, and_true, exists_false, exists_const, wipeR, Nat.zero_le, String.reduceEq, D.int.injEq, D.str.injEq, D.bl.injEq, atI_0, atI_1, atI_2, atI_3, atI_4, beq_self_eq_true, not_true_eq_false, not_false_eq_true, Int.cast_ofNat_Int, Int.reduceEq, Int.reduceLE, Int.reduceLT, Int.reduceAdd, Int.reduceSub, Int.reduceMul, Int.reduceNeg, if_true, if_false, ite_true, ite_false, Bool.false_eq_true, if_neg, if_pos, decide_eq_true_eq, Bool.not_eq_true', decide_eq_false_iff_not, eq_self_iff_true, decide_true, decide_false, Bool.not_true, Bool.not_false]
      refine number_ok hS ?_
      rw [show decide (0 ≤ i ∧ i < 1000000000000) = true from decide_eq_true ⟨h0, h1⟩]
      exact (fin_bl hS).mpr hF
    · simp only [b_is_thing, isiN_ss, isiN_tt, fin_bl hS, ofString_inj, wp_ok, wp_ret, wp_stuck, wp_bad, wp_bnd, wp_if, wp_fif, wps_ok_nx, wps_ok_rt, wps_ok_bk, wps_ok_ct, wps_ok_xc, wps_bad, wps_lft, wps_seq, wps_nil, wps_ret, wps_expr, wps_asg, wps_if, wp_run, wps_for, wps_while, wp_comp, wp_var, wp_C, wp_bin, wp_un, wp_T, wp_Tb, wp_asBl, wp_truthBl, wp_bAnd, wp_bOr, wp_bNot, wp_eIf, wp_eAnd, wp_eOr, wp_eNot, blCase_bl, wp_chain, wp_aNil, wp_aCons, wp_tup, wp_lst, wp_lstM, wp_call, wp_cl1, wp_cl2, wp_cl3, wp_cl4, wp_cl5, wp_meth, wp_isi, wp_oNone, wp_oSome, wp_sl, wp_it, wp_range1, wp_range2, wp_bYes, gEq_str, gNe_str, gEq_int, gNe_int, gEq_bl, gNe_bl, gIs_bl, gIsNot_bl, gAdd_int, gSub_int, gC_int, gI_int, gAdd_str, gAdd_tup, gAdd_lst, gNeg_int, gIx_tup, gIx_lst, gLen_tup, gLen_lst, gLen_str, gInt_int, gInt_bl, gTuple_lst, gTuple_tup, gList_lst, gList_tup, gSl_tup, gSl_lst, gSl_fl, gSl_str, srcL_tup, srcL_lst, srcL_fl, srcL_str, srcR1_int, typN, startR, List.map_cons, List.map_nil, List.length_cons, List.length_nil, Nat.reduceAdd, Nat.reduceSub, Nat.zero_add, Nat.sub_self, Nat.sub_zero, List.replicate_zero, List.replicate_succ, List.cons_append, List.nil_append, List.append_nil, List.getElem?_cons_zero, List.getElem?_cons_succ, List.set_cons_zero, List.set_cons_succ, List.set_nil, List.getElem?_nil, Option.some.injEq, exists_eq_left', exists_eq_left, exists_eq_right, reduceCtorEq, false_and, and_false, true_and, and_true, exists_false, exists_const, wipeR, Nat.zero_le, String.reduceEq, D.int.injEq, D.str.injEq, D.bl.injEq, atI_0, atI_1, atI_2, atI_3, atI_4, beq_self_eq_true, not_true_eq_false, not_false_eq_true, Int.cast_ofNat_Int, Int.reduceEq, Int.reduceLE, Int.reduceLT, Int.reduceAdd, Int.reduceSub, Int.reduceMul, Int.reduceNeg, if_true, if_false, ite_true, ite_false, Bool.false_eq_true, if_neg, if_pos, decide_eq_true_eq, Bool.not_eq_true', decide_eq_false_iff_not, eq_self_iff_true, decide_true, decide_false, Bool.not_true, Bool.not_false]
      show wp (runDef false 2 (b_is_row fu (den fu (m + 1))) _ _) _ _
      simp only [b_is_row, isiN_tt, fin_bl hS, wp_ok, wp_ret, wp_stuck, wp_bad, wp_bnd, wp_if, wp_fif, wps_ok_nx, wps_ok_rt, wps_ok_bk, wps_ok_ct, wps_ok_xc, wps_bad, wps_lft, wps_seq, wps_nil, wps_ret, wps_expr, wps_asg, wps_if, wp_run, wps_for, wps_while, wp_comp, wp_var, wp_C, wp_bin, wp_un, wp_T, wp_Tb, wp_asBl, wp_truthBl, wp_bAnd, wp_bOr, wp_bNot, wp_eIf, wp_eAnd, wp_eOr, wp_eNot, blCase_bl, wp_chain, wp_aNil, wp_aCons, wp_tup, wp_lst, wp_lstM, wp_call, wp_cl1, wp_cl2, wp_cl3, wp_cl4, wp_cl5, wp_meth, wp_isi, wp_oNone, wp_oSome, wp_sl, wp_it, wp_range1, wp_range2, wp_bYes, gEq_str, gNe_str, gEq_int, gNe_int, gEq_bl, gNe_bl, gIs_bl, gIsNot_bl, gAdd_int, gSub_int, gC_int, gI_int, gAdd_str, gAdd_tup, gAdd_lst, gNeg_int, gIx_tup, gIx_lst, gLen_tup, gLen_lst, gLen_str, gInt_int, gInt_bl, gTuple_lst, gTuple_tup, gList_lst, gList_tup, gSl_tup, gSl_lst, gSl_fl, gSl_str, srcL_tup, srcL_lst, srcL_fl, srcL_str, srcR1_int, typN, startR, List.map_cons, List.map_nil, List.length_cons, List.length_nil, Nat.reduceAdd, Nat.reduceSub, Nat.zero_add, Nat.sub_self, Nat.sub_zero, List.replicate_zero, List.replicate_succ, List.cons_append, List.nil_append, List.append_nil, List.getElem?_cons_zero, List.getElem?_cons_succ, List.set_cons_zero, List.set_cons_succ, List.set_nil, List.getElem?_nil, Option.some.injEq, exists_eq_left', exists_eq_left, exists_eq_right, reduceCtorEq, false_and, and_false, true_and, and_true, exists_false, exists_const, wipeR, Nat.zero_le, String.reduceEq, D.int.injEq, D.str.injEq, D.bl.injEq, atI_0, atI_1, atI_2, atI_3, atI_4, beq_self_eq_true, not_true_eq_false, not_false_eq_true, Int.cast_ofNat_Int, Int.reduceEq, Int.reduceLE, Int.reduceLT, Int.reduceAdd, Int.reduceSub, Int.reduceMul, Int.reduceNeg, if_true, if_false, ite_true, ite_false, Bool.false_eq_true, if_neg, if_pos, decide_eq_true_eq, Bool.not_eq_true', decide_eq_false_iff_not, eq_self_iff_true, decide_true, decide_false, Bool.not_true, Bool.not_false]
      refine ⟨small_line (by omega), ?_⟩
      refine comp_pure (fun _ => .bl true) (fun w hwm => ?_) ?_
      · simp only [wp_ok, wp_ret, wp_stuck, wp_bad, wp_bnd, wp_if, wp_fif, wps_ok_nx, wps_ok_rt, wps_ok_bk, wps_ok_ct, wps_ok_xc, wps_bad, wps_lft, wps_seq, wps_nil, wps_ret, wps_expr, wps_asg, wps_if, wp_run, wps_for, wps_while, wp_comp, wp_var, wp_C, wp_bin, wp_un, wp_T, wp_Tb, wp_asBl, wp_truthBl, wp_bAnd, wp_bOr, wp_bNot, wp_eIf, wp_eAnd, wp_eOr, wp_eNot, blCase_bl, wp_chain, wp_aNil, wp_aCons, wp_tup, wp_lst, wp_lstM, wp_call, wp_cl1, wp_cl2, wp_cl3, wp_cl4, wp_cl5, wp_meth, wp_isi, wp_oNone, wp_oSome, wp_sl, wp_it, wp_range1, wp_range2, wp_bYes, gEq_str, gNe_str, gEq_int, gNe_int, gEq_bl, gNe_bl, gIs_bl, gIsNot_bl, gAdd_int, gSub_int, gC_int, gI_int, gAdd_str, gAdd_tup, gAdd_lst, gNeg_int, gIx_tup, gIx_lst, gLen_tup, gLen_lst, gLen_str, gInt_int, gInt_bl, gTuple_lst, gTuple_tup, gList_lst, gList_tup, gSl_tup, gSl_lst, gSl_fl, gSl_str, srcL_tup, srcL_lst, srcL_fl, srcL_str, srcR1_int, typN, startR, List.map_cons, List.map_nil, List.length_cons, List.length_nil, Nat.reduceAdd, Nat.reduceSub, Nat.zero_add, Nat.sub_self, Nat.sub_zero, List.replicate_zero, List.replicate_succ, List.cons_append, List.nil_append, List.append_nil, List.getElem?_cons_zero, List.getElem?_cons_succ, List.set_cons_zero, List.set_cons_succ, List.set_nil, List.getElem?_nil, Option.some.injEq, exists_eq_left', exists_eq_left, exists_eq_right, reduceCtorEq, false_and, and_false, true_and, and_true, exists_false, exists_const, wipeR, Nat.zero_le, String.reduceEq, D.int.injEq, D.str.injEq, D.bl.injEq, atI_0, atI_1, atI_2, atI_3, atI_4, beq_self_eq_true, not_true_eq_false, not_false_eq_true, Int.cast_ofNat_Int, Int.reduceEq, Int.reduceLE, Int.reduceLT, Int.reduceAdd, Int.reduceSub, Int.reduceMul, Int.reduceNeg, if_true, if_false, ite_true, ite_false, Bool.false_eq_true, if_neg, if_pos, decide_eq_true_eq, Bool.not_eq_true', decide_eq_false_iff_not, eq_self_iff_true, decide_true, decide_false, Bool.not_true, Bool.not_false]
        rcases hw w hwm with ⟨z, rfl, hz, hz2⟩ | ⟨t, rfl, ht⟩
        · exact word_str (by omega) hS hz hz2 ⟨rfl, rfl⟩
        · show wp (runDef false 1 (b_is_word fu (den fu m)) _ _) _ _
          simp only [b_is_word, isiN_ss, isiN_tt, isiN_ts, fin_bl hS, ofString_inj, wp_ok, wp_ret, wp_stuck, wp_bad, wp_bnd, wp_if, wp_fif, wps_ok_nx, wps_ok_rt, wps_ok_bk, wps_ok_ct, wps_ok_xc, wps_bad, wps_lft, wps_seq, wps_nil, wps_ret, wps_expr, wps_asg, wps_if, wp_run, wps_for, wps_while, wp_comp, wp_var, wp_C, wp_bin, wp_un, wp_T, wp_Tb, wp_asBl, wp_truthBl, wp_bAnd, wp_bOr, wp_bNot, wp_eIf, wp_eAnd, wp_eOr, wp_eNot, blCase_bl, wp_chain, wp_aNil, wp_aCons, wp_tup, wp_lst, wp_lstM, wp_call, wp_cl1, wp_cl2, wp_cl3, wp_cl4, wp_cl5, wp_meth, wp_isi, wp_oNone, wp_oSome, wp_sl, wp_it, wp_range1, wp_range2, wp_bYes, gEq_str, gNe_str, gEq_int, gNe_int, gEq_bl, gNe_bl, gIs_bl, gIsNot_bl, gAdd_int, gSub_int, gC_int, gI_int, gAdd_str, gAdd_tup, gAdd_lst, gNeg_int, gIx_tup, gIx_lst, gLen_tup, gLen_lst, gLen_str, gInt_int, gInt_bl, gTuple_lst, gTuple_tup, gList_lst, gList_tup, gSl_tup, gSl_lst, gSl_fl, gSl_str, srcL_tup, srcL_lst, srcL_fl, srcL_str, srcR1_int, typN, startR, List.map_cons, List.map_nil, List.length_cons, List.length_nil, Nat.reduceAdd, Nat.reduceSub, Nat.zero_add, Nat.sub_self, Nat.sub_zero, List.replicate_zero, List.replicate_succ, List.cons_append, List.nil_append, List.append_nil, List.getElem?_cons_zero, List.getElem?_cons_succ, List.set_cons_zero, List.set_cons_succ, List.set_nil, List.getElem?_nil, Option.some.injEq, exists_eq_left', exists_eq_left, exists_eq_right, reduceCtorEq, false_and, and_false, true_and, and_true, exists_false, exists_const, wipeR, Nat.zero_le, String.reduceEq, D.int.injEq, D.str.injEq, D.bl.injEq, atI_0, atI_1, atI_2, atI_3, atI_4, beq_self_eq_true, not_true_eq_false, not_false_eq_true, Int.cast_ofNat_Int, Int.reduceEq, Int.reduceLE, Int.reduceLT, Int.reduceAdd, Int.reduceSub, Int.reduceMul, Int.reduceNeg, if_true, if_false, ite_true, ite_false, Bool.false_eq_true, if_neg, if_pos, decide_eq_true_eq, Bool.not_eq_true', decide_eq_false_iff_not, eq_self_iff_true, decide_true, decide_false, Bool.not_true, Bool.not_false]
          exact ih t m S _ _ ht hm hS ((fin_bl hS).mpr ⟨rfl, rfl⟩)
      · have e : (ws.map fun _ => D.bl true) = (ws.map fun _ => true).map D.bl := by simp
        rw [e, gAll_bls, show ((ws.map fun _ => true).all id) = true by simp]
        exact (fin_bl hS).mpr ((fin_bl hS).mpr hF)
    · simp only [b_is_thing, isiN_ss, isiN_tt, fin_bl hS, ofString_inj, wp_ok, wp_ret, wp_stuck, wp_bad, wp_bnd, wp_if, wp_fif, wps_ok_nx, wps_ok_rt, wps_ok_bk, wps_ok_ct, wps_ok_xc, wps_bad, wps_lft, wps_seq, wps_nil, wps_ret, wps_expr, wps_asg, wps_if, wp_run, wps_for, wps_while, wp_comp, wp_var, wp_C, wp_bin, wp_un, wp_T, wp_Tb, wp_asBl, wp_truthBl, wp_bAnd, wp_bOr, wp_bNot, wp_eIf, wp_eAnd, wp_eOr, wp_eNot, blCase_bl, wp_chain, wp_aNil, wp_aCons, wp_tup, wp_lst, wp_lstM, wp_call, wp_cl1, wp_cl2, wp_cl3, wp_cl4, wp_cl5, wp_meth, wp_isi, wp_oNone, wp_oSome, wp_sl, wp_it, wp_range1, wp_range2, wp_bYes, gEq_str, gNe_str, gEq_int, gNe_int, gEq_bl, gNe_bl, gIs_bl, gIsNot_bl, gAdd_int, gSub_int, gC_int, gI_int, gAdd_str, gAdd_tup, gAdd_lst, gNeg_int, gIx_tup, gIx_lst, gLen_tup, gLen_lst, gLen_str, gInt_int, gInt_bl, gTuple_lst, gTuple_tup, gList_lst, gList_tup, gSl_tup, gSl_lst, gSl_fl, gSl_str, srcL_tup, srcL_lst, srcL_fl, srcL_str, srcR1_int, typN, startR, List.map_cons, List.map_nil, List.length_cons, List.length_nil, Nat.reduceAdd, Nat.reduceSub, Nat.zero_add, Nat.sub_self, Nat.sub_zero, List.replicate_zero, List.replicate_succ, List.cons_append, List.nil_append, List.append_nil, List.getElem?_cons_zero, List.getElem?_cons_succ, List.set_cons_zero, List.set_cons_succ, List.set_nil, List.getElem?_nil, Option.some.injEq, exists_eq_left', exists_eq_left, exists_eq_right, reduceCtorEq, false_and, and_false, true_and, and_true, exists_false, exists_const, wipeR, Nat.zero_le, String.reduceEq, D.int.injEq, D.str.injEq, D.bl.injEq, atI_0, atI_1, atI_2, atI_3, atI_4, beq_self_eq_true, not_true_eq_false, not_false_eq_true, Int.cast_ofNat_Int, Int.reduceEq, Int.reduceLE, Int.reduceLT, Int.reduceAdd, Int.reduceSub, Int.reduceMul, Int.reduceNeg, if_true, if_false, ite_true, ite_false, Bool.false_eq_true, if_neg, if_pos, decide_eq_true_eq, Bool.not_eq_true', decide_eq_false_iff_not, eq_self_iff_true, decide_true, decide_false, Bool.not_true, Bool.not_false]
      show wp (runDef false 2 (b_is_stack fu (den fu (m + 1))) _ _) _ _
      simp only [b_is_stack, isiN_tt, fin_bl hS, wp_ok, wp_ret, wp_stuck, wp_bad, wp_bnd, wp_if, wp_fif, wps_ok_nx, wps_ok_rt, wps_ok_bk, wps_ok_ct, wps_ok_xc, wps_bad, wps_lft, wps_seq, wps_nil, wps_ret, wps_expr, wps_asg, wps_if, wp_run, wps_for, wps_while, wp_comp, wp_var, wp_C, wp_bin, wp_un, wp_T, wp_Tb, wp_asBl, wp_truthBl, wp_bAnd, wp_bOr, wp_bNot, wp_eIf, wp_eAnd, wp_eOr, wp_eNot, blCase_bl, wp_chain, wp_aNil, wp_aCons, wp_tup, wp_lst, wp_lstM, wp_call, wp_cl1, wp_cl2, wp_cl3, wp_cl4, wp_cl5, wp_meth, wp_isi, wp_oNone, wp_oSome, wp_sl, wp_it, wp_range1, wp_range2, wp_bYes, gEq_str, gNe_str, gEq_int, gNe_int, gEq_bl, gNe_bl, gIs_bl, gIsNot_bl, gAdd_int, gSub_int, gC_int, gI_int, gAdd_str, gAdd_tup, gAdd_lst, gNeg_int, gIx_tup, gIx_lst, gLen_tup, gLen_lst, gLen_str, gInt_int, gInt_bl, gTuple_lst, gTuple_tup, gList_lst, gList_tup, gSl_tup, gSl_lst, gSl_fl, gSl_str, srcL_tup, srcL_lst, srcL_fl, srcL_str, srcR1_int, typN, startR, List.map_cons, List.map_nil, List.length_cons, List.length_nil, Nat.reduceAdd, Nat.reduceSub, Nat.zero_add, Nat.sub_self, Nat.sub_zero, List.replicate_zero, List.replicate_succ, List.cons_append, List.nil_append, List.append_nil, List.getElem?_cons_zero, List.getElem?_cons_succ, List.set_cons_zero, List.set_cons_succ, List.set_nil, List.getElem?_nil, Option.some.injEq, exists_eq_left', exists_eq_left, exists_eq_right, reduceCtorEq, false_and, and_false, true_and, and_true, exists_false, exists_const, wipeR, Nat.zero_le, String.reduceEq, D.int.injEq, D.str.injEq, D.bl.injEq, atI_0, atI_1, atI_2, atI_3, atI_4, beq_self_eq_true, not_true_eq_false, not_false_eq_true, Int.cast_ofNat_Int, Int.reduceEq, Int.reduceLE, Int.reduceLT, Int.reduceAdd, Int.reduceSub, Int.reduceMul, Int.reduceNeg, if_true, if_false, ite_true, ite_false, Bool.false_eq_true, if_neg, if_pos, decide_eq_true_eq, Bool.not_eq_true', decide_eq_false_iff_not, eq_self_iff_true, decide_true, decide_false, Bool.not_true, Bool.not_false]
      refine ⟨small_line (by omega), ?_⟩
      refine comp_pure (fun _ => .bl true) (fun t htm => ?_) ?_
      · simp only [wp_ok, wp_ret, wp_stuck, wp_bad, wp_bnd, wp_if, wp_fif, wps_ok_nx, wps_ok_rt, wps_ok_bk, wps_ok_ct, wps_ok_xc, wps_bad, wps_lft, wps_seq, wps_nil, wps_ret, wps_expr, wps_asg, wps_if, wp_run, wps_for, wps_while, wp_comp, wp_var, wp_C, wp_bin, wp_un, wp_T, wp_Tb, wp_asBl, wp_truthBl, wp_bAnd, wp_bOr, wp_bNot, wp_eIf, wp_eAnd, wp_eOr, wp_eNot, blCase_bl, wp_chain, wp_aNil, wp_aCons, wp_tup, wp_lst, wp_lstM, wp_call, wp_cl1, wp_cl2, wp_cl3, wp_cl4, wp_cl5, wp_meth, wp_isi, wp_oNone, wp_oSome, wp_sl, wp_it, wp_range1, wp_range2, wp_bYes, gEq_str, gNe_str, gEq_int, gNe_int, gEq_bl, gNe_bl, gIs_bl, gIsNot_bl, gAdd_int, gSub_int, gC_int, gI_int, gAdd_str, gAdd_tup, gAdd_lst, gNeg_int, gIx_tup, gIx_lst, gLen_tup, gLen_lst, gLen_str, gInt_int, gInt_bl, gTuple_lst, gTuple_tup, gList_lst, gList_tup, gSl_tup, gSl_lst, gSl_fl, gSl_str, srcL_tup, srcL_lst, srcL_fl, srcL_str, srcR1_int, typN, startR, List.map_cons, List.map_nil, List.length_cons, List.length_nil, Nat.reduceAdd, Nat.reduceSub, Nat.zero_add, Nat.sub_self, Nat.sub_zero, List.replicate_zero, List.replicate_succ, List.cons_append, List.nil_append, List.append_nil, List.getElem?_cons_zero, List.getElem?_cons_succ, List.set_cons_zero, List.set_cons_succ, List.set_nil, List.getElem?_nil, Option.some.injEq, exists_eq_left', exists_eq_left, exists_eq_right, reduceCtorEq, false_and, and_false, true_and, and_true, exists_false, exists_const, wipeR, Nat.zero_le, String.reduceEq, D.int.injEq, D.str.injEq, D.bl.injEq, atI_0, atI_1, atI_2, atI_3, atI_4, beq_self_eq_true, not_true_eq_false, not_false_eq_true, Int.cast_ofNat_Int, Int.reduceEq, Int.reduceLE, Int.reduceLT, Int.reduceAdd, Int.reduceSub, Int.reduceMul, Int.reduceNeg, if_true, if_false, ite_true, ite_false, Bool.false_eq_true, if_neg, if_pos, decide_eq_true_eq, Bool.not_eq_true', decide_eq_false_iff_not, eq_self_iff_true, decide_true, decide_false, Bool.not_true, Bool.not_false]
        exact ih t (m + 1) S _ _ (ht t htm) (by omega) hS ⟨rfl, rfl⟩
      · have e : (ts.map fun _ => D.bl true) = (ts.map fun _ => true).map D.bl := by simp
        rw [e, gAll_bls, show ((ts.map fun _ => true).all id) = true by simp]
        exact (fin_bl hS).mpr ((fin_bl hS).mpr hF)
end K63
namespace K63
open PySem L2 DL
variable {fu n : Nat} {S : Sto} {F : D → Sto → Prop} {E : Exc → Sto → Prop}
/-! codes -/
def wholeB : D → Bool
  | .int i => decide (0 ≤ i)
  | _ => false
def regB (many : Int) : D → Bool
  | .int i => decide (0 ≤ i ∧ i < many)
  | _ => false
def plain : D → Bool
  | .ref _ => false
  | _ => true
theorem whole_ok {d : D} (hd : plain d = true) (hS : WF S) (hF : F (.bl (wholeB d)) S) : wp (den fu (n + 1) i_is_whole [d] S) F E := by
  show wp (runDef false 1 (b_is_whole fu (den fu n)) _ _) _ _
  cases d with
  | int i => simp only [b_is_whole, isiN_ii, isiN_ib, fin_bl hS, wp_ok, wp_ret, wp_stuck, wp_bad, wp_bnd, wp_if, wp_fif, wps_ok_nx, wps_ok_rt, wps_ok_bk, wps_ok_ct, wps_ok_xc, wps_bad, wps_lft, wps_seq, wps_nil, wps_ret, wps_expr, wps_asg, wps_if, wp_run, wps_for, wps_while, wp_comp, wp_var, wp_C, wp_bin, wp_un, wp_T, wp_Tb, wp_asBl, wp_truthBl, wp_bAnd, wp_bOr, wp_bNot, wp_eIf, wp_eAnd, wp_eOr, wp_eNot, blCase_bl, wp_chain, wp_aNil, wp_aCons, wp_tup, wp_lst, wp_lstM, wp_call, wp_cl1, wp_cl2, wp_cl3, wp_cl4, wp_cl5, wp_meth, wp_isi, wp_oNone, wp_oSome, wp_sl, wp_it, wp_range1, wp_range2, wp_bYes, gEq_str, gNe_str, gEq_int, gNe_int, gEq_bl, gNe_bl, gIs_bl, gIsNot_bl, gAdd_int, gSub_int, gC_int, gI_int, gAdd_str, gAdd_tup, gAdd_lst, gNeg_int, gIx_tup, gIx_lst, gLen_tup, gLen_lst, gLen_str, gInt_int, gInt_bl, gTuple_lst, gTuple_tup, gList_lst, gList_tup, gSl_tup, gSl_lst, gSl_fl, gSl_str, srcL_tup, srcL_lst, srcL_fl, srcL_str, srcR1_int, typN, startR, List.map_cons, List.map_nil, List.length_cons, List.length_nil, Nat.reduceAdd, Nat.reduceSub, Nat.zero_add, Nat.sub_self, Nat.sub_zero, List.replicate_zero, List.replicate_succ, List.cons_append, List.nil_append, List.append_nil, List.getElem?_cons_zero, List.getElem?_cons_succ, List.set_cons_zero, List.set_cons_succ, List.set_nil, List.getElem?_nil, Option.some.injEq, exists_eq_left', exists_eq_left, exists_eq_right, reduceCtorEq, false_and, and_false, true_and, and_true, exists_false, exists_const, wipeR, Nat.zero_le, String.reduceEq, D.int.injEq, D.str.injEq, D.bl.injEq, atI_0, atI_1, atI_2, atI_3, atI_4, beq_self_eq_true, not_true_eq_false, not_false_eq_true, Int.cast_ofNat_Int, Int.reduceEq, Int.reduceLE, Int.reduceLT, Int.reduceAdd, Int.reduceSub, Int.reduceMul, Int.reduceNeg, if_true, if_false, ite_true, ite_false, Bool.false_eq_true, if_neg, if_pos, decide_eq_true_eq, Bool.not_eq_true', decide_eq_false_iff_not, eq_self_iff_true, decide_true, decide_false, Bool.not_true, Bool.not_false]; exact hF
  | bl b => simp only [b_is_whole, isiN_bi, isiN_bb, fin_bl hS, wp_ok, wp_ret, wp_stuck, wp_bad, wp_bnd, wp_if, wp_fif, wps_ok_nx, wps_ok_rt, wps_ok_bk, wps_ok_ct, wps_ok_xc, wps_bad, wps_lft, wps_seq, wps_nil, wps_ret, wps_expr, wps_asg, wps_if, wp_run, wps_for, wps_while, wp_comp, wp_var, wp_C, wp_bin, wp_un, wp_T, wp_Tb, wp_asBl, wp_truthBl, wp_bAnd, wp_bOr, wp_bNot, wp_eIf, wp_eAnd, wp_eOr, wp_eNot, blCase_bl, wp_chain, wp_aNil, wp_aCons, wp_tup, wp_lst, wp_lstM, wp_call, wp_cl1, wp_cl2, wp_cl3, wp_cl4, wp_cl5, wp_meth, wp_isi, wp_oNone, wp_oSome, wp_sl, wp_it, wp_range1, wp_range2, wp_bYes, gEq_str, gNe_str, gEq_int, gNe_int, gEq_bl, gNe_bl, gIs_bl, gIsNot_bl, gAdd_int, gSub_int, gC_int, gI_int, gAdd_str, gAdd_tup, gAdd_lst, gNeg_int, gIx_tup, gIx_lst, gLen_tup, gLen_lst, gLen_str, gInt_int, gInt_bl, gTuple_lst, gTuple_tup, gList_lst, gList_tup, gSl_tup, gSl_lst, gSl_fl, gSl_str, srcL_tup, srcL_lst, srcL_fl, srcL_str, srcR1_int, typN, startR, List.map_cons, List.map_nil, List.length_cons, List.length_nil, Nat.reduceAdd, Nat.reduceSub, Nat.zero_add, Nat.sub_self, Nat.sub_zero, List.replicate_zero, List.replicate_succ, List.cons_append, List.nil_append, List.append_nil, List.getElem?_cons_zero, List.getElem?_cons_succ, List.set_cons_zero, List.set_cons_succ, List.set_nil, List.getElem?_nil, Option.some.injEq, exists_eq_left', exists_eq_left, exists_eq_right, reduceCtorEq, false_and, and_false, true_and, and_true, exists_false, exists_const, wipeR, Nat.zero_le, String.reduceEq, D.int.injEq, D.str.injEq, D.bl.injEq, atI_0, atI_1, atI_2, atI_3, atI_4, beq_self_eq_true, not_true_eq_false, not_false_eq_true, Int.cast_ofNat_Int, Int.reduceEq, Int.reduceLE, Int.reduceLT, Int.reduceAdd, Int.reduceSub, Int.reduceMul, Int.reduceNeg, if_true, if_false, ite_true, ite_false, Bool.false_eq_true, if_neg, if_pos, decide_eq_true_eq, Bool.not_eq_true', decide_eq_false_iff_not, eq_self_iff_true, decide_true, decide_false, Bool.not_true, Bool.not_false]; exact hF
  | str b => simp only [b_is_whole, isiN_si, fin_bl hS, wp_ok, wp_ret, wp_stuck, wp_bad, wp_bnd, wp_if, wp_fif, wps_ok_nx, wps_ok_rt, wps_ok_bk, wps_ok_ct, wps_ok_xc, wps_bad, wps_lft, wps_seq, wps_nil, wps_ret, wps_expr, wps_asg, wps_if, wp_run, wps_for, wps_while, wp_comp, wp_var, wp_C, wp_bin, wp_un, wp_T, wp_Tb, wp_asBl, wp_truthBl, wp_bAnd, wp_bOr, wp_bNot, wp_eIf, wp_eAnd, wp_eOr, wp_eNot, blCase_bl, wp_chain, wp_aNil, wp_aCons, wp_tup, wp_lst, wp_lstM, wp_call, wp_cl1, wp_cl2, wp_cl3, wp_cl4, wp_cl5, wp_meth, wp_isi, wp_oNone, wp_oSome, wp_sl, wp_it, wp_range1, wp_range2, wp_bYes, gEq_str, gNe_str, gEq_int, gNe_int, gEq_bl, gNe_bl, gIs_bl, gIsNot_bl, gAdd_int, gSub_int, gC_int, gI_int, gAdd_str, gAdd_tup, gAdd_lst, gNeg_int, gIx_tup, gIx_lst, gLen_tup, gLen_lst, gLen_str, gInt_int, gInt_bl, gTuple_lst, gTuple_tup, gList_lst, gList_tup, gSl_tup, gSl_lst, gSl_fl, gSl_str, srcL_tup, srcL_lst, srcL_fl, srcL_str, srcR1_int, typN, startR, List.map_cons, List.map_nil, List.length_cons, List.length_nil, Nat.reduceAdd, Nat.reduceSub, Nat.zero_add, Nat.sub_self, Nat.sub_zero, List.replicate_zero, List.replicate_succ, List.cons_append, List.nil_append, List.append_nil, List.getElem?_cons_zero, List.getElem?_cons_succ, List.set_cons_zero, List.set_cons_succ, List.set_nil, List.getElem?_nil, Option.some.injEq, exists_eq_left', exists_eq_left, exists_eq_right, reduceCtorEq, false_and, and_false, true_and, and_true, exists_false, exists_const, wipeR, Nat.zero_le, String.reduceEq, D.int.injEq, D.str.injEq, D.bl.injEq, atI_0, atI_1, atI_2, atI_3, atI_4, beq_self_eq_true, not_true_eq_false, not_false_eq_true, Int.cast_ofNat_Int, Int.reduceEq, Int.reduceLE, Int.reduceLT, Int.reduceAdd, Int.reduceSub, Int.reduceMul, Int.reduceNeg, if_true, if_false, ite_true, ite_false, Bool.false_eq_true, if_neg, if_pos, decide_eq_true_eq, Bool.not_eq_true', decide_eq_false_iff_not, eq_self_iff_true, decide_true, decide_false, Bool.not_true, Bool.not_false]; exact hF
  | non => simp only [b_is_whole, isiN_ni, fin_bl hS, wp_ok, wp_ret, wp_stuck, wp_bad, wp_bnd, wp_if, wp_fif, wps_ok_nx, wps_ok_rt, wps_ok_bk, wps_ok_ct, wps_ok_xc, wps_bad, wps_lft, wps_seq, wps_nil, wps_ret, wps_expr, wps_asg, wps_if, wp_run, wps_for, wps_while, wp_comp, wp_var, wp_C, wp_bin, wp_un, wp_T, wp_Tb, wp_asBl, wp_truthBl, wp_bAnd, wp_bOr, wp_bNot, wp_eIf, wp_eAnd, wp_eOr, wp_eNot, blCase_bl, wp_chain, wp_aNil, wp_aCons, wp_tup, wp_lst, wp_lstM, wp_call, wp_cl1, wp_cl2, wp_cl3, wp_cl4, wp_cl5, wp_meth, wp_isi, wp_oNone, wp_oSome, wp_sl, wp_it, wp_range1, wp_range2, wp_bYes, gEq_str, gNe_str, gEq_int, gNe_int, gEq_bl, gNe_bl, gIs_bl, gIsNot_bl, gAdd_int, gSub_int, gC_int, gI_int, gAdd_str, gAdd_tup, gAdd_lst, gNeg_int, gIx_tup, gIx_lst, gLen_tup, gLen_lst, gLen_str, gInt_int, gInt_bl, gTuple_lst, gTuple_tup, gList_lst, gList_tup, gSl_tup, gSl_lst, gSl_fl, gSl_str, srcL_tup, srcL_lst, srcL_fl, srcL_str, srcR1_int, typN, startR, List.map_cons, List.map_nil, List.length_cons, List.length_nil, Nat.reduceAdd, Nat.reduceSub, Nat.zero_add, Nat.sub_self, Nat.sub_zero, List.replicate_zero, List.replicate_succ, List.cons_append, List.nil_append, List.append_nil, List.getElem?_cons_zero, List.getElem?_cons_succ, List.set_cons_zero, List.set_cons_succ, List.set_nil, List.getElem?_nil, Option.some.injEq, exists_eq_left', exists_eq_left, exists_eq_right, reduceCtorEq, false_and, and_false, true_and, and_true, exists_false, exists_const, wipeR, Nat.zero_le, String.reduceEq, D.int.injEq, D.str.injEq, D.bl.injEq, atI_0, atI_1, atI_2, atI_3, atI_4, beq_self_eq_true, not_true_eq_false, not_false_eq_true, Int.cast_ofNat_Int, Int.reduceEq, Int.reduceLE, Int.reduceLT, Int.reduceAdd, Int.reduceSub, Int.reduceMul, Int.reduceNeg, if_true, if_false, ite_true, ite_false, Bool.false_eq_true, if_neg, if_pos, decide_eq_true_eq, Bool.not_eq_true', decide_eq_false_iff_not, eq_self_iff_true, decide_true, decide_false, Bool.not_true, Bool.not_false]; exact hF
  | tup b => simp only [b_is_whole, isiN_ti, fin_bl hS, wp_ok, wp_ret, wp_stuck, wp_bad, wp_bnd, wp_if, wp_fif, wps_ok_nx, wps_ok_rt, wps_ok_bk, wps_ok_ct, wps_ok_xc, wps_bad, wps_lft, wps_seq, wps_nil, wps_ret, wps_expr, wps_asg, wps_if, wp_run, wps_for, wps_while, wp_comp, wp_var, wp_C, wp_bin, wp_un, wp_T, wp_Tb, wp_asBl, wp_truthBl, wp_bAnd, wp_bOr, wp_bNot, wp_eIf, wp_eAnd, wp_eOr, wp_eNot, blCase_bl, wp_chain, wp_aNil, wp_aCons, wp_tup, wp_lst, wp_lstM, wp_call, wp_cl1, wp_cl2, wp_cl3, wp_cl4, wp_cl5, wp_meth, wp_isi, wp_oNone, wp_oSome, wp_sl, wp_it, wp_range1, wp_range2, wp_bYes, gEq_str, gNe_str, gEq_int, gNe_int, gEq_bl, gNe_bl, gIs_bl, gIsNot_bl, gAdd_int, gSub_int, gC_int, gI_int, gAdd_str, gAdd_tup, gAdd_lst, gNeg_int, gIx_tup, gIx_lst, gLen_tup, gLen_lst, gLen_str, gInt_int, gInt_bl, gTuple_lst, gTuple_tup, gList_lst, gList_tup, gSl_tup, gSl_lst, gSl_fl, gSl_str, srcL_tup, srcL_lst, srcL_fl, srcL_str, srcR1_int, typN, startR, List.map_cons, List.map_nil, List.length_cons, List.length_nil, Nat.reduceAdd, Nat.reduceSub, Nat.zero_add, Nat.sub_self, Nat.sub_zero, List.replicate_zero, List.replicate_succ, List.cons_append, List.nil_append, List.append_nil, List.getElem?_cons_zero, List.getElem?_cons_succ, List.set_cons_zero, List.set_cons_succ, List.set_nil, List.getElem?_nil, Option.some.injEq, exists_eq_left', exists_eq_left, exists_eq_right, reduceCtorEq, false_and, and_false, true_and, and_true, exists_false, exists_const, wipeR, Nat.zero_le, String.reduceEq, D.int.injEq, D.str.injEq, D.bl.injEq, atI_0, atI_1, atI_2, atI_3, atI_4, beq_self_eq_true, not_true_eq_false, not_false_eq_true, Int.cast_ofNat_Int, Int.reduceEq, Int.reduceLE, Int.reduceLT, Int.reduceAdd, Int.reduceSub, Int.reduceMul, Int.reduceNeg, if_true, if_false, ite_true, ite_false, Bool.false_eq_true, if_neg, if_pos, decide_eq_true_eq, Bool.not_eq_true', decide_eq_false_iff_not, eq_self_iff_true, decide_true, decide_false, Bool.not_true, Bool.not_false]; exact hF
  | lst b => simp only [b_is_whole, show isiN "list" "int" = false by decide, fin_bl hS, wp_ok, wp_ret, wp_stuck, wp_bad, wp_bnd, wp_if, wp_fif, wps_ok_nx, wps_ok_rt, wps_ok_bk, wps_ok_ct, wps_ok_xc, wps_bad, wps_lft, wps_seq, wps_nil, wps_ret, wps_expr, wps_asg, wps_if, wp_run, wps_for, wps_while, wp_comp, wp_var, wp_C, wp_bin, wp_un, wp_T, wp_Tb, wp_asBl, wp_truthBl, wp_bAnd, wp_bOr, wp_bNot, wp_eIf, wp_eAnd, wp_eOr, wp_eNot, blCase_bl, wp_chain, wp_aNil, wp_aCons, wp_tup, wp_lst, wp_lstM, wp_call, wp_cl1, wp_cl2, wp_cl3, wp_cl4, wp_cl5, wp_meth, wp_isi, wp_oNone, wp_oSome, wp_sl, wp_it, wp_range1, wp_range2, wp_bYes, gEq_str, gNe_str, gEq_int, gNe_int, gEq_bl, gNe_bl, gIs_bl, gIsNot_bl, gAdd_int, gSub_int, gC_int, gI_int, gAdd_str, gAdd_tup, gAdd_lst, gNeg_int, gIx_tup, gIx_lst, gLen_tup, gLen_lst, gLen_str, gInt_int, gInt_bl, gTuple_lst, gTuple_tup, gList_lst, gList_tup, gSl_tup, gSl_lst, gSl_fl, gSl_str, srcL_tup, srcL_lst, srcL_fl, srcL_str, srcR1_int, typN, startR, List.map_cons, List.map_nil, List.length_cons, List.length_nil, Nat.reduceAdd, Nat.reduceSub, Nat.zero_add, Nat.sub_self, Nat.sub_zero, List.replicate_zero, List.replicate_succ, List.cons_append, List.nil_append, List.append_nil, List.getElem?_cons_zero, List.getElem?_cons_succ, List.set_cons_zero, List.set_cons_succ, List.set_nil, List.getElem?_nil, Option.some.injEq, exists_eq_left', exists_eq_left, exists_eq_right, reduceCtorEq, false_and, and_false, true_and, and_true, exists_false, exists_const, wipeR, Nat.zero_le, String.reduceEq, D.int.injEq, D.str.injEq, D.bl.injEq, atI_0, atI_1, atI_2, atI_3, atI_4, beq_self_eq_true, not_true_eq_false, not_false_eq_true, Int.cast_ofNat_Int, Int.reduceEq, Int.reduceLE, Int.reduceLT, Int.reduceAdd, Int.reduceSub, Int.reduceMul, Int.reduceNeg, if_true, if_false, ite_true, ite_false, Bool.false_eq_true, if_neg, if_pos, decide_eq_true_eq, Bool.not_eq_true', decide_eq_false_iff_not, eq_self_iff_true, decide_true, decide_false, Bool.not_true, Bool.not_false]; exact hF
  | fl b => simp only [b_is_whole, show isiN "list" "int" = false by decide, fin_bl hS, wp_ok, wp_ret, wp_stuck, wp_bad, wp_bnd, wp_if, wp_fif, wps_ok_nx, wps_ok_rt, wps_ok_bk, wps_ok_ct, wps_ok_xc, wps_bad, wps_lft, wps_seq, wps_nil, wps_ret, wps_expr, wps_asg, wps_if, wp_run, wps_for, wps_while, wp_comp, wp_var, wp_C, wp_bin, wp_un, wp_T, wp_Tb, wp_asBl, wp_truthBl, wp_bAnd, wp_bOr, wp_bNot, wp_eIf, wp_eAnd, wp_eOr, wp_eNot, blCase_bl, wp_chain, wp_aNil, wp_aCons, wp_tup, wp_lst, wp_lstM, wp_call, wp_cl1, wp_cl2, wp_cl3, wp_cl4, wp_cl5, wp_meth, wp_isi, wp_oNone, wp_oSome, wp_sl, wp_it, wp_range1, wp_range2, wp_bYes, gEq_str, gNe_str, gEq_int, gNe_int, gEq_bl, gNe_bl, gIs_bl, gIsNot_bl, gAdd_int, gSub_int, gC_int, gI_int, gAdd_str, gAdd_tup, gAdd_lst, gNeg_int, gIx_tup, gIx_lst, gLen_tup, gLen_lst, gLen_str, gInt_int, gInt_bl, gTuple_lst, gTuple_tup, gList_lst, gList_tup, gSl_tup, gSl_lst, gSl_fl, gSl_str, srcL_tup, srcL_lst, srcL_fl, srcL_str, srcR1_int, typN, startR, List.map_cons, List.map_nil, List.length_cons, List.length_nil, Nat.reduceAdd, Nat.reduceSub, Nat.zero_add, Nat.sub_self, Nat.sub_zero, List.replicate_zero, List.replicate_succ, List.cons_append, List.nil_append, List.append_nil, List.getElem?_cons_zero, List.getElem?_cons_succ, List.set_cons_zero, List.set_cons_succ, List.set_nil, List.getElem?_nil, Option.some.injEq, exists_eq_left', exists_eq_left, exists_eq_right, reduceCtorEq, false_and, and_false, true_and, and_true, exists_false, exists_const, wipeR, Nat.zero_le, String.reduceEq, D.int.injEq, D.str.injEq, D.bl.injEq, atI_0, atI_1, atI_2, atI_3, atI_4, beq_self_eq_true, not_true_eq_false, not_false_eq_true, Int.cast_ofNat_Int, Int.reduceEq, Int.reduceLE, Int.reduceLT, Int.reduceAdd, Int.reduceSub, Int.reduceMul, Int.reduceNeg, if_true, if_false, ite_true, ite_false, Bool.false_eq_true, if_neg, if_pos, decide_eq_true_eq, Bool.not_eq_true', decide_eq_false_iff_not, eq_self_iff_true, decide_true, decide_false, Bool.not_true, Bool.not_false]; exact hF
  | ref k => cases hd
def regsB (many : Int) : D → Bool
  | .tup ds => ds.all (regB many)
  | _ => false
theorem regs_ok {x : D} {many : Int} {N : Nat} (hN : 2 ≤ N) (hx : plain x = true) (hp : ∀ ds, x = .tup ds → ds.length ≤ 1000 ∧ ∀ d ∈ ds, plain d = true) (hS : WF S) (hF : F (.bl (regsB many x)) S) : wp (den fu N i_are_registers [x, .int many] S) F E := by
  obtain ⟨m, rfl⟩ : ∃ m, N = m + 2 := ⟨N - 2, by omega⟩
  show wp (runDef false 3 (b_are_registers fu (den fu (m + 1))) _ _) _ _
  cases x with
  | tup ds =>
    obtain ⟨hl, hq⟩ := hp ds rfl
    simp only [b_are_registers, isiN_tt, fin_bl hS, wp_ok, wp_ret, wp_stuck, wp_bad, wp_bnd, wp_if, wp_fif, wps_ok_nx, wps_ok_rt, wps_ok_bk, wps_ok_ct, wps_ok_xc, wps_bad, wps_lft, wps_seq, wps_nil, wps_ret, wps_expr, wps_asg, wps_if, wp_run, wps_for, wps_while, wp_comp, wp_var, wp_C, wp_bin, wp_un, wp_T, wp_Tb, wp_asBl, wp_truthBl, wp_bAnd, wp_bOr, wp_bNot, wp_eIf, wp_eAnd, wp_eOr, wp_eNot, blCase_bl, wp_chain, wp_aNil, wp_aCons, wp_tup, wp_lst, wp_lstM, wp_call, wp_cl1, wp_cl2, wp_cl3, wp_cl4, wp_cl5, wp_meth, wp_isi, wp_oNone, wp_oSome, wp_sl, wp_it, wp_range1, wp_range2, wp_bYes, gEq_str, gNe_str, gEq_int, gNe_int, gEq_bl, gNe_bl, gIs_bl, gIsNot_bl, gAdd_int, gSub_int, gC_int, gI_int, gAdd_str, gAdd_tup, gAdd_lst, gNeg_int, gIx_tup, gIx_lst, gLen_tup, gLen_lst, gLen_str, gInt_int, gInt_bl, gTuple_lst, gTuple_tup, gList_lst, gList_tup, gSl_tup, gSl_lst, gSl_fl, gSl_str, srcL_tup, srcL_lst, srcL_fl, srcL_str, srcR1_int, typN, startR, List.map_cons, List.map_nil, List.length_cons, List.length_nil, Nat.reduceAdd, Nat.reduceSub, Nat.zero_add, Nat.sub_self, Nat.sub_zero, List.replicate_zero, List.replicate_succ, List.cons_append, List.nil_append, List.append_nil, List.getElem?_cons_zero, List.getElem?_cons_succ, List.set_cons_zero, List.set_cons_succ, List.set_nil, List.getElem?_nil, Option.some.injEq, exists_eq_left', exists_eq_left, exists_eq_right, reduceCtorEq, false_and, and_false, true_and, and_true, exists_false, exists_const, wipeR, Nat.zero_le, String.reduceEq, D.int.injEq, D.str.injEq, D.bl.injEq, atI_0, atI_1, atI_2, atI_3, atI_4, beq_self_eq_true, not_true_eq_false, not_false_eq_true, Int.cast_ofNat_Int, Int.reduceEq, Int.reduceLE, Int.reduceLT, Int.reduceAdd, Int.reduceSub, Int.reduceMul, Int.reduceNeg, if_true, if_false, ite_true, ite_false, Bool.false_eq_true, if_neg, if_pos, decide_eq_true_eq, Bool.not_eq_true', decide_eq_false_iff_not, eq_self_iff_true, decide_true, decide_false, Bool.not_true, Bool.not_false]
    refine ⟨small_line (by omega), ?_⟩
    refine comp_pure (fun d => .bl (regB many d)) (fun d hd => ?_) ?_
    · simp only [wp_ok, wp_ret, wp_stuck, wp_bad, wp_bnd, wp_if, wp_fif, wps_ok_nx, wps_ok_rt, wps_ok_bk, wps_ok_ct, wps_ok_xc, wps_bad, wps_lft, wps_seq, wps_nil, wps_ret, wps_expr, wps_asg, wps_if, wp_run, wps_for, wps_while, wp_comp, wp_var, wp_C, wp_bin, wp_un, wp_T, wp_Tb, wp_asBl, wp_truthBl, wp_bAnd, wp_bOr, wp_bNot, wp_eIf, wp_eAnd, wp_eOr, wp_eNot, blCase_bl, wp_chain, wp_aNil, wp_aCons, wp_tup, wp_lst, wp_lstM, wp_call, wp_cl1, wp_cl2, wp_cl3, wp_cl4, wp_cl5, wp_meth, wp_isi, wp_oNone, wp_oSome, wp_sl, wp_it, wp_range1, wp_range2, wp_bYes, gEq_str, gNe_str, gEq_int, gNe_int, gEq_bl, gNe_bl, gIs_bl, gIsNot_bl, gAdd_int, gSub_int, gC_int, gI_int, gAdd_str, gAdd_tup, gAdd_lst, gNeg_int, gIx_tup, gIx_lst, gLen_tup, gLen_lst, gLen_str, gInt_int, gInt_bl, gTuple_lst, gTuple_tup, gList_lst, gList_tup, gSl_tup, gSl_lst, gSl_fl, gSl_str, srcL_tup, srcL_lst, srcL_fl, srcL_str, srcR1_int, typN, startR, List.map_cons, List.map_nil, List.length_cons, List.length_nil, Nat.reduceAdd, Nat.reduceSub, Nat.zero_add, Nat.sub_self, Nat.sub_zero, List.replicate_zero, List.replicate_succ, List.cons_append, List.nil_append, List.append_nil, List.getElem?_cons_zero, List.getElem?_cons_succ, List.set_cons_zero, List.set_cons_succ, List.set_nil, List.getElem?_nil, Option.some.injEq, exists_eq_left', exists_eq_left, exists_eq_right, reduceCtorEq, false_and, and_false, true_and, and_true, exists_false, exists_const, wipeR, Nat.zero_le, String.reduceEq, D.int.injEq, D.str.injEq, D.bl.injEq, atI_0, atI_1, atI_2, atI_3, atI_4, beq_self_eq_true, not_true_eq_false, not_false_eq_true, Int.cast_ofNat_Int, Int.reduceEq, Int.reduceLE, Int.reduceLT, Int.reduceAdd, Int.reduceSub, Int.reduceMul, Int.reduceNeg, if_true, if_false, ite_true, ite_false, Bool.false_eq_true, if_neg, if_pos, decide_eq_true_eq, Bool.not_eq_true', decide_eq_false_iff_not, eq_self_iff_true, decide_true, decide_false, Bool.not_true, Bool.not_false]
      refine whole_ok (hq d hd) hS ?_
      cases d with
      | int i =>
        simp only [wholeB, regB, wp_ok, wp_ret, wp_stuck, wp_bad, wp_bnd, wp_if, wp_fif, wps_ok_nx, wps_ok_rt, wps_ok_bk, wps_ok_ct, wps_ok_xc, wps_bad, wps_lft, wps_seq, wps_nil, wps_ret, wps_expr, wps_asg, wps_if, wp_run, wps_for, wps_while, wp_comp, wp_var, wp_C, wp_bin, wp_un, wp_T, wp_Tb, wp_asBl, wp_truthBl, wp_bAnd, wp_bOr, wp_bNot, wp_eIf, wp_eAnd, wp_eOr, wp_eNot, blCase_bl, wp_chain, wp_aNil, wp_aCons, wp_tup, wp_lst, wp_lstM, wp_call, wp_cl1, wp_cl2, wp_cl3, wp_cl4, wp_cl5, wp_meth, wp_isi, wp_oNone, wp_oSome, wp_sl, wp_it, wp_range1, wp_range2, wp_bYes, gEq_str, gNe_str, gEq_int, gNe_int, gEq_bl, gNe_bl, gIs_bl, gIsNot_bl, gAdd_int, gSub_int, gC_int, gI_int, gAdd_str, gAdd_tup, gAdd_lst, gNeg_int, gIx_tup, gIx_lst, gLen_tup, gLen_lst, gLen_str, gInt_int, gInt_bl, gTuple_lst, gTuple_tup, gList_lst, gList_tup, gSl_tup, gSl_lst, gSl_fl, gSl_str, srcL_tup, srcL_lst, srcL_fl, srcL_str, srcR1_int, typN, startR, List.map_cons, List.map_nil, List.length_cons, List.length_nil, Nat.reduceAdd, Nat.reduceSub, Nat.zero_add, Nat.sub_self, Nat.sub_zero, List.replicate_zero, List.replicate_succ, List.cons_append, List.nil_append, List.append_nil, List.getElem?_cons_zero, List.getElem?_cons_succ, List.set_cons_zero, List.set_cons_succ, List.set_nil, List.getElem?_nil, Option.some.injEq, exists_eq_left', exists_eq_left, exists_eq_right, reduceCtorEq, false_and, and_false, true_and, and_true, exists_false, exists_const, wipeR, Nat.zero_le, String.reduceEq, D.int.injEq, D.str.injEq, D.bl.injEq, atI_0, atI_1, atI_2, atI_3, atI_4, beq_self_eq_true, not_true_eq_false, not_false_eq_true, Int.cast_ofNat_Int, Int.reduceEq, Int.reduceLE, Int.reduceLT, Int.reduceAdd, Int.reduceSub, Int.reduceMul, Int.reduceNeg, if_true, if_false, ite_true, ite_false, Bool.false_eq_true, if_neg, if_pos, decide_eq_true_eq, Bool.not_eq_true', decide_eq_false_iff_not, eq_self_iff_true, decide_true, decide_false, Bool.not_true, Bool.not_false]
        by_cases h : 0 ≤ i
        · rw [if_pos h]; simp [h]
        · rw [if_neg h]; simp [h]
      | _ => simp only [wholeB, regB, wp_ok, wp_ret, wp_stuck, wp_bad, wp_bnd, wp_if, wp_fif, wps_ok_nx, wps_ok_rt, wps_ok_bk, wps_ok_ct, wps_ok_xc, wps_bad, wps_lft, wps_seq, wps_nil, wps_ret, wps_expr, wps_asg, wps_if, wp_run, wps_for, wps_while, wp_comp, wp_var, wp_C, wp_bin, wp_un, wp_T, wp_Tb, wp_asBl, wp_truthBl, wp_bAnd, wp_bOr, wp_bNot, wp_eIf, wp_eAnd, wp_eOr, wp_eNot, blCase_bl, wp_chain, wp_aNil, wp_aCons, wp_tup, wp_lst, wp_lstM, wp_call, wp_cl1, wp_cl2, wp_cl3, wp_cl4, wp_cl5, wp_meth, wp_isi, wp_oNone, wp_oSome, wp_sl, wp_it, wp_range1, wp_range2, wp_bYes, gEq_str, gNe_str, gEq_int, gNe_int, gEq_bl, gNe_bl, gIs_bl, gIsNot_bl, gAdd_int, gSub_int, gC_int, gI_int, gAdd_str, gAdd_tup, gAdd_lst, gNeg_int, gIx_tup, gIx_lst, gLen_tup, gLen_lst, gLen_str, gInt_int, gInt_bl, gTuple_lst, gTuple_tup, gList_lst, gList_tup, gSl_tup, gSl_lst, gSl_fl, gSl_str, srcL_tup, srcL_lst, srcL_fl, srcL_str, srcR1_int, typN, startR, List.map_cons, List.map_nil, List.length_cons, List.length_nil, Nat.reduceAdd, Nat.reduceSub, Nat.zero_add, Nat.sub_self, Nat.sub_zero, List.replicate_zero, List.replicate_succ, List.cons_append, List.nil_append, List.append_nil, List.getElem?_cons_zero, List.getElem?_cons_succ, List.set_cons_zero, List.set_cons_succ, List.set_nil, List.getElem?_nil, Option.some.injEq, exists_eq_left', exists_eq_left, exists_eq_right, reduceCtorEq, false_and, and_false, true_and, and_true, exists_false, exists_const, wipeR, Nat.zero_le, String.reduceEq, D.int.injEq, D.str.injEq, D.bl.injEq, atI_0, atI_1, atI_2, atI_3, atI_4, beq_self_eq_true, not_true_eq_false, not_false_eq_true, Int.cast_ofNat_Int, Int.reduceEq, Int.reduceLE, Int.reduceLT, Int.reduceAdd, Int.reduceSub, Int.reduceMul, Int.reduceNeg, if_true, if_false, ite_true, ite_false, Bool.false_eq_true, if_neg, if_pos, decide_eq_true_eq, Bool.not_eq_true', decide_eq_false_iff_not, eq_self_iff_true, decide_true, decide_false, Bool.not_true, Bool.not_false]
    · have e : (ds.map fun d => D.bl (regB many d)) = (ds.map (regB many)).map D.bl := by simp
      rw [e, gAll_bls]
      refine (fin_bl hS).mpr ?_
      have e2 : ((ds.map (regB many)).all id) = ds.all (regB many) := by simp
      rw [e2]; exact hF
  | int i => simp only [b_are_registers, isiN_it, fin_bl hS, wp_ok, wp_ret, wp_stuck, wp_bad, wp_bnd, wp_if, wp_fif, wps_ok_nx, wps_ok_rt, wps_ok_bk, wps_ok_ct, wps_ok_xc, wps_bad, wps_lft, wps_seq, wps_nil, wps_ret, wps_expr, wps_asg, wps_if, wp_run, wps_for, wps_while, wp_comp, wp_var, wp_C, wp_bin, wp_un, wp_T, wp_Tb, wp_asBl, wp_truthBl, wp_bAnd, wp_bOr, wp_bNot, wp_eIf, wp_eAnd, wp_eOr, wp_eNot, blCase_bl, wp_chain, wp_aNil, wp_aCons, wp_tup, wp_lst, wp_lstM, wp_call, wp_cl1, wp_cl2, wp_cl3, wp_cl4, wp_cl5, wp_meth, wp_isi, wp_oNone, wp_oSome, wp_sl, wp_it, wp_range1, wp_range2, wp_bYes, gEq_str, gNe_str, gEq_int, gNe_int, gEq_bl, gNe_bl, gIs_bl, gIsNot_bl, gAdd_int, gSub_int, gC_int, gI_int, gAdd_str, gAdd_tup, gAdd_lst, gNeg_int, gIx_tup, gIx_lst, gLen_tup, gLen_lst, gLen_str, gInt_int, gInt_bl, gTuple_lst, gTuple_tup, gList_lst, gList_tup, gSl_tup, gSl_lst, gSl_fl, gSl_str, srcL_tup, srcL_lst, srcL_fl, srcL_str, srcR1_int, typN, startR, List.map_cons, List.map_nil, List.length_cons, List.length_nil, Nat.reduceAdd, Nat.reduceSub, Nat.zero_add, Nat.sub_self, Nat.sub_zero, List.replicate_zero, List.replicate_succ, List.cons_append, List.nil_append, List.append_nil, List.getElem?_cons_zero, List.getElem?_cons_succ, List.set_cons_zero, List.set_cons_succ, List.set_nil, List.getElem?_nil, Option.some.injEq, exists_eq_left', exists_eq_left, exists_eq_right, reduceCtorEq, false_and, and_false, true_and, and_true, exists_false, exists_const, wipeR, Nat.zero_le, String.reduceEq, D.int.injEq, D.str.injEq, D.bl.injEq, atI_0, atI_1, atI_2, atI_3, atI_4, beq_self_eq_true, not_true_eq_false, not_false_eq_true, Int.cast_ofNat_Int, Int.reduceEq, Int.reduceLE, Int.reduceLT, Int.reduceAdd, Int.reduceSub, Int.reduceMul, Int.reduceNeg, if_true, if_false, ite_true, ite_false, Bool.false_eq_true, if_neg, if_pos, decide_eq_true_eq, Bool.not_eq_true', decide_eq_false_iff_not, eq_self_iff_true, decide_true, decide_false, Bool.not_true, Bool.not_false]; exact hF
  | bl i => simp only [b_are_registers, isiN_bt, fin_bl hS, wp_ok, wp_ret, wp_stuck, wp_bad, wp_bnd, wp_if, wp_fif, wps_ok_nx, wps_ok_rt, wps_ok_bk, wps_ok_ct, wps_ok_xc, wps_bad, wps_lft, wps_seq, wps_nil, wps_ret, wps_expr, wps_asg, wps_if, wp_run, wps_for, wps_while, wp_comp, wp_var, wp_C, wp_bin, wp_un, wp_T, wp_Tb, wp_asBl, wp_truthBl, wp_bAnd, wp_bOr, wp_bNot, wp_eIf, wp_eAnd, wp_eOr, wp_eNot, blCase_bl, wp_chain, wp_aNil, wp_aCons, wp_tup, wp_lst, wp_lstM, wp_call, wp_cl1, wp_cl2, wp_cl3, wp_cl4, wp_cl5, wp_meth, wp_isi, wp_oNone, wp_oSome, wp_sl, wp_it, wp_range1, wp_range2, wp_bYes, gEq_str, gNe_str, gEq_int, gNe_int, gEq_bl, gNe_bl, gIs_bl, gIsNot_bl, gAdd_int, gSub_int, gC_int, gI_int, gAdd_str, gAdd_tup, gAdd_lst, gNeg_int, gIx_tup, gIx_lst, gLen_tup, gLen_lst, gLen_str, gInt_int, gInt_bl, gTuple_lst, gTuple_tup, gList_lst, gList_tup, gSl_tup, gSl_lst, gSl_fl, gSl_str, srcL_tup, srcL_lst, srcL_fl, srcL_str, srcR1_int, typN, startR, List.map_cons, List.map_nil, List.length_cons, List.length_nil, Nat.reduceAdd, Nat.reduceSub, Nat.zero_add, Nat.sub_self, Nat.sub_zero, List.replicate_zero, List.replicate_succ, List.cons_append, List.nil_append, List.append_nil, List.getElem?_cons_zero, List.getElem?_cons_succ, List.set_cons_zero, List.set_cons_succ, List.set_nil, List.getElem?_nil, Option.some.injEq, exists_eq_left', exists_eq_left, exists_eq_right, reduceCtorEq, false_and, and_false, true_and, and_true, exists_false, exists_const, wipeR, Nat.zero_le, String.reduceEq, D.int.injEq, D.str.injEq, D.bl.injEq, atI_0, atI_1, atI_2, atI_3, atI_4, beq_self_eq_true, not_true_eq_false, not_false_eq_true, Int.cast_ofNat_Int, Int.reduceEq, Int.reduceLE, Int.reduceLT, Int.reduceAdd, Int.reduceSub, Int.reduceMul, Int.reduceNeg, if_true, if_false, ite_true, ite_false, Bool.false_eq_true, if_neg, if_pos, decide_eq_true_eq, Bool.not_eq_true', decide_eq_false_iff_not, eq_self_iff_true, decide_true, decide_false, Bool.not_true, Bool.not_false]; exact hF
  | str i => simp only [b_are_registers, isiN_st, fin_bl hS, wp_ok, wp_ret, wp_stuck, wp_bad, wp_bnd, wp_if, wp_fif, wps_ok_nx, wps_ok_rt, wps_ok_bk, wps_ok_ct, wps_ok_xc, wps_bad, wps_lft, wps_seq, wps_nil, wps_ret, wps_expr, wps_asg, wps_if, wp_run, wps_for, wps_while, wp_comp, wp_var, wp_C, wp_bin, wp_un, wp_T, wp_Tb, wp_asBl, wp_truthBl, wp_bAnd, wp_bOr, wp_bNot, wp_eIf, wp_eAnd, wp_eOr, wp_eNot, blCase_bl, wp_chain, wp_aNil, wp_aCons, wp_tup, wp_lst, wp_lstM, wp_call, wp_cl1, wp_cl2, wp_cl3, wp_cl4, wp_cl5, wp_meth, wp_isi, wp_oNone, wp_oSome, wp_sl, wp_it, wp_range1, wp_range2, wp_bYes, gEq_str, gNe_str, gEq_int, gNe_int, gEq_bl, gNe_bl, gIs_bl, gIsNot_bl, gAdd_int, gSub_int, gC_int, gI_int, gAdd_str, gAdd_tup, gAdd_lst, gNeg_int, gIx_tup, gIx_lst, gLen_tup, gLen_lst, gLen_str, gInt_int, gInt_bl, gTuple_lst, gTuple_tup, gList_lst, gList_tup, gSl_tup, gSl_lst, gSl_fl, gSl_str, srcL_tup, srcL_lst, srcL_fl, srcL_str, srcR1_int, typN, startR, List.map_cons, List.map_nil, List.length_cons, List.length_nil, Nat.reduceAdd, Nat.reduceSub, Nat.zero_add, Nat.sub_self, Nat.sub_zero, List.replicate_zero, List.replicate_succ, List.cons_append, List.nil_append, List.append_nil, List.getElem?_cons_zero, List.getElem?_cons_succ, List.set_cons_zero, List.set_cons_succ, List.set_nil, List.getElem?_nil, Option.some.injEq, exists_eq_left', exists_eq_left, exists_eq_right, reduceCtorEq, false_and, and_false, true_and, and_true, exists_false, exists_const, wipeR, Nat.zero_le, String.reduceEq, D.int.injEq, D.str.injEq, D.bl.injEq, atI_0, atI_1, atI_2, atI_3, atI_4, beq_self_eq_true, not_true_eq_false, not_false_eq_true, Int.cast_ofNat_Int, Int.reduceEq, Int.reduceLE, Int.reduceLT, Int.reduceAdd, Int.reduceSub, Int.reduceMul, Int.reduceNeg, if_true, if_false, ite_true, ite_false, Bool.false_eq_true, if_neg, if_pos, decide_eq_true_eq, Bool.not_eq_true', decide_eq_false_iff_not, eq_self_iff_true, decide_true, decide_false, Bool.not_true, Bool.not_false]; exact hF
  | non => simp only [b_are_registers, isiN_nt, fin_bl hS, wp_ok, wp_ret, wp_stuck, wp_bad, wp_bnd, wp_if, wp_fif, wps_ok_nx, wps_ok_rt, wps_ok_bk, wps_ok_ct, wps_ok_xc, wps_bad, wps_lft, wps_seq, wps_nil, wps_ret, wps_expr, wps_asg, wps_if, wp_run, wps_for, wps_while, wp_comp, wp_var, wp_C, wp_bin, wp_un, wp_T, wp_Tb, wp_asBl, wp_truthBl, wp_bAnd, wp_bOr, wp_bNot, wp_eIf, wp_eAnd, wp_eOr, wp_eNot, blCase_bl, wp_chain, wp_aNil, wp_aCons, wp_tup, wp_lst, wp_lstM, wp_call, wp_cl1, wp_cl2, wp_cl3, wp_cl4, wp_cl5, wp_meth, wp_isi, wp_oNone, wp_oSome, wp_sl, wp_it, wp_range1, wp_range2, wp_bYes, gEq_str, gNe_str, gEq_int, gNe_int, gEq_bl, gNe_bl, gIs_bl, gIsNot_bl, gAdd_int, gSub_int, gC_int, gI_int, gAdd_str, gAdd_tup, gAdd_lst, gNeg_int, gIx_tup, gIx_lst, gLen_tup, gLen_lst, gLen_str, gInt_int, gInt_bl, gTuple_lst, gTuple_tup, gList_lst, gList_tup, gSl_tup, gSl_lst, gSl_fl, gSl_str, srcL_tup, srcL_lst, srcL_fl, srcL_str, srcR1_int, typN, startR, List.map_cons, List.map_nil, List.length_cons, List.length_nil, Nat.reduceAdd, Nat.reduceSub, Nat.zero_add, Nat.sub_self, Nat.sub_zero, List.replicate_zero, List.replicate_succ, List.cons_append, List.nil_append, List.append_nil, List.getElem?_cons_zero, List.getElem?_cons_succ, List.set_cons_zero, List.set_cons_succ, List.set_nil, List.getElem?_nil, Option.some.injEq, exists_eq_left', exists_eq_left, exists_eq_right, reduceCtorEq, false_and, and_false, true_and, and_true, exists_false, exists_const, wipeR, Nat.zero_le, String.reduceEq, D.int.injEq, D.str.injEq, D.bl.injEq, atI_0, atI_1, atI_2, atI_3, atI_4, beq_self_eq_true, not_true_eq_false, not_false_eq_true, Int.cast_ofNat_Int, Int.reduceEq, Int.reduceLE, Int.reduceLT, Int.reduceAdd, Int.reduceSub, Int.reduceMul, Int.reduceNeg, if_true, if_false, ite_true, ite_false, Bool.false_eq_true, if_neg, if_pos, decide_eq_true_eq, Bool.not_eq_true', decide_eq_false_iff_not, eq_self_iff_true, decide_true, decide_false, Bool.not_true, Bool.not_false]; exact hF
  | lst i => simp only [b_are_registers, isiN_lt, fin_bl hS, wp_ok, wp_ret, wp_stuck, wp_bad, wp_bnd, wp_if, wp_fif, wps_ok_nx, wps_ok_rt, wps_ok_bk, wps_ok_ct, wps_ok_xc, wps_bad, wps_lft, wps_seq, wps_nil, wps_ret, wps_expr, wps_asg, wps_if, wp_run, wps_for, wps_while, wp_comp, wp_var, wp_C, wp_bin, wp_un, wp_T, wp_Tb, wp_asBl, wp_truthBl, wp_bAnd, wp_bOr, wp_bNot, wp_eIf, wp_eAnd, wp_eOr, wp_eNot, blCase_bl, wp_chain, wp_aNil, wp_aCons, wp_tup, wp_lst, wp_lstM, wp_call, wp_cl1, wp_cl2, wp_cl3, wp_cl4, wp_cl5, wp_meth, wp_isi, wp_oNone, wp_oSome, wp_sl, wp_it, wp_range1, wp_range2, wp_bYes, gEq_str, gNe_str, gEq_int, gNe_int, gEq_bl, gNe_bl, gIs_bl, gIsNot_bl, gAdd_int, gSub_int, gC_int, gI_int, gAdd_str, gAdd_tup, gAdd_lst, gNeg_int, gIx_tup, gIx_lst, gLen_tup, gLen_lst, gLen_str, gInt_int, gInt_bl, gTuple_lst, gTuple_tup, gList_lst, gList_tup, gSl_tup, gSl_lst, gSl_fl, gSl_str, srcL_tup, srcL_lst, srcL_fl, srcL_str, srcR1_int, typN, startR, List.map_cons, List.map_nil, List.length_cons, List.length_nil, Nat.reduceAdd, Nat.reduceSub, Nat.zero_add, Nat.sub_self, Nat.sub_zero, List.replicate_zero, List.replicate_succ, List.cons_append, List.nil_append, List.append_nil, List.getElem?_cons_zero, List.getElem?_cons_succ, List.set_cons_zero, List.set_cons_succ, List.set_nil, List.getElem?_nil, Option.some.injEq, exists_eq_left', exists_eq_left, exists_eq_right, reduceCtorEq, false_and, and_false, true_and, and_true, exists_false, exists_const, wipeR, Nat.zero_le, String.reduceEq, D.int.injEq, D.str.injEq, D.bl.injEq, atI_0, atI_1, atI_2, atI_3, atI_4, beq_self_eq_true, not_true_eq_false, not_false_eq_true, Int.cast_ofNat_Int, Int.reduceEq, Int.reduceLE, Int.reduceLT, Int.reduceAdd, Int.reduceSub, Int.reduceMul, Int.reduceNeg, if_true, if_false, ite_true, ite_false, Bool.false_eq_true, if_neg, if_pos, decide_eq_true_eq, Bool.not_eq_true', decide_eq_false_iff_not, eq_self_iff_true, decide_true, decide_false, Bool.not_true, Bool.not_false]; exact hF
  | fl i => simp only [b_are_registers, isiN_lt, fin_bl hS, wp_ok, wp_ret, wp_stuck, wp_bad, wp_bnd, wp_if, wp_fif, wps_ok_nx, wps_ok_rt, wps_ok_bk, wps_ok_ct, wps_ok_xc, wps_bad, wps_lft, wps_seq, wps_nil, wps_ret, wps_expr, wps_asg, wps_if, wp_run, wps_for, wps_while, wp_comp, wp_var, wp_C, wp_bin, wp_un, wp_T, wp_Tb, wp_asBl, wp_truthBl, wp_bAnd, wp_bOr, wp_bNot, wp_eIf, wp_eAnd, wp_eOr, wp_eNot, blCase_bl, wp_chain, wp_aNil, wp_aCons, wp_tup, wp_lst, wp_lstM, wp_call, wp_cl1, wp_cl2, wp_cl3, wp_cl4, wp_cl5, wp_meth, wp_isi, wp_oNone, wp_oSome, wp_sl, wp_it, wp_range1, wp_range2, wp_bYes, gEq_str, gNe_str, gEq_int, gNe_int, gEq_bl, gNe_bl, gIs_bl, gIsNot_bl, gAdd_int, gSub_int, gC_int, gI_int, gAdd_str, gAdd_tup, gAdd_lst, gNeg_int, gIx_tup, gIx_lst, gLen_tup, gLen_lst, gLen_str, gInt_int, gInt_bl, gTuple_lst, gTuple_tup, gList_lst, gList_tup, gSl_tup, gSl_lst, gSl_fl, gSl_str, srcL_tup, srcL_lst, srcL_fl, srcL_str, srcR1_int, typN, startR, List.map_cons, List.map_nil, List.length_cons, List.length_nil, Nat.reduceAdd, Nat.reduceSub, Nat.zero_add, Nat.sub_self, Nat.sub_zero, List.replicate_zero, List.replicate_succ, List.cons_append, List.nil_append, List.append_nil, List.getElem?_cons_zero, List.getElem?_cons_succ, List.set_cons_zero, List.set_cons_succ, List.set_nil, List.getElem?_nil, Option.some.injEq, exists_eq_left', exists_eq_left, exists_eq_right, reduceCtorEq, false_and, and_false, true_and, and_true, exists_false, exists_const, wipeR, Nat.zero_le, String.reduceEq, D.int.injEq, D.str.injEq, D.bl.injEq, atI_0, atI_1, atI_2, atI_3, atI_4, beq_self_eq_true, not_true_eq_false, not_false_eq_true, Int.cast_ofNat_Int, Int.reduceEq, Int.reduceLE, Int.reduceLT, Int.reduceAdd, Int.reduceSub, Int.reduceMul, Int.reduceNeg, if_true, if_false, ite_true, ite_false, Bool.false_eq_true, if_neg, if_pos, decide_eq_true_eq, Bool.not_eq_true', decide_eq_false_iff_not, eq_self_iff_true, decide_true, decide_false, Bool.not_true, Bool.not_false]; exact hF
  | ref k => cases hx
def Reg (many : Nat) (d : D) : Prop := ∃ i : Nat, d = .int i ∧ i < many
theorem Reg.b {many : Nat} {d : D} (h : Reg many d) : regB many d = true := by
  obtain ⟨i, rfl, h⟩ := h
  simp [regB]; omega
theorem Reg.plain {many : Nat} {d : D} (h : Reg many d) : plain d = true := by obtain ⟨i, rfl, h⟩ := h; rfl
theorem Reg.mono {m m' : Nat} {d : D} (h : Reg m d) (l : m ≤ m') : Reg m' d := by obtain ⟨i, rfl, h⟩ := h; exact ⟨i, rfl, by omega⟩
def pairs : List Str := ["plus", "minus", "times", "less", "same", "put", "join"]
theorem k_PAIRS_eq : k_PAIRS = .tup (pairs.map .str) := rfl
def OpG (CG : Nat → Nat → D → Prop) (many made : Nat) (op : D) : Prop :=
  (made = 1 ∧ ∃ t, op = .tup [.str "push", t] ∧ ThG 2 t) ∨ (made = 1 ∧ ∃ a, op = .tup [.str "wrap", a] ∧ Reg many a) ∨
  (made = 1 ∧ ∃ w a b, op = .tup [.str w, a, b] ∧ w ∈ pairs ∧ Reg many a ∧ Reg many b) ∨
  ∃ one args side other, op = .tup [.str "if", one, .tup args, side, other] ∧ Reg many one ∧ (∀ a ∈ args, Reg many a) ∧ args.length ≤ 3 ∧ made ≤ 3 ∧ CG args.length made side ∧ CG args.length made other
def OpsG (CG : Nat → Nat → D → Prop) : Nat → List D → Nat → Prop
  | many, [], e => e = many
  | many, op :: r, e => ∃ made, OpG CG many made op ∧ OpsG CG (many + made) r e
def CodeG : Nat → Nat → Nat → D → Prop
  | 0 => fun _ _ _ => False
  | k + 1 => fun takes wide d => ∃ ops outs e, d = .tup [.int takes, .tup ops, .tup outs] ∧ ops.length ≤ 7 ∧ takes ≤ 4 ∧ OpsG (CodeG k) takes ops e ∧ outs.length = wide ∧ wide ≤ 5 ∧ (∀ o ∈ outs, Reg e o) ∧ 0 < e
theorem OpG.made {CG : Nat → Nat → D → Prop} {many made : Nat} {op : D} (h : OpG CG many made op) : made ≤ 3 := by
  rcases h with ⟨rfl, _⟩ | ⟨rfl, _⟩ | ⟨rfl, _⟩ | ⟨_, _, _, _, _, _, _, _, h, _⟩ <;> omega
theorem OpsG.le {CG : Nat → Nat → D → Prop} : ∀ {ops : List D} {m e : Nat}, OpsG CG m ops e → m ≤ e ∧ e ≤ m + 3 * ops.length
  | [], m, e, h => by have : e = m := h; simp; omega
  | op :: r, m, e, ⟨made, h1, h2⟩ => by
    have := OpsG.le h2
    have := h1.made
    simp; omega
theorem OpsG.app {CG : Nat → Nat → D → Prop} : ∀ {a b : List D} {m e f : Nat}, OpsG CG m a e → OpsG CG e b f → OpsG CG m (a ++ b) f
  | [], _, m, e, f, h, g => by have : e = m := h; subst this; exact g
  | op :: r, _, m, e, f, ⟨made, h1, h2⟩, g => ⟨made, h1, OpsG.app h2 g⟩
theorem OpG.mono {CG : Nat → Nat → D → Prop} {m m' made : Nat} {op : D} (h : OpG CG m made op) (l : m ≤ m') : OpG CG m' made op := by
  rcases h with h | ⟨e, a, h1, h2⟩ | ⟨e, w, a, b, h1, h2, h3, h4⟩ | ⟨one, args, side, other, h1, h2, h3, h4⟩
  · exact .inl h
  · exact .inr (.inl ⟨e, a, h1, h2.mono l⟩)
  · exact .inr (.inr (.inl ⟨e, w, a, b, h1, h2, h3.mono l, h4.mono l⟩))
  · exact .inr (.inr (.inr ⟨one, args, side, other, h1, h2.mono l, fun a ha => (h3 a ha).mono l, h4⟩))
theorem OpsG.mono {CG : Nat → Nat → D → Prop} : ∀ {ops : List D} {m e : Nat} (j : Nat), OpsG CG m ops e → OpsG CG (m + j) ops (e + j)
  | [], m, e, j, h => by have : e = m := h; show e + j = m + j; omega
  | op :: r, m, e, j, ⟨made, h1, h2⟩ => ⟨made, h1.mono (by omega), by have := OpsG.mono j h2; rwa [show m + made + j = m + j + made by omega] at this⟩
theorem CodeG.shape {k t w : Nat} {c : D} (h : CodeG k t w c) : ∃ ops outs e, c = .tup [.int t, .tup ops, .tup outs] ∧ outs.length = w ∧ ∃ k', k = k' + 1 ∧ OpsG (CodeG k') t ops e ∧ (∀ o ∈ outs, Reg e o) ∧ 0 < e ∧ ops.length ≤ 7 ∧ t ≤ 4 ∧ w ≤ 5 := by
  cases k with
  | zero => exact h.elim
  | succ k =>
    obtain ⟨ops, outs, e, rfl, h1, h2, h3, h4, h5, h6, h7⟩ := h
    exact ⟨ops, outs, e, rfl, h4, k, rfl, h3, h6, h7, h1, h2, h5⟩
theorem made_ok {k many made : Nat} {op : D} (hS : WF S) (h : OpG (CodeG k) many made op) (hF : F (.int made) S) : wp (den fu (n + 1) i_made_by [op] S) F E := by
  show wp (runDef false 1 (b_made_by fu (den fu n)) _ _) _ _
  rcases h with ⟨rfl, t, rfl, _⟩ | ⟨rfl, a, rfl, _⟩ | ⟨rfl, w, a, b, rfl, hw, _⟩ | ⟨one, args, side, other, rfl, _, _, _, _, h1, h2⟩
  · simp only [b_made_by, fin_int hS, ofString_inj, wp_ok, wp_ret, wp_stuck, wp_bad, wp_bnd, wp_if, wp_fif, wps_ok_nx, wps_ok_rt, wps_ok_bk, wps_ok_ct, wps_ok_xc, wps_bad, wps_lft, wps_seq, wps_nil, wps_ret, wps_expr, wps_asg, wps_if, wp_run, wps_for, wps_while, wp_comp, wp_var, wp_C, wp_bin, wp_un, wp_T, wp_Tb, wp_asBl, wp_truthBl, wp_bAnd, wp_bOr, wp_bNot, wp_eIf, wp_eAnd, wp_eOr, wp_eNot, blCase_bl, wp_chain, wp_aNil, wp_aCons, wp_tup, wp_lst, wp_lstM, wp_call, wp_cl1, wp_cl2, wp_cl3, wp_cl4, wp_cl5, wp_meth, wp_isi, wp_oNone, wp_oSome, wp_sl, wp_it, wp_range1, wp_range2, wp_bYes, gEq_str, gNe_str, gEq_int, gNe_int, gEq_bl, gNe_bl, gIs_bl, gIsNot_bl, gAdd_int, gSub_int, gC_int, gI_int, gAdd_str, gAdd_tup, gAdd_lst, gNeg_int, gIx_tup, gIx_lst, gLen_tup, gLen_lst, gLen_str, gInt_int, gInt_bl, gTuple_lst, gTuple_tup, gList_lst, gList_tup, gSl_tup, gSl_lst, gSl_fl, gSl_str, srcL_tup, srcL_lst, srcL_fl, srcL_str, srcR1_int, typN, startR, List.map_cons, List.map_nil, List.length_cons, List.length_nil, Nat.reduceAdd, Nat.reduceSub, Nat.zero_add, Nat.sub_self, Nat.sub_zero, List.replicate_zero, List.replicate_succ, List.cons_append, List.nil_append, List.append_nil, List.getElem?_cons_zero, List.getElem?_cons_succ, List.set_cons_zero, List.set_cons_succ, List.set_nil, List.getElem?_nil, Option.some.injEq, exists_eq_left', exists_eq_left, exists_eq_right, reduceCtorEq, false_and, and_false, true_and, and_true, exists_false, exists_const, wipeR, Nat.zero_le, String.reduceEq, D.int.injEq, D.str.injEq, D.bl.injEq, atI_0, atI_1, atI_2, atI_3, atI_4, beq_self_eq_true, not_true_eq_false, not_false_eq_true, Int.cast_ofNat_Int, Int.reduceEq, Int.reduceLE, Int.reduceLT, Int.reduceAdd, Int.reduceSub, Int.reduceMul, Int.reduceNeg, if_true, if_false, ite_true, ite_false, Bool.false_eq_true, if_neg, if_pos, decide_eq_true_eq, Bool.not_eq_true', decide_eq_false_iff_not, eq_self_iff_true, decide_true, decide_false, Bool.not_true, Bool.not_false]; exact hF
  · simp only [b_made_by, fin_int hS, ofString_inj, wp_ok, wp_ret, wp_stuck, wp_bad, wp_bnd, wp_if, wp_fif, wps_ok_nx, wps_ok_rt, wps_ok_bk, wps_ok_ct, wps_ok_xc, wps_bad, wps_lft, wps_seq, wps_nil, wps_ret, wps_expr, wps_asg, wps_if, wp_run, wps_for, wps_while, wp_comp, wp_var, wp_C, wp_bin, wp_un, wp_T, wp_Tb, wp_asBl, wp_truthBl, wp_bAnd, wp_bOr, wp_bNot, wp_eIf, wp_eAnd, wp_eOr, wp_eNot, blCase_bl, wp_chain, wp_aNil, wp_aCons, wp_tup, wp_lst, wp_lstM, wp_call, wp_cl1, wp_cl2, wp_cl3, wp_cl4, wp_cl5, wp_meth, wp_isi, wp_oNone, wp_oSome, wp_sl, wp_it, wp_range1, wp_range2, wp_bYes, gEq_str, gNe_str, gEq_int, gNe_int, gEq_bl, gNe_bl, gIs_bl, gIsNot_bl, gAdd_int, gSub_int, gC_int, gI_int, gAdd_str, gAdd_tup, gAdd_lst, gNeg_int, gIx_tup, gIx_lst, gLen_tup, gLen_lst, gLen_str, gInt_int, gInt_bl, gTuple_lst, gTuple_tup, gList_lst, gList_tup, gSl_tup, gSl_lst, gSl_fl, gSl_str, srcL_tup, srcL_lst, srcL_fl, srcL_str, srcR1_int, typN, startR, List.map_cons, List.map_nil, List.length_cons, List.length_nil, Nat.reduceAdd, Nat.reduceSub, Nat.zero_add, Nat.sub_self, Nat.sub_zero, List.replicate_zero, List.replicate_succ, List.cons_append, List.nil_append, List.append_nil, List.getElem?_cons_zero, List.getElem?_cons_succ, List.set_cons_zero, List.set_cons_succ, List.set_nil, List.getElem?_nil, Option.some.injEq, exists_eq_left', exists_eq_left, exists_eq_right, reduceCtorEq, false_and, and_false, true_and, and_true, exists_false, exists_const, wipeR, Nat.zero_le, String.reduceEq, D.int.injEq, D.str.injEq, D.bl.injEq, atI_0, atI_1, atI_2, atI_3, atI_4, beq_self_eq_true, not_true_eq_false, not_false_eq_true, Int.cast_ofNat_Int, Int.reduceEq, Int.reduceLE, Int.reduceLT, Int.reduceAdd, Int.reduceSub, Int.reduceMul, Int.reduceNeg, if_true, if_false, ite_true, ite_false, Bool.false_eq_true, if_neg, if_pos, decide_eq_true_eq, Bool.not_eq_true', decide_eq_false_iff_not, eq_self_iff_true, decide_true, decide_false, Bool.not_true, Bool.not_false]; exact hF
  · have : ¬ w = Str.ofString "if" := fun e => by subst e; revert hw; decide +kernel
    simp only [b_made_by, fin_int hS, this, wp_ok, wp_ret, wp_stuck, wp_bad, wp_bnd, wp_if, wp_fif, wps_ok_nx, wps_ok_rt, wps_ok_bk, wps_ok_ct, wps_ok_xc, wps_bad, wps_lft, wps_seq, wps_nil, wps_ret, wps_expr, wps_asg, wps_if, wp_run, wps_for, wps_while, wp_comp, wp_var, wp_C, wp_bin, wp_un, wp_T, wp_Tb, wp_asBl, wp_truthBl, wp_bAnd, wp_bOr, wp_bNot, wp_eIf, wp_eAnd, wp_eOr, wp_eNot, blCase_bl, wp_chain, wp_aNil, wp_aCons, wp_tup, wp_lst, wp_lstM, wp_call, wp_cl1, wp_cl2, wp_cl3, wp_cl4, wp_cl5, wp_meth, wp_isi, wp_oNone, wp_oSome, wp_sl, wp_it, wp_range1, wp_range2, wp_bYes, gEq_str, gNe_str, gEq_int, gNe_int, gEq_bl, gNe_bl, gIs_bl, gIsNot_bl, gAdd_int, gSub_int, gC_int, gI_int, gAdd_str, gAdd_tup, gAdd_lst, gNeg_int, gIx_tup, gIx_lst, gLen_tup, gLen_lst, gLen_str, gInt_int, gInt_bl, gTuple_lst, gTuple_tup, gList_lst, gList_tup, gSl_tup, gSl_lst, gSl_fl, gSl_str, srcL_tup, srcL_lst, srcL_fl, srcL_str, srcR1_int, typN, startR, List.map_cons, List.map_nil, List.length_cons, List.length_nil, Nat.reduceAdd, Nat.reduceSub, Nat.zero_add, Nat.sub_self, Nat.sub_zero, List.replicate_zero, List.replicate_succ, List.cons_append, List.nil_append, List.append_nil, List.getElem?_cons_zero, List.getElem?_cons_succ, List.set_cons_zero, List.set_cons_succ, List.set_nil, List.getElem?_nil, Option.some.injEq, exists_eq_left', exists_eq_left, exists_eq_right, reduceCtorEq, false_and, and_false, true_and, and_true, exists_false, exists_const, wipeR, Nat.zero_le, String.reduceEq, D.int.injEq, D.str.injEq, D.bl.injEq, atI_0, atI_1, atI_2, atI_3, atI_4, beq_self_eq_true, not_true_eq_false, not_false_eq_true, Int.cast_ofNat_Int, Int.reduceEq, Int.reduceLE, Int.reduceLT, Int.reduceAdd, Int.reduceSub, Int.reduceMul, Int.reduceNeg, if_true, if_false, ite_true, ite_false, Bool.false_eq_true, if_neg, if_pos, decide_eq_true_eq, Bool.not_eq_true', decide_eq_false_iff_not, eq_self_iff_true, decide_true, decide_false, Bool.not_true, Bool.not_false]; exact hF
  · obtain ⟨ops, outs, e, rfl, hl, _⟩ := h1.shape
    simp only [b_made_by, fin_int hS, hl, wp_ok, wp_ret, wp_stuck, wp_bad, wp_bnd, wp_if, wp_fif, wps_ok_nx, wps_ok_rt, wps_ok_bk, wps_ok_ct, wps_ok_xc, wps_bad, wps_lft, wps_seq, wps_nil, wps_ret, wps_expr, wps_asg, wps_if, wp_run, wps_for, wps_while, wp_comp, wp_var, wp_C, wp_bin, wp_un, wp_T, wp_Tb, wp_asBl, wp_truthBl, wp_bAnd, wp_bOr, wp_bNot, wp_eIf, wp_eAnd, wp_eOr, wp_eNot, blCase_bl, wp_chain, wp_aNil, wp_aCons, wp_tup, wp_lst, wp_lstM, wp_call, wp_cl1, wp_cl2, wp_cl3, wp_cl4, wp_cl5, wp_meth, wp_isi, wp_oNone, wp_oSome, wp_sl, wp_it, wp_range1, wp_range2, wp_bYes, gEq_str, gNe_str, gEq_int, gNe_int, gEq_bl, gNe_bl, gIs_bl, gIsNot_bl, gAdd_int, gSub_int, gC_int, gI_int, gAdd_str, gAdd_tup, gAdd_lst, gNeg_int, gIx_tup, gIx_lst, gLen_tup, gLen_lst, gLen_str, gInt_int, gInt_bl, gTuple_lst, gTuple_tup, gList_lst, gList_tup, gSl_tup, gSl_lst, gSl_fl, gSl_str, srcL_tup, srcL_lst, srcL_fl, srcL_str, srcR1_int, typN, startR, List.map_cons, List.map_nil, List.length_cons, List.length_nil, Nat.reduceAdd, Nat.reduceSub, Nat.zero_add, Nat.sub_self, Nat.sub_zero, List.replicate_zero, List.replicate_succ, List.cons_append, List.nil_append, List.append_nil, List.getElem?_cons_zero, List.getElem?_cons_succ, List.set_cons_zero, List.set_cons_succ, List.set_nil, List.getElem?_nil, Option.some.injEq, exists_eq_left', exists_eq_left, exists_eq_right, reduceCtorEq, false_and, and_false, true_and, and_true, exists_false, exists_const, wipeR, Nat.zero_le, String.reduceEq, D.int.injEq, D.str.injEq, D.bl.injEq, atI_0, atI_1, atI_2, atI_3, atI_4, beq_self_eq_true, not_true_eq_false, not_false_eq_true, Int.cast_ofNat_Int, Int.reduceEq, Int.reduceLE, Int.reduceLT, Int.reduceAdd, Int.reduceSub, Int.reduceMul, Int.reduceNeg, if_true, if_false, ite_true, ite_false, Bool.false_eq_true, if_neg, if_pos, decide_eq_true_eq, Bool.not_eq_true', decide_eq_false_iff_not, eq_self_iff_true, decide_true, decide_false, Bool.not_true, Bool.not_false]; exact hF
/-- what is_code tells of c -/
def CV (N : Nat) (fu : Nat) (c : D) (b : Bool) : Prop := ∀ (n : Nat) (S : Sto) (F : D → Sto → Prop) (E : Exc → Sto → Prop), N ≤ n → WF S → F (.bl b) S → wp (den fu n i_is_code [c] S) F E
def OV (N : Nat) (fu : Nat) (op : D) (many : Int) (b : Bool) : Prop := ∀ (n : Nat) (S : Sto) (F : D → Sto → Prop) (E : Exc → Sto → Prop), N ≤ n → WF S → F (.bl b) S → wp (den fu n i_is_op [op, .int many] S) F E
theorem CV.mono {N M : Nat} {c : D} {b : Bool} (h : CV N fu c b) (l : N ≤ M) : CV M fu c b := fun n S F E hn => h n S F E (by omega)
theorem OV.mono {N M : Nat} {c : D} {m : Int} {b : Bool} (h : OV N fu c m b) (l : N ≤ M) : OV M fu c m b := fun n S F E hn => h n S F E (by omega)
/-- a choice, by its parts -/
theorem choice_ok {w one args side other : D} {many : Int} {b1 b2 : Bool} {N M : Nat} (hN : M + 3 ≤ N) (h1p : plain one = true) (h2p : plain args = true) (h2q : ∀ ds, args = .tup ds → ds.length ≤ 1000 ∧ ∀ d ∈ ds, plain d = true) (hc1 : CV M fu side b1) (hc2 : CV M fu other b2) (hS : WF S)
    (sh1 : regB many one = true → regsB many args = true → b1 = true → b2 = true → ∃ t1 o1 u1 t2 o2 u2 as, side = .tup [.int t1, .tup o1, .tup u1] ∧ other = .tup [.int t2, .tup o2, .tup u2] ∧ args = .tup as ∧ F (.bl (decide (t1 = as.length) && decide (t2 = as.length) && decide (u1.length = u2.length))) S)
    (hF : (regB many one && regsB many args && b1 && b2) = false → F (.bl false) S) : wp (den fu N i_is_choice [.tup [w, one, args, side, other], .int many] S) F E := by
  obtain ⟨m, rfl⟩ : ∃ m, N = m + 3 := ⟨N - 3, by omega⟩
  show wp (runDef false 2 (b_is_choice fu (den fu (m + 2))) _ _) _ _
  have cut : cutD [w, one, args, side, other] (some 1) (some 2) = [one] := rfl
  simp only [b_is_choice, cut, fin_bl hS, wp_ok, wp_ret, wp_stuck, wp_bad, wp_bnd, wp_if, wp_fif, wps_ok_nx, wps_ok_rt, wps_ok_bk, wps_ok_ct, wps_ok_xc, wps_bad, wps_lft, wps_seq, wps_nil, wps_ret, wps_expr, wps_asg, wps_if, wp_run, wps_for, wps_while, wp_comp, wp_var, wp_C, wp_bin, wp_un, wp_T, wp_Tb, wp_asBl, wp_truthBl, wp_bAnd, wp_bOr, wp_bNot, wp_eIf, wp_eAnd, wp_eOr, wp_eNot, blCase_bl, wp_chain, wp_aNil, wp_aCons, wp_tup, wp_lst, wp_lstM, wp_call, wp_cl1, wp_cl2, wp_cl3, wp_cl4, wp_cl5, wp_meth, wp_isi, wp_oNone, wp_oSome, wp_sl, wp_it, wp_range1, wp_range2, wp_bYes, gEq_str, gNe_str, gEq_int, gNe_int, gEq_bl, gNe_bl, gIs_bl, gIsNot_bl, gAdd_int, gSub_int, gC_int, gI_int, gAdd_str, gAdd_tup, gAdd_lst, gNeg_int, gIx_tup, gIx_lst, gLen_tup, gLen_lst, gLen_str, gInt_int, gInt_bl, gTuple_lst, gTuple_tup, gList_lst, gList_tup, gSl_tup, gSl_lst, gSl_fl, gSl_str, srcL_tup, srcL_lst, srcL_fl, srcL_str, srcR1_int, typN, startR, List.map_cons, List.map_nil, List.length_cons, List.length_nil, Nat.reduceAdd, Nat.reduceSub, Nat.zero_add, Nat.sub_self, Nat.sub_zero, List.replicate_zero, List.replicate_succ, List.cons_append, List.nil_append, List.append_nil, List.getElem?_cons_zero, List.getElem?_cons_succ, List.set_cons_zero, List.set_cons_succ, List.set_nil, List.getElem?_nil, Option.some.injEq, exists_eq_left', exists_eq_left, exists_eq_right, reduceCtorEq, false_and, and_false, true_and, and_true, exists_false, exists_const, wipeR, Nat.zero_le, String.reduceEq, D.int.injEq, D.str.injEq, D.bl.injEq, atI_0, atI_1, atI_2, atI_3, atI_4, beq_self_eq_true, not_true_eq_false, not_false_eq_true, Int.cast_ofNat_Int, Int.reduceEq, Int.reduceLE, Int.reduceLT, Int.reduceAdd, Int.reduceSub, Int.reduceMul, Int.reduceNeg, if_true, if_false, ite_true, ite_false, Bool.false_eq_true, if_neg, if_pos, decide_eq_true_eq, Bool.not_eq_true', decide_eq_false_iff_not, eq_self_iff_true, decide_true, decide_false, Bool.not_true, Bool.not_false]
  refine regs_ok (by omega) rfl (fun ds h => by cases h; exact ⟨by simp, fun d hd => by simp only [List.mem_singleton] at hd; rw [hd]; exact h1p⟩) hS ?_
  have e1 : regsB many (.tup [one]) = regB many one := by simp [regsB]
  simp only [e1, wp_ok, wp_ret, wp_stuck, wp_bad, wp_bnd, wp_if, wp_fif, wps_ok_nx, wps_ok_rt, wps_ok_bk, wps_ok_ct, wps_ok_xc, wps_bad, wps_lft, wps_seq, wps_nil, wps_ret, wps_expr, wps_asg, wps_if, wp_run, wps_for, wps_while, wp_comp, wp_var, wp_C, wp_bin, wp_un, wp_T, wp_Tb, wp_asBl, wp_truthBl, wp_bAnd, wp_bOr, wp_bNot, wp_eIf, wp_eAnd, wp_eOr, wp_eNot, blCase_bl, wp_chain, wp_aNil, wp_aCons, wp_tup, wp_lst, wp_lstM, wp_call, wp_cl1, wp_cl2, wp_cl3, wp_cl4, wp_cl5, wp_meth, wp_isi, wp_oNone, wp_oSome, wp_sl, wp_it, wp_range1, wp_range2, wp_bYes, gEq_str, gNe_str, gEq_int, gNe_int, gEq_bl, gNe_bl, gIs_bl, gIsNot_bl, gAdd_int, gSub_int, gC_int, gI_int, gAdd_str, gAdd_tup, gAdd_lst, gNeg_int, gIx_tup, gIx_lst, gLen_tup, gLen_lst, gLen_str, gInt_int, gInt_bl, gTuple_lst, gTuple_tup, gList_lst, gList_tup, gSl_tup, gSl_lst, gSl_fl, gSl_str, srcL_tup, srcL_lst, srcL_fl, srcL_str, srcR1_int, typN, startR, List.map_cons, List.map_nil, List.length_cons, List.length_nil, Nat.reduceAdd, Nat.reduceSub, Nat.zero_add, Nat.sub_self, Nat.sub_zero, List.replicate_zero, List.replicate_succ, List.cons_append, List.nil_append, List.append_nil, List.getElem?_cons_zero, List.getElem?_cons_succ, List.set_cons_zero, List.set_cons_succ, List.set_nil, List.getElem?_nil, Option.some.injEq, exists_eq_left', exists_eq_left, exists_eq_right, reduceCtorEq, false_and, and_false, true_and, and_true, exists_false, exists_const, wipeR, Nat.zero_le, String.reduceEq, D.int.injEq, D.str.injEq, D.bl.injEq, atI_0, atI_1, atI_2, atI_3, atI_4, beq_self_eq_true, not_true_eq_false, not_false_eq_true, Int.cast_ofNat_Int, Int.reduceEq, Int.reduceLE, Int.reduceLT, Int.reduceAdd, Int.reduceSub, Int.reduceMul, Int.reduceNeg, if_true, if_false, ite_true, ite_false, Bool.false_eq_true, if_neg, if_pos, decide_eq_true_eq, Bool.not_eq_true', decide_eq_false_iff_not, eq_self_iff_true, decide_true, decide_false, Bool.not_true, Bool.not_false]
  cases hb1 : regB many one with
  | false => simp only [fin_bl hS, wp_ok, wp_ret, wp_stuck, wp_bad, wp_bnd, wp_if, wp_fif, wps_ok_nx, wps_ok_rt, wps_ok_bk, wps_ok_ct, wps_ok_xc, wps_bad, wps_lft, wps_seq, wps_nil, wps_ret, wps_expr, wps_asg, wps_if, wp_run, wps_for, wps_while, wp_comp, wp_var, wp_C, wp_bin, wp_un, wp_T, wp_Tb, wp_asBl, wp_truthBl, wp_bAnd, wp_bOr, wp_bNot, wp_eIf, wp_eAnd, wp_eOr, wp_eNot, blCase_bl, wp_chain, wp_aNil, wp_aCons, wp_tup, wp_lst, wp_lstM, wp_call, wp_cl1, wp_cl2, wp_cl3, wp_cl4, wp_cl5, wp_meth, wp_isi, wp_oNone, wp_oSome, wp_sl, wp_it, wp_range1, wp_range2, wp_bYes, gEq_str, gNe_str, gEq_int, gNe_int, gEq_bl, gNe_bl, gIs_bl, gIsNot_bl, gAdd_int, gSub_int, gC_int, gI_int, gAdd_str, gAdd_tup, gAdd_lst, gNeg_int, gIx_tup, gIx_lst, gLen_tup, gLen_lst, gLen_str, gInt_int, gInt_bl, gTuple_lst, gTuple_tup, gList_lst, gList_tup, gSl_tup, gSl_lst, gSl_fl, gSl_str, srcL_tup, srcL_lst, srcL_fl, srcL_str, srcR1_int, typN, startR, List.map_cons, List.map_nil, List.length_cons, List.length_nil, Nat.reduceAdd, Nat.reduceSub, Nat.zero_add, Nat.sub_self, Nat.sub_zero, List.replicate_zero, List.replicate_succ, List.cons_append, List.nil_append, List.append_nil, List.getElem?_cons_zero, List.getElem?_cons_succ, List.set_cons_zero, List.set_cons_succ, List.set_nil, List.getElem?_nil, Option.some.injEq, exists_eq_left', exists_eq_left, exists_eq_right, reduceCtorEq, false_and, and_false, true_and, and_true, exists_false, exists_const, wipeR, Nat.zero_le, String.reduceEq, D.int.injEq, D.str.injEq, D.bl.injEq, atI_0, atI_1, atI_2, atI_3, atI_4, beq_self_eq_true, not_true_eq_false, not_false_eq_true, Int.cast_ofNat_Int, Int.reduceEq, Int.reduceLE, Int.reduceLT, Int.reduceAdd, Int.reduceSub, Int.reduceMul, Int.reduceNeg, if_true, if_false, ite_true, ite_false, Bool.false_eq_true, if_neg, if_pos, decide_eq_true_eq, Bool.not_eq_true', decide_eq_false_iff_not, eq_self_iff_true, decide_true, decide_false, Bool.not_true, Bool.not_false]; exact hF (by simp [hb1])
  | true =>
    simp only [wp_ok, wp_ret, wp_stuck, wp_bad, wp_bnd, wp_if, wp_fif, wps_ok_nx, wps_ok_rt, wps_ok_bk, wps_ok_ct, wps_ok_xc, wps_bad, wps_lft, wps_seq, wps_nil, wps_ret, wps_expr, wps_asg, wps_if, wp_run, wps_for, wps_while, wp_comp, wp_var, wp_C, wp_bin, wp_un, wp_T, wp_Tb, wp_asBl, wp_truthBl, wp_bAnd, wp_bOr, wp_bNot, wp_eIf, wp_eAnd, wp_eOr, wp_eNot, blCase_bl, wp_chain, wp_aNil, wp_aCons, wp_tup, wp_lst, wp_lstM, wp_call, wp_cl1, wp_cl2, wp_cl3, wp_cl4, wp_cl5, wp_meth, wp_isi, wp_oNone, wp_oSome, wp_sl, wp_it, wp_range1, wp_range2, wp_bYes, gEq_str, gNe_str, gEq_int, gNe_int, gEq_bl, gNe_bl, gIs_bl, gIsNot_bl, gAdd_int, gSub_int, gC_int, gI_int, gAdd_str, gAdd_tup, gAdd_lst, gNeg_int, gIx_tup, gIx_lst, gLen_tup, gLen_lst, gLen_str, gInt_int, gInt_bl, gTuple_lst, gTuple_tup, gList_lst, gList_tup, gSl_tup, gSl_lst, gSl_fl, gSl_str, srcL_tup, srcL_lst, srcL_fl, srcL_str, srcR1_int, typN, startR, List.map_cons, List.map_nil, List.length_cons, List.length_nil, Nat.reduceAdd, Nat.reduceSub, Nat.zero_add, Nat.sub_self, Nat.sub_zero, List.replicate_zero, List.replicate_succ, List.cons_append, List.nil_append, List.append_nil, List.getElem?_cons_zero, List.getElem?_cons_succ, List.set_cons_zero, List.set_cons_succ, List.set_nil, List.getElem?_nil, Option.some.injEq, exists_eq_left', exists_eq_left, exists_eq_right, reduceCtorEq, false_and, and_false, true_and, and_true, exists_false, exists_const, wipeR, Nat.zero_le, String.reduceEq, D.int.injEq, D.str.injEq, D.bl.injEq, atI_0, atI_1, atI_2, atI_3, atI_4, beq_self_eq_true, not_true_eq_false, not_false_eq_true, Int.cast_ofNat_Int, Int.reduceEq, Int.reduceLE, Int.reduceLT, Int.reduceAdd, Int.reduceSub, Int.reduceMul, Int.reduceNeg, if_true, if_false, ite_true, ite_false, Bool.false_eq_true, if_neg, if_pos, decide_eq_true_eq, Bool.not_eq_true', decide_eq_false_iff_not, eq_self_iff_true, decide_true, decide_false, Bool.not_true, Bool.not_false]
    refine regs_ok (by omega) h2p h2q hS ?_
    simp only [wp_ok, wp_ret, wp_stuck, wp_bad, wp_bnd, wp_if, wp_fif, wps_ok_nx, wps_ok_rt, wps_ok_bk, wps_ok_ct, wps_ok_xc, wps_bad, wps_lft, wps_seq, wps_nil, wps_ret, wps_expr, wps_asg, wps_if, wp_run, wps_for, wps_while, wp_comp, wp_var, wp_C, wp_bin, wp_un, wp_T, wp_Tb, wp_asBl, wp_truthBl, wp_bAnd, wp_bOr, wp_bNot, wp_eIf, wp_eAnd, wp_eOr, wp_eNot, blCase_bl, wp_chain, wp_aNil, wp_aCons, wp_tup, wp_lst, wp_lstM, wp_call, wp_cl1, wp_cl2, wp_cl3, wp_cl4, wp_cl5, wp_meth, wp_isi, wp_oNone, wp_oSome, wp_sl, wp_it, wp_range1, wp_range2, wp_bYes, gEq_str, gNe_str, gEq_int, gNe_int, gEq_bl, gNe_bl, gIs_bl, gIsNot_bl, gAdd_int, gSub_int, gC_int, gI_int, gAdd_str, gAdd_tup, gAdd_lst, gNeg_int, gIx_tup, gIx_lst, gLen_tup, gLen_lst, gLen_str, gInt_int, gInt_bl, gTuple_lst, gTuple_tup, gList_lst, gList_tup, gSl_tup, gSl_lst, gSl_fl, gSl_str, srcL_tup, srcL_lst, srcL_fl, srcL_str, srcR1_int, typN, startR, List.map_cons, List.map_nil, List.length_cons, List.length_nil, Nat.reduceAdd, Nat.reduceSub, Nat.zero_add, Nat.sub_self, Nat.sub_zero, List.replicate_zero, List.replicate_succ, List.cons_append, List.nil_append, List.append_nil, List.getElem?_cons_zero, List.getElem?_cons_succ, List.set_cons_zero, List.set_cons_succ, List.set_nil, List.getElem?_nil, Option.some.injEq, exists_eq_left', exists_eq_left, exists_eq_right, reduceCtorEq, false_and, and_false, true_and, and_true, exists_false, exists_const, wipeR, Nat.zero_le, String.reduceEq, D.int.injEq, D.str.injEq, D.bl.injEq, atI_0, atI_1, atI_2, atI_3, atI_4, beq_self_eq_true, not_true_eq_false, not_false_eq_true, Int.cast_ofNat_Int, Int.reduceEq, Int.reduceLE, Int.reduceLT, Int.reduceAdd, Int.reduceSub, Int.reduceMul, Int.reduceNeg, if_true, if_false, ite_true, ite_false, Bool.false_eq_true, if_neg, if_pos, decide_eq_true_eq, Bool.not_eq_true', decide_eq_false_iff_not, eq_self_iff_true, decide_true, decide_false, Bool.not_true, Bool.not_false]
    cases hb2 : regsB many args with
    | false => simp only [fin_bl hS, wp_ok, wp_ret, wp_stuck, wp_bad, wp_bnd, wp_if, wp_fif, wps_ok_nx, wps_ok_rt, wps_ok_bk, wps_ok_ct, wps_ok_xc, wps_bad, wps_lft, wps_seq, wps_nil, wps_ret, wps_expr, wps_asg, wps_if, wp_run, wps_for, wps_while, wp_comp, wp_var, wp_C, wp_bin, wp_un, wp_T, wp_Tb, wp_asBl, wp_truthBl, wp_bAnd, wp_bOr, wp_bNot, wp_eIf, wp_eAnd, wp_eOr, wp_eNot, blCase_bl, wp_chain, wp_aNil, wp_aCons, wp_tup, wp_lst, wp_lstM, wp_call, wp_cl1, wp_cl2, wp_cl3, wp_cl4, wp_cl5, wp_meth, wp_isi, wp_oNone, wp_oSome, wp_sl, wp_it, wp_range1, wp_range2, wp_bYes, gEq_str, gNe_str, gEq_int, gNe_int, gEq_bl, gNe_bl, gIs_bl, gIsNot_bl, gAdd_int, gSub_int, gC_int, gI_int, gAdd_str, gAdd_tup, gAdd_lst, gNeg_int, gIx_tup, gIx_lst, gLen_tup, gLen_lst, gLen_str, gInt_int, gInt_bl, gTuple_lst, gTuple_tup, gList_lst, gList_tup, gSl_tup, gSl_lst, gSl_fl, gSl_str, srcL_tup, srcL_lst, srcL_fl, srcL_str, srcR1_int, typN, startR, List.map_cons, List.map_nil, List.length_cons, List.length_nil, Nat.reduceAdd, Nat.reduceSub, Nat.zero_add, Nat.sub_self, Nat.sub_zero, List.replicate_zero, List.replicate_succ, List.cons_append, List.nil_append, List.append_nil, List.getElem?_cons_zero, List.getElem?_cons_succ, List.set_cons_zero, List.set_cons_succ, List.set_nil, List.getElem?_nil, Option.some.injEq, exists_eq_left', exists_eq_left, exists_eq_right, reduceCtorEq, false_and, and_false, true_and, and_true, exists_false, exists_const, wipeR, Nat.zero_le, String.reduceEq, D.int.injEq, D.str.injEq, D.bl.injEq, atI_0, atI_1, atI_2, atI_3, atI_4, beq_self_eq_true, not_true_eq_false, not_false_eq_true, Int.cast_ofNat_Int, Int.reduceEq, Int.reduceLE, Int.reduceLT, Int.reduceAdd, Int.reduceSub, Int.reduceMul, Int.reduceNeg, if_true, if_false, ite_true, ite_false, Bool.false_eq_true, if_neg, if_pos, decide_eq_true_eq, Bool.not_eq_true', decide_eq_false_iff_not, eq_self_iff_true, decide_true, decide_false, Bool.not_true, Bool.not_false]; exact hF (by simp [hb2])
    | true =>
      simp only [wp_ok, wp_ret, wp_stuck, wp_bad, wp_bnd, wp_if, wp_fif, wps_ok_nx, wps_ok_rt, wps_ok_bk, wps_ok_ct, wps_ok_xc, wps_bad, wps_lft, wps_seq, wps_nil, wps_ret, wps_expr, wps_asg, wps_if, wp_run, wps_for, wps_while, wp_comp, wp_var, wp_C, wp_bin, wp_un, wp_T, wp_Tb, wp_asBl, wp_truthBl, wp_bAnd, wp_bOr, wp_bNot, wp_eIf, wp_eAnd, wp_eOr, wp_eNot, blCase_bl, wp_chain, wp_aNil, wp_aCons, wp_tup, wp_lst, wp_lstM, wp_call, wp_cl1, wp_cl2, wp_cl3, wp_cl4, wp_cl5, wp_meth, wp_isi, wp_oNone, wp_oSome, wp_sl, wp_it, wp_range1, wp_range2, wp_bYes, gEq_str, gNe_str, gEq_int, gNe_int, gEq_bl, gNe_bl, gIs_bl, gIsNot_bl, gAdd_int, gSub_int, gC_int, gI_int, gAdd_str, gAdd_tup, gAdd_lst, gNeg_int, gIx_tup, gIx_lst, gLen_tup, gLen_lst, gLen_str, gInt_int, gInt_bl, gTuple_lst, gTuple_tup, gList_lst, gList_tup, gSl_tup, gSl_lst, gSl_fl, gSl_str, srcL_tup, srcL_lst, srcL_fl, srcL_str, srcR1_int, typN, startR, List.map_cons, List.map_nil, List.length_cons, List.length_nil, Nat.reduceAdd, Nat.reduceSub, Nat.zero_add, Nat.sub_self, Nat.sub_zero, List.replicate_zero, List.replicate_succ, List.cons_append, List.nil_append, List.append_nil, List.getElem?_cons_zero, List.getElem?_cons_succ, List.set_cons_zero, List.set_cons_succ, List.set_nil, List.getElem?_nil, Option.some.injEq, exists_eq_left', exists_eq_left, exists_eq_right, reduceCtorEq, false_and, and_false, true_and, and_true, exists_false, exists_const, wipeR, Nat.zero_le, String.reduceEq, D.int.injEq, D.str.injEq, D.bl.injEq, atI_0, atI_1, atI_2, atI_3, atI_4, beq_self_eq_true, not_true_eq_false, not_false_eq_true, Int.cast_ofNat_Int, Int.reduceEq, Int.reduceLE, Int.reduceLT, Int.reduceAdd, Int.reduceSub, Int.reduceMul, Int.reduceNeg, if_true, if_false, ite_true, ite_false, Bool.false_eq_true, if_neg, if_pos, decide_eq_true_eq, Bool.not_eq_true', decide_eq_false_iff_not, eq_self_iff_true, decide_true, decide_false, Bool.not_true, Bool.not_false]
      refine hc1 (m + 2) S _ _ (by omega) hS ?_
      simp only [wp_ok, wp_ret, wp_stuck, wp_bad, wp_bnd, wp_if, wp_fif, wps_ok_nx, wps_ok_rt, wps_ok_bk, wps_ok_ct, wps_ok_xc, wps_bad, wps_lft, wps_seq, wps_nil, wps_ret, wps_expr, wps_asg, wps_if, wp_run, wps_for, wps_while, wp_comp, wp_var, wp_C, wp_bin, wp_un, wp_T, wp_Tb, wp_asBl, wp_truthBl, wp_bAnd, wp_bOr, wp_bNot, wp_eIf, wp_eAnd, wp_eOr, wp_eNot, blCase_bl, wp_chain, wp_aNil, wp_aCons, wp_tup, wp_lst, wp_lstM, wp_call, wp_cl1, wp_cl2, wp_cl3, wp_cl4, wp_cl5, wp_meth, wp_isi, wp_oNone, wp_oSome, wp_sl, wp_it, wp_range1, wp_range2, wp_bYes, gEq_str, gNe_str, gEq_int, gNe_int, gEq_bl, gNe_bl, gIs_bl, gIsNot_bl, gAdd_int, gSub_int, gC_int, gI_int, gAdd_str, gAdd_tup, gAdd_lst, gNeg_int, gIx_tup, gIx_lst, gLen_tup, gLen_lst, gLen_str, gInt_int, gInt_bl, gTuple_lst, gTuple_tup, gList_lst, gList_tup, gSl_tup, gSl_lst, gSl_fl, gSl_str, srcL_tup, srcL_lst, srcL_fl, srcL_str, srcR1_int, typN, startR, List.map_cons, List.map_nil, List.length_cons, List.length_nil, Nat.reduceAdd, Nat.reduceSub, Nat.zero_add, Nat.sub_self, Nat.sub_zero, List.replicate_zero, List.replicate_succ, List.cons_append, List.nil_append, List.append_nil, List.getElem?_cons_zero, List.getElem?_cons_succ, List.set_cons_zero, List.set_cons_succ, List.set_nil, List.getElem?_nil, Option.some.injEq, exists_eq_left', exists_eq_left, exists_eq_right, reduceCtorEq, false_and, and_false, true_and, and_true, exists_false, exists_const, wipeR, Nat.zero_le, String.reduceEq, D.int.injEq, D.str.injEq, D.bl.injEq, atI_0, atI_1, atI_2, atI_3, atI_4, beq_self_eq_true, not_true_eq_false, not_false_eq_true, Int.cast_ofNat_Int, Int.reduceEq, Int.reduceLE, Int.reduceLT, Int.reduceAdd, Int.reduceSub, Int.reduceMul, Int.reduceNeg, if_true, if_false, ite_true, ite_false, Bool.false_eq_true, if_neg, if_pos, decide_eq_true_eq, Bool.not_eq_true', decide_eq_false_iff_not, eq_self_iff_true, decide_true, decide_false, Bool.not_true, Bool.not_false]
      cases b1 with
      | false => simp only [fin_bl hS, wp_ok, wp_ret, wp_stuck, wp_bad, wp_bnd, wp_if, wp_fif, wps_ok_nx, wps_ok_rt, wps_ok_bk, wps_ok_ct, wps_ok_xc, wps_bad, wps_lft, wps_seq, wps_nil, wps_ret, wps_expr, wps_asg, wps_if, wp_run, wps_for, wps_while, wp_comp, wp_var, wp_C, wp_bin, wp_un, wp_T, wp_Tb, wp_asBl, wp_truthBl, wp_bAnd, wp_bOr, wp_bNot, wp_eIf, wp_eAnd, wp_eOr, wp_eNot, blCase_bl, wp_chain, wp_aNil, wp_aCons, wp_tup, wp_lst, wp_lstM, wp_call, wp_cl1, wp_cl2, wp_cl3, wp_cl4, wp_cl5, wp_meth, wp_isi, wp_oNone, wp_oSome, wp_sl, wp_it, wp_range1, wp_range2, wp_bYes, gEq_str, gNe_str, gEq_int, gNe_int, gEq_bl, gNe_bl, gIs_bl, gIsNot_bl, gAdd_int, gSub_int, gC_int, gI_int, gAdd_str, gAdd_tup, gAdd_lst, gNeg_int, gIx_tup, gIx_lst, gLen_tup, gLen_lst, gLen_str, gInt_int, gInt_bl, gTuple_lst, gTuple_tup, gList_lst, gList_tup, gSl_tup, gSl_lst, gSl_fl, gSl_str, srcL_tup, srcL_lst, srcL_fl, srcL_str, srcR1_int, typN, startR, List.map_cons, List.map_nil, List.length_cons, List.length_nil, Nat.reduceAdd, Nat.reduceSub, Nat.zero_add, Nat.sub_self, Nat.sub_zero, List.replicate_zero, List.replicate_succ, List.cons_append, List.nil_append, List.append_nil, List.getElem?_cons_zero, List.getElem?_cons_succ, List.set_cons_zero, List.set_cons_succ, List.set_nil, List.getElem?_nil, Option.some.injEq, exists_eq_left', exists_eq_left, exists_eq_right, reduceCtorEq, false_and, and_false, true_and, and_true, exists_false, exists_const, wipeR, Nat.zero_le, String.reduceEq, D.int.injEq, D.str.injEq, D.bl.injEq, atI_0, atI_1, atI_2, atI_3, atI_4, beq_self_eq_true, not_true_eq_false, not_false_eq_true, Int.cast_ofNat_Int, Int.reduceEq, Int.reduceLE, Int.reduceLT, Int.reduceAdd, Int.reduceSub, Int.reduceMul, Int.reduceNeg, if_true, if_false, ite_true, ite_false, Bool.false_eq_true, if_neg, if_pos, decide_eq_true_eq, Bool.not_eq_true', decide_eq_false_iff_not, eq_self_iff_true, decide_true, decide_false, Bool.not_true, Bool.not_false]; exact hF (by simp)
      | true =>
        simp only [wp_ok, wp_ret, wp_stuck, wp_bad, wp_bnd, wp_if, wp_fif, wps_ok_nx, wps_ok_rt, wps_ok_bk, wps_ok_ct, wps_ok_xc, wps_bad, wps_lft, wps_seq, wps_nil, wps_ret, wps_expr, wps_asg, wps_if, wp_run, wps_for, wps_while, wp_comp, wp_var, wp_C, wp_bin, wp_un, wp_T, wp_Tb, wp_asBl, wp_truthBl, wp_bAnd, wp_bOr, wp_bNot, wp_eIf, wp_eAnd, wp_eOr, wp_eNot, blCase_bl, wp_chain, wp_aNil, wp_aCons, wp_tup, wp_lst, wp_lstM, wp_call, wp_cl1, wp_cl2, wp_cl3, wp_cl4, wp_cl5, wp_meth, wp_isi, wp_oNone, wp_oSome, wp_sl, wp_it, wp_range1, wp_range2, wp_bYes, gEq_str, gNe_str, gEq_int, gNe_int, gEq_bl, gNe_bl, gIs_bl, gIsNot_bl, gAdd_int, gSub_int, gC_int, gI_int, gAdd_str, gAdd_tup, gAdd_lst, gNeg_int, gIx_tup, gIx_lst, gLen_tup, gLen_lst, gLen_str, gInt_int, gInt_bl, gTuple_lst, gTuple_tup, gList_lst, gList_tup, gSl_tup, gSl_lst, gSl_fl, gSl_str, srcL_tup, srcL_lst, srcL_fl, srcL_str, srcR1_int, typN, startR, List.map_cons, List.map_nil, List.length_cons, List.length_nil, Nat.reduceAdd, Nat.reduceSub, Nat.zero_add, Nat.sub_self, Nat.sub_zero, List.replicate_zero, List.replicate_succ, List.cons_append, List.nil_append, List.append_nil, List.getElem?_cons_zero, List.getElem?_cons_succ, List.set_cons_zero, List.set_cons_succ, List.set_nil, List.getElem?_nil, Option.some.injEq, exists_eq_left', exists_eq_left, exists_eq_right, reduceCtorEq, false_and, and_false, true_and, and_true, exists_false, exists_const, wipeR, Nat.zero_le, String.reduceEq, D.int.injEq, D.str.injEq, D.bl.injEq, atI_0, atI_1, atI_2, atI_3, atI_4, beq_self_eq_true, not_true_eq_false, not_false_eq_true, Int.cast_ofNat_Int, Int.reduceEq, Int.reduceLE, Int.reduceLT, Int.reduceAdd, Int.reduceSub, Int.reduceMul, Int.reduceNeg, if_true, if_false, ite_true, ite_false, Bool.false_eq_true, if_neg, if_pos, decide_eq_true_eq, Bool.not_eq_true', decide_eq_false_iff_not, eq_self_iff_true, decide_true, decide_false, Bool.not_true, Bool.not_false]
        refine hc2 (m + 2) S _ _ (by omega) hS ?_
        simp only [wp_ok, wp_ret, wp_stuck, wp_bad, wp_bnd, wp_if, wp_fif, wps_ok_nx, wps_ok_rt, wps_ok_bk, wps_ok_ct, wps_ok_xc, wps_bad, wps_lft, wps_seq, wps_nil, wps_ret, wps_expr, wps_asg, wps_if, wp_run, wps_for, wps_while, wp_comp, wp_var, wp_C, wp_bin, wp_un, wp_T, wp_Tb, wp_asBl, wp_truthBl, wp_bAnd, wp_bOr, wp_bNot, wp_eIf, wp_eAnd, wp_eOr, wp_eNot, blCase_bl, wp_chain, wp_aNil, wp_aCons, wp_tup, wp_lst, wp_lstM, wp_call, wp_cl1, wp_cl2, wp_cl3, wp_cl4, wp_cl5, wp_meth, wp_isi, wp_oNone, wp_oSome, wp_sl, wp_it, wp_range1, wp_range2, wp_bYes, gEq_str, gNe_str, gEq_int, gNe_int, gEq_bl, gNe_bl, gIs_bl, gIsNot_bl, gAdd_int, gSub_int, gC_int, gI_int, gAdd_str, gAdd_tup, gAdd_lst, gNeg_int, gIx_tup, gIx_lst, gLen_tup, gLen_lst, gLen_str, gInt_int, gInt_bl, gTuple_lst, gTuple_tup, gList_lst, gList_tup, gSl_tup, gSl_lst, gSl_fl, gSl_str, srcL_tup, srcL_lst, srcL_fl, srcL_str, srcR1_int, typN, startR, List.map_cons, List.map_nil, List.length_cons, List.length_nil, Nat.reduceAdd, Nat.reduceSub, Nat.zero_add, Nat.sub_self, Nat.sub_zero, List.replicate_zero, List.replicate_succ, List.cons_append, List.nil_append, List.append_nil, List.getElem?_cons_zero, List.getElem?_cons_succ, List.set_cons_zero, List.set_cons_succ, List.set_nil, List.getElem?_nil, Option.some.injEq, exists_eq_left', exists_eq_left, exists_eq_right, reduceCtorEq, false_and, and_false, true_and, and_true, exists_false, exists_const, wipeR, Nat.zero_le, String.reduceEq, D.int.injEq, D.str.injEq, D.bl.injEq, atI_0, atI_1, atI_2, atI_3, atI_4, beq_self_eq_true, not_true_eq_false, not_false_eq_true, Int.cast_ofNat_Int, Int.reduceEq, Int.reduceLE, Int.reduceLT, Int.reduceAdd, Int.reduceSub, Int.reduceMul, Int.reduceNeg, if_true, if_false, ite_true, ite_false, Bool.false_eq_true, if_neg, if_pos, decide_eq_true_eq, Bool.not_eq_true', decide_eq_false_iff_not, eq_self_iff_true, decide_true, decide_false, Bool.not_true, Bool.not_false]
        cases b2 with
        | false => simp only [fin_bl hS, wp_ok, wp_ret, wp_stuck, wp_bad, wp_bnd, wp_if, wp_fif, wps_ok_nx, wps_ok_rt, wps_ok_bk, wps_ok_ct, wps_ok_xc, wps_bad, wps_lft, wps_seq, wps_nil, wps_ret, wps_expr, wps_asg, wps_if, wp_run, wps_for, wps_while, wp_comp, wp_var, wp_C, wp_bin, wp_un, wp_T, wp_Tb, wp_asBl, wp_truthBl, wp_bAnd, wp_bOr, wp_bNot, wp_eIf, wp_eAnd, wp_eOr, wp_eNot, blCase_bl, wp_chain, wp_aNil, wp_aCons, wp_tup, wp_lst, wp_lstM, wp_call, wp_cl1, wp_cl2, wp_cl3, wp_cl4, wp_cl5, wp_meth, wp_isi, wp_oNone, wp_oSome, wp_sl, wp_it, wp_range1, wp_range2, wp_bYes, gEq_str, gNe_str, gEq_int, gNe_int, gEq_bl, gNe_bl, gIs_bl, gIsNot_bl, gAdd_int, gSub_int, gC_int, gI_int, gAdd_str, gAdd_tup, gAdd_lst, gNeg_int, gIx_tup, gIx_lst, gLen_tup, gLen_lst, gLen_str, gInt_int, gInt_bl, gTuple_lst, gTuple_tup, gList_lst, gList_tup, gSl_tup, gSl_lst, gSl_fl, gSl_str, srcL_tup, srcL_lst, srcL_fl, srcL_str, srcR1_int, typN, startR, List.map_cons, List.map_nil, List.length_cons, List.length_nil, Nat.reduceAdd, Nat.reduceSub, Nat.zero_add, Nat.sub_self, Nat.sub_zero, List.replicate_zero, List.replicate_succ, List.cons_append, List.nil_append, List.append_nil, List.getElem?_cons_zero, List.getElem?_cons_succ, List.set_cons_zero, List.set_cons_succ, List.set_nil, List.getElem?_nil, Option.some.injEq, exists_eq_left', exists_eq_left, exists_eq_right, reduceCtorEq, false_and, and_false, true_and, and_true, exists_false, exists_const, wipeR, Nat.zero_le, String.reduceEq, D.int.injEq, D.str.injEq, D.bl.injEq, atI_0, atI_1, atI_2, atI_3, atI_4, beq_self_eq_true, not_true_eq_false, not_false_eq_true, Int.cast_ofNat_Int, Int.reduceEq, Int.reduceLE, Int.reduceLT, Int.reduceAdd, Int.reduceSub, Int.reduceMul, Int.reduceNeg, if_true, if_false, ite_true, ite_false, Bool.false_eq_true, if_neg, if_pos, decide_eq_true_eq, Bool.not_eq_true', decide_eq_false_iff_not, eq_self_iff_true, decide_true, decide_false, Bool.not_true, Bool.not_false]; exact hF (by simp)
        | true =>
          simp only [wp_ok, wp_ret, wp_stuck, wp_bad, wp_bnd, wp_if, wp_fif, wps_ok_nx, wps_ok_rt, wps_ok_bk, wps_ok_ct, wps_ok_xc, wps_bad, wps_lft, wps_seq, wps_nil, wps_ret, wps_expr, wps_asg, wps_if, wp_run, wps_for, wps_while, wp_comp, wp_var, wp_C, wp_bin, wp_un, wp_T, wp_Tb, wp_asBl, wp_truthBl, wp_bAnd, wp_bOr, wp_bNot, wp_eIf, wp_eAnd, wp_eOr, wp_eNot, blCase_bl, wp_chain, wp_aNil, wp_aCons, wp_tup, wp_lst, wp_lstM, wp_call, wp_cl1, wp_cl2, wp_cl3, wp_cl4, wp_cl5, wp_meth, wp_isi, wp_oNone, wp_oSome, wp_sl, wp_it, wp_range1, wp_range2, wp_bYes, gEq_str, gNe_str, gEq_int, gNe_int, gEq_bl, gNe_bl, gIs_bl, gIsNot_bl, gAdd_int, gSub_int, gC_int, gI_int, gAdd_str, gAdd_tup, gAdd_lst, gNeg_int, gIx_tup, gIx_lst, gLen_tup, gLen_lst, gLen_str, gInt_int, gInt_bl, gTuple_lst, gTuple_tup, gList_lst, gList_tup, gSl_tup, gSl_lst, gSl_fl, gSl_str, srcL_tup, srcL_lst, srcL_fl, srcL_str, srcR1_int, typN, startR, List.map_cons, List.map_nil, List.length_cons, List.length_nil, Nat.reduceAdd, Nat.reduceSub, Nat.zero_add, Nat.sub_self, Nat.sub_zero, List.replicate_zero, List.replicate_succ, List.cons_append, List.nil_append, List.append_nil, List.getElem?_cons_zero, List.getElem?_cons_succ, List.set_cons_zero, List.set_cons_succ, List.set_nil, List.getElem?_nil, Option.some.injEq, exists_eq_left', exists_eq_left, exists_eq_right, reduceCtorEq, false_and, and_false, true_and, and_true, exists_false, exists_const, wipeR, Nat.zero_le, String.reduceEq, D.int.injEq, D.str.injEq, D.bl.injEq, atI_0, atI_1, atI_2, atI_3, atI_4, beq_self_eq_true, not_true_eq_false, not_false_eq_true, Int.cast_ofNat_Int, Int.reduceEq, Int.reduceLE, Int.reduceLT, Int.reduceAdd, Int.reduceSub, Int.reduceMul, Int.reduceNeg, if_true, if_false, ite_true, ite_false, Bool.false_eq_true, if_neg, if_pos, decide_eq_true_eq, Bool.not_eq_true', decide_eq_false_iff_not, eq_self_iff_true, decide_true, decide_false, Bool.not_true, Bool.not_false]
          obtain ⟨t1, o1, u1, t2, o2, u2, as, rfl, rfl, rfl, hh⟩ := sh1 hb1 hb2 rfl rfl
          simp only [fin_bl hS, wp_ok, wp_ret, wp_stuck, wp_bad, wp_bnd, wp_if, wp_fif, wps_ok_nx, wps_ok_rt, wps_ok_bk, wps_ok_ct, wps_ok_xc, wps_bad, wps_lft, wps_seq, wps_nil, wps_ret, wps_expr, wps_asg, wps_if, wp_run, wps_for, wps_while, wp_comp, wp_var, wp_C, wp_bin, wp_un, wp_T, wp_Tb, wp_asBl, wp_truthBl, wp_bAnd, wp_bOr, wp_bNot, wp_eIf, wp_eAnd, wp_eOr, wp_eNot, blCase_bl, wp_chain, wp_aNil, wp_aCons, wp_tup, wp_lst, wp_lstM, wp_call, wp_cl1, wp_cl2, wp_cl3, wp_cl4, wp_cl5, wp_meth, wp_isi, wp_oNone, wp_oSome, wp_sl, wp_it, wp_range1, wp_range2, wp_bYes, gEq_str, gNe_str, gEq_int, gNe_int, gEq_bl, gNe_bl, gIs_bl, gIsNot_bl, gAdd_int, gSub_int, gC_int, gI_int, gAdd_str, gAdd_tup, gAdd_lst, gNeg_int, gIx_tup, gIx_lst, gLen_tup, gLen_lst, gLen_str, gInt_int, gInt_bl, gTuple_lst, gTuple_tup, gList_lst, gList_tup, gSl_tup, gSl_lst, gSl_fl, gSl_str, srcL_tup, srcL_lst, srcL_fl, srcL_str, srcR1_int, typN, startR, List.map_cons, List.map_nil, List.length_cons, List.length_nil, Nat.reduceAdd, Nat.reduceSub, Nat.zero_add, Nat.sub_self, Nat.sub_zero, List.replicate_zero, List.replicate_succ, List.cons_append, List.nil_append, List.append_nil, List.getElem?_cons_zero, List.getElem?_cons_succ, List.set_cons_zero, List.set_cons_succ, List.set_nil, List.getElem?_nil, Option.some.injEq, exists_eq_left', exists_eq_left, exists_eq_right, reduceCtorEq, false_and, and_false, true_and, and_true, exists_false, exists_const, wipeR, Nat.zero_le, String.reduceEq, D.int.injEq, D.str.injEq, D.bl.injEq, atI_0, atI_1, atI_2, atI_3, atI_4, beq_self_eq_true, not_true_eq_false, not_false_eq_true, Int.cast_ofNat_Int, Int.reduceEq, Int.reduceLE, Int.reduceLT, Int.reduceAdd, Int.reduceSub, Int.reduceMul, Int.reduceNeg, if_true, if_false, ite_true, ite_false, Bool.false_eq_true, if_neg, if_pos, decide_eq_true_eq, Bool.not_eq_true', decide_eq_false_iff_not, eq_self_iff_true, decide_true, decide_false, Bool.not_true, Bool.not_false]
          by_cases q1 : t1 = (as.length : Int)
          · simp only [q1, wp_ok, wp_ret, wp_stuck, wp_bad, wp_bnd, wp_if, wp_fif, wps_ok_nx, wps_ok_rt, wps_ok_bk, wps_ok_ct, wps_ok_xc, wps_bad, wps_lft, wps_seq, wps_nil, wps_ret, wps_expr, wps_asg, wps_if, wp_run, wps_for, wps_while, wp_comp, wp_var, wp_C, wp_bin, wp_un, wp_T, wp_Tb, wp_asBl, wp_truthBl, wp_bAnd, wp_bOr, wp_bNot, wp_eIf, wp_eAnd, wp_eOr, wp_eNot, blCase_bl, wp_chain, wp_aNil, wp_aCons, wp_tup, wp_lst, wp_lstM, wp_call, wp_cl1, wp_cl2, wp_cl3, wp_cl4, wp_cl5, wp_meth, wp_isi, wp_oNone, wp_oSome, wp_sl, wp_it, wp_range1, wp_range2, wp_bYes, gEq_str, gNe_str, gEq_int, gNe_int, gEq_bl, gNe_bl, gIs_bl, gIsNot_bl, gAdd_int, gSub_int, gC_int, gI_int, gAdd_str, gAdd_tup, gAdd_lst, gNeg_int, gIx_tup, gIx_lst, gLen_tup, gLen_lst, gLen_str, gInt_int, gInt_bl, gTuple_lst, gTuple_tup, gList_lst, gList_tup, gSl_tup, gSl_lst, gSl_fl, gSl_str, srcL_tup, srcL_lst, srcL_fl, srcL_str, srcR1_int, typN, startR, List.map_cons, List.map_nil, List.length_cons, List.length_nil, Nat.reduceAdd, Nat.reduceSub, Nat.zero_add, Nat.sub_self, Nat.sub_zero, List.replicate_zero, List.replicate_succ, List.cons_append, List.nil_append, List.append_nil, List.getElem?_cons_zero, List.getElem?_cons_succ, List.set_cons_zero, List.set_cons_succ, List.set_nil, List.getElem?_nil, Option.some.injEq, exists_eq_left', exists_eq_left, exists_eq_right, reduceCtorEq, false_and, and_false, true_and, and_true, exists_false, exists_const, wipeR, Nat.zero_le, String.reduceEq, D.int.injEq, D.str.injEq, D.bl.injEq, atI_0, atI_1, atI_2, atI_3, atI_4, beq_self_eq_true, not_true_eq_false, not_false_eq_true, Int.cast_ofNat_Int, Int.reduceEq, Int.reduceLE, Int.reduceLT, Int.reduceAdd, Int.reduceSub, Int.reduceMul, Int.reduceNeg, if_true, if_false, ite_true, ite_false, Bool.false_eq_true, if_neg, if_pos, decide_eq_true_eq, Bool.not_eq_true', decide_eq_false_iff_not, eq_self_iff_true, decide_true, decide_false, Bool.not_true, Bool.not_false]
            by_cases q2 : t2 = (as.length : Int)
            · simp only [q2, wp_ok, wp_ret, wp_stuck, wp_bad, wp_bnd, wp_if, wp_fif, wps_ok_nx, wps_ok_rt, wps_ok_bk, wps_ok_ct, wps_ok_xc, wps_bad, wps_lft, wps_seq, wps_nil, wps_ret, wps_expr, wps_asg, wps_if, wp_run, wps_for, wps_while, wp_comp, wp_var, wp_C, wp_bin, wp_un, wp_T, wp_Tb, wp_asBl, wp_truthBl, wp_bAnd, wp_bOr, wp_bNot, wp_eIf, wp_eAnd, wp_eOr, wp_eNot, blCase_bl, wp_chain, wp_aNil, wp_aCons, wp_tup, wp_lst, wp_lstM, wp_call, wp_cl1, wp_cl2, wp_cl3, wp_cl4, wp_cl5, wp_meth, wp_isi, wp_oNone, wp_oSome, wp_sl, wp_it, wp_range1, wp_range2, wp_bYes, gEq_str, gNe_str, gEq_int, gNe_int, gEq_bl, gNe_bl, gIs_bl, gIsNot_bl, gAdd_int, gSub_int, gC_int, gI_int, gAdd_str, gAdd_tup, gAdd_lst, gNeg_int, gIx_tup, gIx_lst, gLen_tup, gLen_lst, gLen_str, gInt_int, gInt_bl, gTuple_lst, gTuple_tup, gList_lst, gList_tup, gSl_tup, gSl_lst, gSl_fl, gSl_str, srcL_tup, srcL_lst, srcL_fl, srcL_str, srcR1_int, typN, startR, List.map_cons, List.map_nil, List.length_cons, List.length_nil, Nat.reduceAdd, Nat.reduceSub, Nat.zero_add, Nat.sub_self, Nat.sub_zero, List.replicate_zero, List.replicate_succ, List.cons_append, List.nil_append, List.append_nil, List.getElem?_cons_zero, List.getElem?_cons_succ, List.set_cons_zero, List.set_cons_succ, List.set_nil, List.getElem?_nil, Option.some.injEq, exists_eq_left', exists_eq_left, exists_eq_right, reduceCtorEq, false_and, and_false, true_and, and_true, exists_false, exists_const, wipeR, Nat.zero_le, String.reduceEq, D.int.injEq, D.str.injEq, D.bl.injEq, atI_0, atI_1, atI_2, atI_3, atI_4, beq_self_eq_true, not_true_eq_false, not_false_eq_true, Int.cast_ofNat_Int, Int.reduceEq, Int.reduceLE, Int.reduceLT, Int.reduceAdd, Int.reduceSub, Int.reduceMul, Int.reduceNeg, if_true, if_false, ite_true, ite_false, Bool.false_eq_true, if_neg, if_pos, decide_eq_true_eq, Bool.not_eq_true', decide_eq_false_iff_not, eq_self_iff_true, decide_true, decide_false, Bool.not_true, Bool.not_false]
              have e : decide ((u1.length : Int) = (u2.length : Int)) = decide (u1.length = u2.length) := by simp [Int.ofNat_inj]
              rw [e]
              simpa [q1, q2] using hh
            · simp only [q2, wp_ok, wp_ret, wp_stuck, wp_bad, wp_bnd, wp_if, wp_fif, wps_ok_nx, wps_ok_rt, wps_ok_bk, wps_ok_ct, wps_ok_xc, wps_bad, wps_lft, wps_seq, wps_nil, wps_ret, wps_expr, wps_asg, wps_if, wp_run, wps_for, wps_while, wp_comp, wp_var, wp_C, wp_bin, wp_un, wp_T, wp_Tb, wp_asBl, wp_truthBl, wp_bAnd, wp_bOr, wp_bNot, wp_eIf, wp_eAnd, wp_eOr, wp_eNot, blCase_bl, wp_chain, wp_aNil, wp_aCons, wp_tup, wp_lst, wp_lstM, wp_call, wp_cl1, wp_cl2, wp_cl3, wp_cl4, wp_cl5, wp_meth, wp_isi, wp_oNone, wp_oSome, wp_sl, wp_it, wp_range1, wp_range2, wp_bYes, gEq_str, gNe_str, gEq_int, gNe_int, gEq_bl, gNe_bl, gIs_bl, gIsNot_bl, gAdd_int, gSub_int, gC_int, gI_int, gAdd_str, gAdd_tup, gAdd_lst, gNeg_int, gIx_tup, gIx_lst, gLen_tup, gLen_lst, gLen_str, gInt_int, gInt_bl, gTuple_lst, gTuple_tup, gList_lst, gList_tup, gSl_tup, gSl_lst, gSl_fl, gSl_str, srcL_tup, srcL_lst, srcL_fl, srcL_str, srcR1_int, typN, startR, List.map_cons, List.map_nil, List.length_cons, List.length_nil, Nat.reduceAdd, Nat.reduceSub, Nat.zero_add, Nat.sub_self, Nat.sub_zero, List.replicate_zero, List.replicate_succ, List.cons_append, List.nil_append, List.append_nil, List.getElem?_cons_zero, List.getElem?_cons_succ, List.set_cons_zero, List.set_cons_succ, List.set_nil, List.getElem?_nil, Option.some.injEq, exists_eq_left', exists_eq_left, exists_eq_right, reduceCtorEq, false_and, and_false, true_and, and_true, exists_false, exists_const, wipeR, Nat.zero_le, String.reduceEq, D.int.injEq, D.str.injEq, D.bl.injEq, atI_0, atI_1, atI_2, atI_3, atI_4, beq_self_eq_true, not_true_eq_false, not_false_eq_true, Int.cast_ofNat_Int, Int.reduceEq, Int.reduceLE, Int.reduceLT, Int.reduceAdd, Int.reduceSub, Int.reduceMul, Int.reduceNeg, if_true, if_false, ite_true, ite_false, Bool.false_eq_true, if_neg, if_pos, decide_eq_true_eq, Bool.not_eq_true', decide_eq_false_iff_not, eq_self_iff_true, decide_true, decide_false, Bool.not_true, Bool.not_false]
              simpa [q1, q2] using hh
          · simp only [q1, wp_ok, wp_ret, wp_stuck, wp_bad, wp_bnd, wp_if, wp_fif, wps_ok_nx, wps_ok_rt, wps_ok_bk, wps_ok_ct, wps_ok_xc, wps_bad, wps_lft, wps_seq, wps_nil, wps_ret, wps_expr, wps_asg, wps_if, wp_run, wps_for, wps_while, wp_comp, wp_var, wp_C, wp_bin, wp_un, wp_T, wp_Tb, wp_asBl, wp_truthBl, wp_bAnd, wp_bOr, wp_bNot, wp_eIf, wp_eAnd, wp_eOr, wp_eNot, blCase_bl, wp_chain, wp_aNil, wp_aCons, wp_tup, wp_lst, wp_lstM, wp_call, wp_cl1, wp_cl2, wp_cl3, wp_cl4, wp_cl5, wp_meth, wp_isi, wp_oNone, wp_oSome, wp_sl, wp_it, wp_range1, wp_range2, wp_bYes, gEq_str, gNe_str, gEq_int, gNe_int, gEq_bl, gNe_bl, gIs_bl, gIsNot_bl, gAdd_int, gSub_int, gC_int, gI_int, gAdd_str, gAdd_tup, gAdd_lst, gNeg_int, gIx_tup, gIx_lst, gLen_tup, gLen_lst, gLen_str, gInt_int, gInt_bl, gTuple_lst, gTuple_tup, gList_lst, gList_tup, gSl_tup, gSl_lst, gSl_fl, gSl_str, srcL_tup, srcL_lst, srcL_fl, srcL_str, srcR1_int, typN, startR, List.map_cons, List.map_nil, List.length_cons, List.length_nil, Nat.reduceAdd, Nat.reduceSub, Nat.zero_add, Nat.sub_self, Nat.sub_zero, List.replicate_zero, List.replicate_succ, List.cons_append, List.nil_append, List.append_nil, List.getElem?_cons_zero, List.getElem?_cons_succ, List.set_cons_zero, List.set_cons_succ, List.set_nil, List.getElem?_nil, Option.some.injEq, exists_eq_left', exists_eq_left, exists_eq_right, reduceCtorEq, false_and, and_false, true_and, and_true, exists_false, exists_const, wipeR, Nat.zero_le, String.reduceEq, D.int.injEq, D.str.injEq, D.bl.injEq, atI_0, atI_1, atI_2, atI_3, atI_4, beq_self_eq_true, not_true_eq_false, not_false_eq_true, Int.cast_ofNat_Int, Int.reduceEq, Int.reduceLE, Int.reduceLT, Int.reduceAdd, Int.reduceSub, Int.reduceMul, Int.reduceNeg, if_true, if_false, ite_true, ite_false, Bool.false_eq_true, if_neg, if_pos, decide_eq_true_eq, Bool.not_eq_true', decide_eq_false_iff_not, eq_self_iff_true, decide_true, decide_false, Bool.not_true, Bool.not_false]
            simpa [q1] using hh
theorem op_ok {k many made : Nat} {op : D} {M : Nat} (hCV : ∀ t w c, CodeG k t w c → CV M fu c true) (h : OpG (CodeG k) many made op) : OV (M + 12) fu op many true := by
  intro n S F E hn hS hF
  obtain ⟨m, rfl⟩ : ∃ m, n = m + 1 := ⟨n - 1, by omega⟩
  show wp (runDef false 2 (b_is_op fu (den fu m)) _ _) _ _
  rcases h with ⟨rfl, t, rfl, ht⟩ | ⟨rfl, a, rfl, ha⟩ | ⟨rfl, w, a, b, rfl, hw, ha, hb⟩ | ⟨one, args, side, other, rfl, ho, ha, hl, _, h1, h2⟩
  · simp only [b_is_op, isiN_tt, isiN_ss, fin_bl hS, ofString_inj, wp_ok, wp_ret, wp_stuck, wp_bad, wp_bnd, wp_if, wp_fif, wps_ok_nx, wps_ok_rt, wps_ok_bk, wps_ok_ct, wps_ok_xc, wps_bad, wps_lft, wps_seq, wps_nil, wps_ret, wps_expr, wps_asg, wps_if, wp_run, wps_for, wps_while, wp_comp, wp_var, wp_C, wp_bin, wp_un, wp_T, wp_Tb, wp_asBl, wp_truthBl, wp_bAnd, wp_bOr, wp_bNot, wp_eIf, wp_eAnd, wp_eOr, wp_eNot, blCase_bl, wp_chain, wp_aNil, wp_aCons, wp_tup, wp_lst, wp_lstM, wp_call, wp_cl1, wp_cl2, wp_cl3, wp_cl4, wp_cl5, wp_meth, wp_isi, wp_oNone, wp_oSome, wp_sl, wp_it, wp_range1, wp_range2, wp_bYes, gEq_str, gNe_str, gEq_int, gNe_int, gEq_bl, gNe_bl, gIs_bl, gIsNot_bl, gAdd_int, gSub_int, gC_int, gI_int, gAdd_str, gAdd_tup, gAdd_lst, gNeg_int, gIx_tup, gIx_lst, gLen_tup, gLen_lst, gLen_str, gInt_int, gInt_bl, gTuple_lst, gTuple_tup, gList_lst, gList_tup, gSl_tup, gSl_lst, gSl_fl, gSl_str, srcL_tup, srcL_lst, srcL_fl, srcL_str, srcR1_int, typN, startR, List.map_cons, List.map_nil, List.length_cons, List.length_nil, Nat.reduceAdd, Nat.reduceSub, Nat.zero_add, Nat.sub_self, Nat.sub_zero, List.replicate_zero, List.replicate_succ, List.cons_append, List.nil_append, List.append_nil, List.getElem?_cons_zero, List.getElem?_cons_succ, List.set_cons_zero, List.set_cons_succ, List.set_nil, List.getElem?_nil, Option.some.injEq, exists_eq_left', exists_eq_left, exists_eq_right, reduceCtorEq, false_and, and_false, true_and, and_true, exists_false, exists_const, wipeR, Nat.zero_le, String.reduceEq, D.int.injEq, D.str.injEq, D.bl.injEq, atI_0, atI_1, atI_2, atI_3, atI_4, beq_self_eq_true, not_true_eq_false, not_false_eq_true, Int.cast_ofNat_Int, Int.reduceEq, Int.reduceLE, Int.reduceLT, Int.reduceAdd, Int.reduceSub, Int.reduceMul, Int.reduceNeg, if_true, if_false, ite_true, ite_false, Bool.false_eq_true, if_neg, if_pos, decide_eq_true_eq, Bool.not_eq_true', decide_eq_false_iff_not, eq_self_iff_true, decide_true, decide_false, Bool.not_true, Bool.not_false]
    exact thing_ok 2 t m S _ _ ht (by omega) hS ((fin_bl hS).mpr hF)
  · have cut : cutD [D.str (Str.ofString "wrap"), a] (some 1) none = [a] := rfl
    simp only [b_is_op, isiN_tt, isiN_ss, fin_bl hS, ofString_inj, cut, wp_ok, wp_ret, wp_stuck, wp_bad, wp_bnd, wp_if, wp_fif, wps_ok_nx, wps_ok_rt, wps_ok_bk, wps_ok_ct, wps_ok_xc, wps_bad, wps_lft, wps_seq, wps_nil, wps_ret, wps_expr, wps_asg, wps_if, wp_run, wps_for, wps_while, wp_comp, wp_var, wp_C, wp_bin, wp_un, wp_T, wp_Tb, wp_asBl, wp_truthBl, wp_bAnd, wp_bOr, wp_bNot, wp_eIf, wp_eAnd, wp_eOr, wp_eNot, blCase_bl, wp_chain, wp_aNil, wp_aCons, wp_tup, wp_lst, wp_lstM, wp_call, wp_cl1, wp_cl2, wp_cl3, wp_cl4, wp_cl5, wp_meth, wp_isi, wp_oNone, wp_oSome, wp_sl, wp_it, wp_range1, wp_range2, wp_bYes, gEq_str, gNe_str, gEq_int, gNe_int, gEq_bl, gNe_bl, gIs_bl, gIsNot_bl, gAdd_int, gSub_int, gC_int, gI_int, gAdd_str, gAdd_tup, gAdd_lst, gNeg_int, gIx_tup, gIx_lst, gLen_tup, gLen_lst, gLen_str, gInt_int, gInt_bl, gTuple_lst, gTuple_tup, gList_lst, gList_tup, gSl_tup, gSl_lst, gSl_fl, gSl_str, srcL_tup, srcL_lst, srcL_fl, srcL_str, srcR1_int, typN, startR, List.map_cons, List.map_nil, List.length_cons, List.length_nil, Nat.reduceAdd, Nat.reduceSub, Nat.zero_add, Nat.sub_self, Nat.sub_zero, List.replicate_zero, List.replicate_succ, List.cons_append, List.nil_append, List.append_nil, List.getElem?_cons_zero, List.getElem?_cons_succ, List.set_cons_zero, List.set_cons_succ, List.set_nil, List.getElem?_nil, Option.some.injEq, exists_eq_left', exists_eq_left, exists_eq_right, reduceCtorEq, false_and, and_false, true_and, and_true, exists_false, exists_const, wipeR, Nat.zero_le, String.reduceEq, D.int.injEq, D.str.injEq, D.bl.injEq, atI_0, atI_1, atI_2, atI_3, atI_4, beq_self_eq_true, not_true_eq_false, not_false_eq_true, Int.cast_ofNat_Int, Int.reduceEq, Int.reduceLE, Int.reduceLT, Int.reduceAdd, Int.reduceSub, Int.reduceMul, Int.reduceNeg, if_true, if_false, ite_true, ite_false, Bool.false_eq_true, if_neg, if_pos, decide_eq_true_eq, Bool.not_eq_true', decide_eq_false_iff_not, eq_self_iff_true, decide_true, decide_false, Bool.not_true, Bool.not_false]
    refine regs_ok (by omega) rfl (fun ds h => by cases h; exact ⟨by simp, fun d hd => by simp only [List.mem_singleton] at hd; rw [hd]; exact ha.plain⟩) hS ?_
    have : regsB many (.tup [a]) = true := by simp [regsB, ha.b]
    rw [this]; exact (fin_bl hS).mpr hF
  · have n1 : ¬ w = Str.ofString "push" := fun e => by subst e; revert hw; decide +kernel
    have n2 : ¬ w = Str.ofString "wrap" := fun e => by subst e; revert hw; decide +kernel
    have cut : cutD [D.str w, a, b] (some 1) none = [a, b] := rfl
    simp only [b_is_op, isiN_tt, isiN_ss, fin_bl hS, n1, n2, k_PAIRS_eq, gIn_strs (show iLst S (.tup (pairs.map .str)) = some (pairs.map .str) from rfl), hw, cut, wp_ok, wp_ret, wp_stuck, wp_bad, wp_bnd, wp_if, wp_fif, wps_ok_nx, wps_ok_rt, wps_ok_bk, wps_ok_ct, wps_ok_xc, wps_bad, wps_lft, wps_seq, wps_nil, wps_ret, wps_expr, wps_asg, wps_if, wp_run, wps_for, wps_while, wp_comp, wp_var, wp_C, wp_bin, wp_un, wp_T, wp_Tb, wp_asBl, wp_truthBl, wp_bAnd, wp_bOr, wp_bNot, wp_eIf, wp_eAnd, wp_eOr, wp_eNot, blCase_bl, wp_chain, wp_aNil, wp_aCons, wp_tup, wp_lst, wp_lstM, wp_call, wp_cl1, wp_cl2, wp_cl3, wp_cl4, wp_cl5, wp_meth, wp_isi, wp_oNone, wp_oSome, wp_sl, wp_it, wp_range1, wp_range2, wp_bYes, gEq_str, gNe_str, gEq_int, gNe_int, gEq_bl, gNe_bl, gIs_bl, gIsNot_bl, gAdd_int, gSub_int, gC_int, gI_int, gAdd_str, gAdd_tup, gAdd_lst, gNeg_int, gIx_tup, gIx_lst, gLen_tup, gLen_lst, gLen_str, gInt_int, gInt_bl, gTuple_lst, gTuple_tup, gList_lst, gList_tup, gSl_tup, gSl_lst, gSl_fl, gSl_str, srcL_tup, srcL_lst, srcL_fl, srcL_str, srcR1_int, typN, startR, List.map_cons, List.map_nil, List.length_cons, List.length_nil, Nat.reduceAdd, Nat.reduceSub, Nat.zero_add, Nat.sub_self, Nat.sub_zero, List.replicate_zero, List.replicate_succ, List.cons_append, List.nil_append, List.append_nil, List.getElem?_cons_zero, List.getElem?_cons_succ, List.set_cons_zero, List.set_cons_succ, List.set_nil, List.getElem?_nil, Option.some.injEq, exists_eq_left', exists_eq_left, exists_eq_right, reduceCtorEq, false_and, and_false, true_and, and_true, exists_false, exists_const, wipeR, Nat.zero_le, String.reduceEq, D.int.injEq, D.str.injEq, D.bl.injEq, atI_0, atI_1, atI_2, atI_3, atI_4, beq_self_eq_true, not_true_eq_false, not_false_eq_true, Int.cast_ofNat_Int, Int.reduceEq, Int.reduceLE, Int.reduceLT, Int.reduceAdd, Int.reduceSub, Int.reduceMul, Int.reduceNeg, if_true, if_false, ite_true, ite_false, Bool.false_eq_true, if_neg, if_pos, decide_eq_true_eq, Bool.not_eq_true', decide_eq_false_iff_not, eq_self_iff_true, decide_true, decide_false, Bool.not_true, Bool.not_false]
    refine regs_ok (by omega) rfl (fun ds h => by cases h; exact ⟨by simp, fun d hd => by simp only [List.mem_cons, List.not_mem_nil, or_false] at hd; rcases hd with rfl | rfl <;> first | exact ha.plain | exact hb.plain⟩) hS ?_
    have : regsB many (.tup [a, b]) = true := by simp [regsB, ha.b, hb.b]
    rw [this]; exact (fin_bl hS).mpr hF
  · have n3 : ¬ Str.ofString "if" ∈ pairs := by decide +kernel
    simp only [b_is_op, isiN_tt, isiN_ss, fin_bl hS, ofString_inj, k_PAIRS_eq, gIn_strs (show iLst S (.tup (pairs.map .str)) = some (pairs.map .str) from rfl), n3, wp_ok, wp_ret, wp_stuck, wp_bad, wp_bnd, wp_if, wp_fif, wps_ok_nx, wps_ok_rt, wps_ok_bk, wps_ok_ct, wps_ok_xc, wps_bad, wps_lft, wps_seq, wps_nil, wps_ret, wps_expr, wps_asg, wps_if, wp_run, wps_for, wps_while, wp_comp, wp_var, wp_C, wp_bin, wp_un, wp_T, wp_Tb, wp_asBl, wp_truthBl, wp_bAnd, wp_bOr, wp_bNot, wp_eIf, wp_eAnd, wp_eOr, wp_eNot, blCase_bl, wp_chain, wp_aNil, wp_aCons, wp_tup, wp_lst, wp_lstM, wp_call, wp_cl1, wp_cl2, wp_cl3, wp_cl4, wp_cl5, wp_meth, wp_isi, wp_oNone, wp_oSome, wp_sl, wp_it, wp_range1, wp_range2, wp_bYes, gEq_str, gNe_str, gEq_int, gNe_int, gEq_bl, gNe_bl, gIs_bl, gIsNot_bl, gAdd_int, gSub_int, gC_int, gI_int, gAdd_str, gAdd_tup, gAdd_lst, gNeg_int, gIx_tup, gIx_lst, gLen_tup, gLen_lst, gLen_str, gInt_int, gInt_bl, gTuple_lst, gTuple_tup, gList_lst, gList_tup, gSl_tup, gSl_lst, gSl_fl, gSl_str, srcL_tup, srcL_lst, srcL_fl, srcL_str, srcR1_int, typN, startR, List.map_cons, List.map_nil, List.length_cons, List.length_nil, Nat.reduceAdd, Nat.reduceSub, Nat.zero_add, Nat.sub_self, Nat.sub_zero, List.replicate_zero, List.replicate_succ, List.cons_append, List.nil_append, List.append_nil, List.getElem?_cons_zero, List.getElem?_cons_succ, List.set_cons_zero, List.set_cons_succ, List.set_nil, List.getElem?_nil, Option.some.injEq, exists_eq_left', exists_eq_left, exists_eq_right, reduceCtorEq, false_and, and_false, true_and, and_true, exists_false, exists_const, wipeR, Nat.zero_le, String.reduceEq, D.int.injEq, D.str.injEq, D.bl.injEq, atI_0, atI_1, atI_2, atI_3, atI_4, beq_self_eq_true, not_true_eq_false, not_false_eq_true, Int.cast_ofNat_Int, Int.reduceEq, Int.reduceLE, Int.reduceLT, Int.reduceAdd, Int.reduceSub, Int.reduceMul, Int.reduceNeg, if_true, if_false, ite_true, ite_false, Bool.false_eq_true, if_neg, if_pos, decide_eq_true_eq, Bool.not_eq_true', decide_eq_false_iff_not, eq_self_iff_true, decide_true, decide_false, Bool.not_true, Bool.not_false]
    obtain ⟨o1, u1, e1, rfl, l1, _⟩ := h1.shape
    obtain ⟨o2, u2, e2, rfl, l2, _⟩ := h2.shape
    refine choice_ok (b1 := true) (b2 := true) (M := M) (by omega) ho.plain rfl (fun ds h => by cases h; exact ⟨by omega, fun d hd => (ha d hd).plain⟩) (hCV _ _ _ h1) (hCV _ _ _ h2) hS (fun _ _ _ _ => ⟨_, _, _, _, _, _, _, rfl, rfl, rfl, ?_⟩) (fun h => ?_)
    · rw [l1, l2]
      simp only [decide_true, Bool.and_self]
      exact (fin_bl hS).mpr hF
    · have : regsB many (.tup args) = true := by
        simp only [regsB, List.all_eq_true]; exact fun a h => (ha a h).b
      rw [ho.b, this] at h; cases h
end K63

namespace K63
open PySem L2 DL
variable {fu n : Nat} {S : Sto} {F : D → Sto → Prop} {E : Exc → Sto → Prop}
theorem code_eval {k M takes e : Nat} {ops : List D} {x : D} {N : Nat} (hCV : ∀ t w c, CodeG k t w c → CV M fu c true) (hN : M + 13 ≤ N) (hl : ops.length ≤ 1000) (h : OpsG (CodeG k) takes ops e) (hx : plain x = true) (hp : ∀ ds, x = .tup ds → ds.length ≤ 1000 ∧ ∀ d ∈ ds, plain d = true) (hS : WF S) (hF : F (.bl (regsB e x)) S) :
    wp (den fu N i_is_code [.tup [.int takes, .tup ops, x]] S) F E := by
  obtain ⟨m, rfl⟩ : ∃ m, N = m + 1 := ⟨N - 1, by omega⟩
  show wp (runDef false 3 (b_is_code fu (den fu m)) _ _) _ _
  obtain ⟨m', rfl⟩ : ∃ m', m = m' + 1 := ⟨m - 1, by omega⟩
  simp only [b_is_code, isiN_tt, fin_bl hS, wp_ok, wp_ret, wp_stuck, wp_bad, wp_bnd, wp_if, wp_fif, wps_ok_nx, wps_ok_rt, wps_ok_bk, wps_ok_ct, wps_ok_xc, wps_bad, wps_lft, wps_seq, wps_nil, wps_ret, wps_expr, wps_asg, wps_if, wp_run, wps_for, wps_while, wp_comp, wp_var, wp_C, wp_bin, wp_un, wp_T, wp_Tb, wp_asBl, wp_truthBl, wp_bAnd, wp_bOr, wp_bNot, wp_eIf, wp_eAnd, wp_eOr, wp_eNot, blCase_bl, wp_chain, wp_aNil, wp_aCons, wp_tup, wp_lst, wp_lstM, wp_call, wp_cl1, wp_cl2, wp_cl3, wp_cl4, wp_cl5, wp_meth, wp_isi, wp_oNone, wp_oSome, wp_sl, wp_it, wp_range1, wp_range2, wp_bYes, gEq_str, gNe_str, gEq_int, gNe_int, gEq_bl, gNe_bl, gIs_bl, gIsNot_bl, gAdd_int, gSub_int, gC_int, gI_int, gAdd_str, gAdd_tup, gAdd_lst, gNeg_int, gIx_tup, gIx_lst, gLen_tup, gLen_lst, gLen_str, gInt_int, gInt_bl, gTuple_lst, gTuple_tup, gList_lst, gList_tup, gSl_tup, gSl_lst, gSl_fl, gSl_str, srcL_tup, srcL_lst, srcL_fl, srcL_str, srcR1_int, typN, startR, List.map_cons, List.map_nil, List.length_cons, List.length_nil, Nat.reduceAdd, Nat.reduceSub, Nat.zero_add, Nat.sub_self, Nat.sub_zero, List.replicate_zero, List.replicate_succ, List.cons_append, List.nil_append, List.append_nil, List.getElem?_cons_zero, List.getElem?_cons_succ, List.set_cons_zero, List.set_cons_succ, List.set_nil, List.getElem?_nil, Option.some.injEq, exists_eq_left', exists_eq_left, exists_eq_right, reduceCtorEq, false_and, and_false, true_and, and_true, exists_false, exists_const, wipeR, Nat.zero_le, String.reduceEq, D.int.injEq, D.str.injEq, D.bl.injEq, atI_0, atI_1, atI_2, atI_3, atI_4, beq_self_eq_true, not_true_eq_false, not_false_eq_true, Int.cast_ofNat_Int, Int.reduceEq, Int.reduceLE, Int.reduceLT, Int.reduceAdd, Int.reduceSub, Int.reduceMul, Int.reduceNeg, if_true, if_false, ite_true, ite_false, Bool.false_eq_true, if_neg, if_pos, decide_eq_true_eq, Bool.not_eq_true', decide_eq_false_iff_not, eq_self_iff_true, decide_true, decide_false, Bool.not_true, Bool.not_false]
  refine whole_ok rfl hS ?_
  simp only [wholeB, show (0 : Int) ≤ (takes : Int) by omega, wp_ok, wp_ret, wp_stuck, wp_bad, wp_bnd, wp_if, wp_fif, wps_ok_nx, wps_ok_rt, wps_ok_bk, wps_ok_ct, wps_ok_xc, wps_bad, wps_lft, wps_seq, wps_nil, wps_ret, wps_expr, wps_asg, wps_if, wp_run, wps_for, wps_while, wp_comp, wp_var, wp_C, wp_bin, wp_un, wp_T, wp_Tb, wp_asBl, wp_truthBl, wp_bAnd, wp_bOr, wp_bNot, wp_eIf, wp_eAnd, wp_eOr, wp_eNot, blCase_bl, wp_chain, wp_aNil, wp_aCons, wp_tup, wp_lst, wp_lstM, wp_call, wp_cl1, wp_cl2, wp_cl3, wp_cl4, wp_cl5, wp_meth, wp_isi, wp_oNone, wp_oSome, wp_sl, wp_it, wp_range1, wp_range2, wp_bYes, gEq_str, gNe_str, gEq_int, gNe_int, gEq_bl, gNe_bl, gIs_bl, gIsNot_bl, gAdd_int, gSub_int, gC_int, gI_int, gAdd_str, gAdd_tup, gAdd_lst, gNeg_int, gIx_tup, gIx_lst, gLen_tup, gLen_lst, gLen_str, gInt_int, gInt_bl, gTuple_lst, gTuple_tup, gList_lst, gList_tup, gSl_tup, gSl_lst, gSl_fl, gSl_str, srcL_tup, srcL_lst, srcL_fl, srcL_str, srcR1_int, typN, startR, List.map_cons, List.map_nil, List.length_cons, List.length_nil, Nat.reduceAdd, Nat.reduceSub, Nat.zero_add, Nat.sub_self, Nat.sub_zero, List.replicate_zero, List.replicate_succ, List.cons_append, List.nil_append, List.append_nil, List.getElem?_cons_zero, List.getElem?_cons_succ, List.set_cons_zero, List.set_cons_succ, List.set_nil, List.getElem?_nil, Option.some.injEq, exists_eq_left', exists_eq_left, exists_eq_right, reduceCtorEq, false_and, and_false, true_and, and_true, exists_false, exists_const, wipeR, Nat.zero_le, String.reduceEq, D.int.injEq, D.str.injEq, D.bl.injEq, atI_0, atI_1, atI_2, atI_3, atI_4, beq_self_eq_true, not_true_eq_false, not_false_eq_true, Int.cast_ofNat_Int, Int.reduceEq, Int.reduceLE, Int.reduceLT, Int.reduceAdd, Int.reduceSub, Int.reduceMul, Int.reduceNeg, if_true, if_false, ite_true, ite_false, Bool.false_eq_true, if_neg, if_pos, decide_eq_true_eq, Bool.not_eq_true', decide_eq_false_iff_not, eq_self_iff_true, decide_true, decide_false, Bool.not_true, Bool.not_false]
  refine wps_forM (fun i ρ S' => S' = S ∧ ∃ (m : Nat) (o : Option D), ρ = [some (.tup [.int takes, .tup ops, x]), some (.int m), o] ∧ OpsG (CodeG k) m (ops.drop i) e) (fun _ _ _ _ => trivial) ?_ ?_ ⟨rfl, takes, none, rfl, by simpa using h⟩
  · rintro i d ρ S' hd ⟨rfl, mm, o, rfl, ho⟩
    refine ⟨_, rfl, ?_⟩
    have hlt := (List.getElem?_eq_some_iff.mp hd).1
    rw [List.drop_eq_getElem_cons hlt, (List.getElem?_eq_some_iff.mp hd).2] at ho
    obtain ⟨made, g1, g2⟩ := ho
    simp only [wp_ok, wp_ret, wp_stuck, wp_bad, wp_bnd, wp_if, wp_fif, wps_ok_nx, wps_ok_rt, wps_ok_bk, wps_ok_ct, wps_ok_xc, wps_bad, wps_lft, wps_seq, wps_nil, wps_ret, wps_expr, wps_asg, wps_if, wp_run, wps_for, wps_while, wp_comp, wp_var, wp_C, wp_bin, wp_un, wp_T, wp_Tb, wp_asBl, wp_truthBl, wp_bAnd, wp_bOr, wp_bNot, wp_eIf, wp_eAnd, wp_eOr, wp_eNot, blCase_bl, wp_chain, wp_aNil, wp_aCons, wp_tup, wp_lst, wp_lstM, wp_call, wp_cl1, wp_cl2, wp_cl3, wp_cl4, wp_cl5, wp_meth, wp_isi, wp_oNone, wp_oSome, wp_sl, wp_it, wp_range1, wp_range2, wp_bYes, gEq_str, gNe_str, gEq_int, gNe_int, gEq_bl, gNe_bl, gIs_bl, gIsNot_bl, gAdd_int, gSub_int, gC_int, gI_int, gAdd_str, gAdd_tup, gAdd_lst, gNeg_int, gIx_tup, gIx_lst, gLen_tup, gLen_lst, gLen_str, gInt_int, gInt_bl, gTuple_lst, gTuple_tup, gList_lst, gList_tup, gSl_tup, gSl_lst, gSl_fl, gSl_str, srcL_tup, srcL_lst, srcL_fl, srcL_str, srcR1_int, typN, startR, List.map_cons, List.map_nil, List.length_cons, List.length_nil, Nat.reduceAdd, Nat.reduceSub, Nat.zero_add, Nat.sub_self, Nat.sub_zero, List.replicate_zero, List.replicate_succ, List.cons_append, List.nil_append, List.append_nil, List.getElem?_cons_zero, List.getElem?_cons_succ, List.set_cons_zero, List.set_cons_succ, List.set_nil, List.getElem?_nil, Option.some.injEq, exists_eq_left', exists_eq_left, exists_eq_right, reduceCtorEq, false_and, and_false, true_and, and_true, exists_false, exists_const, wipeR, Nat.zero_le, String.reduceEq, D.int.injEq, D.str.injEq, D.bl.injEq, atI_0, atI_1, atI_2, atI_3, atI_4, beq_self_eq_true, not_true_eq_false, not_false_eq_true, Int.cast_ofNat_Int, Int.reduceEq, Int.reduceLE, Int.reduceLT, Int.reduceAdd, Int.reduceSub, Int.reduceMul, Int.reduceNeg, if_true, if_false, ite_true, ite_false, Bool.false_eq_true, if_neg, if_pos, decide_eq_true_eq, Bool.not_eq_true', decide_eq_false_iff_not, eq_self_iff_true, decide_true, decide_false, Bool.not_true, Bool.not_false]
    refine op_ok hCV g1 _ _ _ _ (by omega) hS ?_
    simp only [wp_ok, wp_ret, wp_stuck, wp_bad, wp_bnd, wp_if, wp_fif, wps_ok_nx, wps_ok_rt, wps_ok_bk, wps_ok_ct, wps_ok_xc, wps_bad, wps_lft, wps_seq, wps_nil, wps_ret, wps_expr, wps_asg, wps_if, wp_run, wps_for, wps_while, wp_comp, wp_var, wp_C, wp_bin, wp_un, wp_T, wp_Tb, wp_asBl, wp_truthBl, wp_bAnd, wp_bOr, wp_bNot, wp_eIf, wp_eAnd, wp_eOr, wp_eNot, blCase_bl, wp_chain, wp_aNil, wp_aCons, wp_tup, wp_lst, wp_lstM, wp_call, wp_cl1, wp_cl2, wp_cl3, wp_cl4, wp_cl5, wp_meth, wp_isi, wp_oNone, wp_oSome, wp_sl, wp_it, wp_range1, wp_range2, wp_bYes, gEq_str, gNe_str, gEq_int, gNe_int, gEq_bl, gNe_bl, gIs_bl, gIsNot_bl, gAdd_int, gSub_int, gC_int, gI_int, gAdd_str, gAdd_tup, gAdd_lst, gNeg_int, gIx_tup, gIx_lst, gLen_tup, gLen_lst, gLen_str, gInt_int, gInt_bl, gTuple_lst, gTuple_tup, gList_lst, gList_tup, gSl_tup, gSl_lst, gSl_fl, gSl_str, srcL_tup, srcL_lst, srcL_fl, srcL_str, srcR1_int, typN, startR, List.map_cons, List.map_nil, List.length_cons, List.length_nil, Nat.reduceAdd, Nat.reduceSub, Nat.zero_add, Nat.sub_self, Nat.sub_zero, List.replicate_zero, List.replicate_succ, List.cons_append, List.nil_append, List.append_nil, List.getElem?_cons_zero, List.getElem?_cons_succ, List.set_cons_zero, List.set_cons_succ, List.set_nil, List.getElem?_nil, Option.some.injEq, exists_eq_left', exists_eq_left, exists_eq_right, reduceCtorEq, false_and, and_false, true_and, and_true, exists_false, exists_const, wipeR, Nat.zero_le, String.reduceEq, D.int.injEq, D.str.injEq, D.bl.injEq, atI_0, atI_1, atI_2, atI_3, atI_4, beq_self_eq_true, not_true_eq_false, not_false_eq_true, Int.cast_ofNat_Int, Int.reduceEq, Int.reduceLE, Int.reduceLT, Int.reduceAdd, Int.reduceSub, Int.reduceMul, Int.reduceNeg, if_true, if_false, ite_true, ite_false, Bool.false_eq_true, if_neg, if_pos, decide_eq_true_eq, Bool.not_eq_true', decide_eq_false_iff_not, eq_self_iff_true, decide_true, decide_false, Bool.not_true, Bool.not_false]
    refine made_ok hS g1 ?_
    simp only [wp_ok, wp_ret, wp_stuck, wp_bad, wp_bnd, wp_if, wp_fif, wps_ok_nx, wps_ok_rt, wps_ok_bk, wps_ok_ct, wps_ok_xc, wps_bad, wps_lft, wps_seq, wps_nil, wps_ret, wps_expr, wps_asg, wps_if, wp_run, wps_for, wps_while, wp_comp, wp_var, wp_C, wp_bin, wp_un, wp_T, wp_Tb, wp_asBl, wp_truthBl, wp_bAnd, wp_bOr, wp_bNot, wp_eIf, wp_eAnd, wp_eOr, wp_eNot, blCase_bl, wp_chain, wp_aNil, wp_aCons, wp_tup, wp_lst, wp_lstM, wp_call, wp_cl1, wp_cl2, wp_cl3, wp_cl4, wp_cl5, wp_meth, wp_isi, wp_oNone, wp_oSome, wp_sl, wp_it, wp_range1, wp_range2, wp_bYes, gEq_str, gNe_str, gEq_int, gNe_int, gEq_bl, gNe_bl, gIs_bl, gIsNot_bl, gAdd_int, gSub_int, gC_int, gI_int, gAdd_str, gAdd_tup, gAdd_lst, gNeg_int, gIx_tup, gIx_lst, gLen_tup, gLen_lst, gLen_str, gInt_int, gInt_bl, gTuple_lst, gTuple_tup, gList_lst, gList_tup, gSl_tup, gSl_lst, gSl_fl, gSl_str, srcL_tup, srcL_lst, srcL_fl, srcL_str, srcR1_int, typN, startR, List.map_cons, List.map_nil, List.length_cons, List.length_nil, Nat.reduceAdd, Nat.reduceSub, Nat.zero_add, Nat.sub_self, Nat.sub_zero, List.replicate_zero, List.replicate_succ, List.cons_append, List.nil_append, List.append_nil, List.getElem?_cons_zero, List.getElem?_cons_succ, List.set_cons_zero, List.set_cons_succ, List.set_nil, List.getElem?_nil, Option.some.injEq, exists_eq_left', exists_eq_left, exists_eq_right, reduceCtorEq, false_and, and_false, true_and, and_true, exists_false, exists_const, wipeR, Nat.zero_le, String.reduceEq, D.int.injEq, D.str.injEq, D.bl.injEq, atI_0, atI_1, atI_2, atI_3, atI_4, beq_self_eq_true, not_true_eq_false, not_false_eq_true, Int.cast_ofNat_Int, Int.reduceEq, Int.reduceLE, Int.reduceLT, Int.reduceAdd, Int.reduceSub, Int.reduceMul, Int.reduceNeg, if_true, if_false, ite_true, ite_false, Bool.false_eq_true, if_neg, if_pos, decide_eq_true_eq, Bool.not_eq_true', decide_eq_false_iff_not, eq_self_iff_true, decide_true, decide_false, Bool.not_true, Bool.not_false]
    exact ⟨mm + made, some d, by simp, g2⟩
  · rintro ρ S' ⟨rfl, mm, o, rfl, ho⟩
    rw [List.drop_length] at ho
    have : e = mm := ho
    subst this
    simp only [wp_ok, wp_ret, wp_stuck, wp_bad, wp_bnd, wp_if, wp_fif, wps_ok_nx, wps_ok_rt, wps_ok_bk, wps_ok_ct, wps_ok_xc, wps_bad, wps_lft, wps_seq, wps_nil, wps_ret, wps_expr, wps_asg, wps_if, wp_run, wps_for, wps_while, wp_comp, wp_var, wp_C, wp_bin, wp_un, wp_T, wp_Tb, wp_asBl, wp_truthBl, wp_bAnd, wp_bOr, wp_bNot, wp_eIf, wp_eAnd, wp_eOr, wp_eNot, blCase_bl, wp_chain, wp_aNil, wp_aCons, wp_tup, wp_lst, wp_lstM, wp_call, wp_cl1, wp_cl2, wp_cl3, wp_cl4, wp_cl5, wp_meth, wp_isi, wp_oNone, wp_oSome, wp_sl, wp_it, wp_range1, wp_range2, wp_bYes, gEq_str, gNe_str, gEq_int, gNe_int, gEq_bl, gNe_bl, gIs_bl, gIsNot_bl, gAdd_int, gSub_int, gC_int, gI_int, gAdd_str, gAdd_tup, gAdd_lst, gNeg_int, gIx_tup, gIx_lst, gLen_tup, gLen_lst, gLen_str, gInt_int, gInt_bl, gTuple_lst, gTuple_tup, gList_lst, gList_tup, gSl_tup, gSl_lst, gSl_fl, gSl_str, srcL_tup, srcL_lst, srcL_fl, srcL_str, srcR1_int, typN, startR, List.map_cons, List.map_nil, List.length_cons, List.length_nil, Nat.reduceAdd, Nat.reduceSub, Nat.zero_add, Nat.sub_self, Nat.sub_zero, List.replicate_zero, List.replicate_succ, List.cons_append, List.nil_append, List.append_nil, List.getElem?_cons_zero, List.getElem?_cons_succ, List.set_cons_zero, List.set_cons_succ, List.set_nil, List.getElem?_nil, Option.some.injEq, exists_eq_left', exists_eq_left, exists_eq_right, reduceCtorEq, false_and, and_false, true_and, and_true, exists_false, exists_const, wipeR, Nat.zero_le, String.reduceEq, D.int.injEq, D.str.injEq, D.bl.injEq, atI_0, atI_1, atI_2, atI_3, atI_4, beq_self_eq_true, not_true_eq_false, not_false_eq_true, Int.cast_ofNat_Int, Int.reduceEq, Int.reduceLE, Int.reduceLT, Int.reduceAdd, Int.reduceSub, Int.reduceMul, Int.reduceNeg, if_true, if_false, ite_true, ite_false, Bool.false_eq_true, if_neg, if_pos, decide_eq_true_eq, Bool.not_eq_true', decide_eq_false_iff_not, eq_self_iff_true, decide_true, decide_false, Bool.not_true, Bool.not_false]
    exact regs_ok (by omega) hx hp hS ((fin_bl hS).mpr hF)
theorem code_ok : ∀ (k t w : Nat) (c : D), CodeG k t w c → CV (13 * k) fu c true
  | 0, _, _, _, h => h.elim
  | k + 1, t, w, c, h => fun n S F E hn hS hF => by
    obtain ⟨ops, outs, e, rfl, h1, h2, h3, h4, h5, h6, h7⟩ := h
    refine code_eval (k := k) (M := 13 * k) (fun t w c => code_ok k t w c) (by omega) (by omega) h3 rfl (fun ds h => by cases h; exact ⟨by omega, fun d hd => (h6 d hd).plain⟩) hS ?_
    have : regsB e (.tup outs) = true := by
      simp only [regsB, List.all_eq_true]; exact fun o ho => (h6 o ho).b
    rw [this]; exact hF
/-- an op in the middle that is none -/
theorem code_badop {k M takes e : Nat} {ops rest : List D} {bad x : D} {N : Nat} (hCV : ∀ t w c, CodeG k t w c → CV M fu c true) (hN : M + 13 ≤ N) (hl : (ops ++ bad :: rest).length ≤ 1000) (h : OpsG (CodeG k) takes ops e) (hb : OV (M + 12) fu bad e false) (hS : WF S) (hF : F (.bl false) S) :
    wp (den fu N i_is_code [.tup [.int takes, .tup (ops ++ bad :: rest), x]] S) F E := by
  obtain ⟨m, rfl⟩ : ∃ m, N = m + 1 := ⟨N - 1, by omega⟩
  show wp (runDef false 3 (b_is_code fu (den fu m)) _ _) _ _
  obtain ⟨m', rfl⟩ : ∃ m', m = m' + 1 := ⟨m - 1, by omega⟩
  simp only [b_is_code, isiN_tt, fin_bl hS, wp_ok, wp_ret, wp_stuck, wp_bad, wp_bnd, wp_if, wp_fif, wps_ok_nx, wps_ok_rt, wps_ok_bk, wps_ok_ct, wps_ok_xc, wps_bad, wps_lft, wps_seq, wps_nil, wps_ret, wps_expr, wps_asg, wps_if, wp_run, wps_for, wps_while, wp_comp, wp_var, wp_C, wp_bin, wp_un, wp_T, wp_Tb, wp_asBl, wp_truthBl, wp_bAnd, wp_bOr, wp_bNot, wp_eIf, wp_eAnd, wp_eOr, wp_eNot, blCase_bl, wp_chain, wp_aNil, wp_aCons, wp_tup, wp_lst, wp_lstM, wp_call, wp_cl1, wp_cl2, wp_cl3, wp_cl4, wp_cl5, wp_meth, wp_isi, wp_oNone, wp_oSome, wp_sl, wp_it, wp_range1, wp_range2, wp_bYes, gEq_str, gNe_str, gEq_int, gNe_int, gEq_bl, gNe_bl, gIs_bl, gIsNot_bl, gAdd_int, gSub_int, gC_int, gI_int, gAdd_str, gAdd_tup, gAdd_lst, gNeg_int, gIx_tup, gIx_lst, gLen_tup, gLen_lst, gLen_str, gInt_int, gInt_bl, gTuple_lst, gTuple_tup, gList_lst, gList_tup, gSl_tup, gSl_lst, gSl_fl, gSl_str, srcL_tup, srcL_lst, srcL_fl, srcL_str, srcR1_int, typN, startR, List.map_cons, List.map_nil, List.length_cons, List.length_nil, Nat.reduceAdd, Nat.reduceSub, Nat.zero_add, Nat.sub_self, Nat.sub_zero, List.replicate_zero, List.replicate_succ, List.cons_append, List.nil_append, List.append_nil, List.getElem?_cons_zero, List.getElem?_cons_succ, List.set_cons_zero, List.set_cons_succ, List.set_nil, List.getElem?_nil, Option.some.injEq, exists_eq_left', exists_eq_left, exists_eq_right, reduceCtorEq, false_and, and_false, true_and, and_true, exists_false, exists_const, wipeR, Nat.zero_le, String.reduceEq, D.int.injEq, D.str.injEq, D.bl.injEq, atI_0, atI_1, atI_2, atI_3, atI_4, beq_self_eq_true, not_true_eq_false, not_false_eq_true, Int.cast_ofNat_Int, Int.reduceEq, Int.reduceLE, Int.reduceLT, Int.reduceAdd, Int.reduceSub, Int.reduceMul, Int.reduceNeg, if_true, if_false, ite_true, ite_false, Bool.false_eq_true, if_neg, if_pos, decide_eq_true_eq, Bool.not_eq_true', decide_eq_false_iff_not, eq_self_iff_true, decide_true, decide_false, Bool.not_true, Bool.not_false]
  refine whole_ok rfl hS ?_
  simp only [wholeB, show (0 : Int) ≤ (takes : Int) by omega, wp_ok, wp_ret, wp_stuck, wp_bad, wp_bnd, wp_if, wp_fif, wps_ok_nx, wps_ok_rt, wps_ok_bk, wps_ok_ct, wps_ok_xc, wps_bad, wps_lft, wps_seq, wps_nil, wps_ret, wps_expr, wps_asg, wps_if, wp_run, wps_for, wps_while, wp_comp, wp_var, wp_C, wp_bin, wp_un, wp_T, wp_Tb, wp_asBl, wp_truthBl, wp_bAnd, wp_bOr, wp_bNot, wp_eIf, wp_eAnd, wp_eOr, wp_eNot, blCase_bl, wp_chain, wp_aNil, wp_aCons, wp_tup, wp_lst, wp_lstM, wp_call, wp_cl1, wp_cl2, wp_cl3, wp_cl4, wp_cl5, wp_meth, wp_isi, wp_oNone, wp_oSome, wp_sl, wp_it, wp_range1, wp_range2, wp_bYes, gEq_str, gNe_str, gEq_int, gNe_int, gEq_bl, gNe_bl, gIs_bl, gIsNot_bl, gAdd_int, gSub_int, gC_int, gI_int, gAdd_str, gAdd_tup, gAdd_lst, gNeg_int, gIx_tup, gIx_lst, gLen_tup, gLen_lst, gLen_str, gInt_int, gInt_bl, gTuple_lst, gTuple_tup, gList_lst, gList_tup, gSl_tup, gSl_lst, gSl_fl, gSl_str, srcL_tup, srcL_lst, srcL_fl, srcL_str, srcR1_int, typN, startR, List.map_cons, List.map_nil, List.length_cons, List.length_nil, Nat.reduceAdd, Nat.reduceSub, Nat.zero_add, Nat.sub_self, Nat.sub_zero, List.replicate_zero, List.replicate_succ, List.cons_append, List.nil_append, List.append_nil, List.getElem?_cons_zero, List.getElem?_cons_succ, List.set_cons_zero, List.set_cons_succ, List.set_nil, List.getElem?_nil, Option.some.injEq, exists_eq_left', exists_eq_left, exists_eq_right, reduceCtorEq, false_and, and_false, true_and, and_true, exists_false, exists_const, wipeR, Nat.zero_le, String.reduceEq, D.int.injEq, D.str.injEq, D.bl.injEq, atI_0, atI_1, atI_2, atI_3, atI_4, beq_self_eq_true, not_true_eq_false, not_false_eq_true, Int.cast_ofNat_Int, Int.reduceEq, Int.reduceLE, Int.reduceLT, Int.reduceAdd, Int.reduceSub, Int.reduceMul, Int.reduceNeg, if_true, if_false, ite_true, ite_false, Bool.false_eq_true, if_neg, if_pos, decide_eq_true_eq, Bool.not_eq_true', decide_eq_false_iff_not, eq_self_iff_true, decide_true, decide_false, Bool.not_true, Bool.not_false]
  refine wps_forM (fun i ρ S' => S' = S ∧ i ≤ ops.length ∧ ∃ (m : Nat) (o : Option D), ρ = [some (.tup [.int takes, .tup (ops ++ bad :: rest), x]), some (.int m), o] ∧ OpsG (CodeG k) m (ops.drop i) e) (fun _ _ _ _ => trivial) ?_ ?_ ⟨rfl, Nat.zero_le _, takes, none, rfl, by simpa using h⟩
  · rintro i d ρ S' hd ⟨rfl, hi, mm, o, rfl, ho⟩
    refine ⟨_, rfl, ?_⟩
    by_cases hlt : i < ops.length
    · rw [List.getElem?_append_left hlt] at hd
      rw [List.drop_eq_getElem_cons hlt, (List.getElem?_eq_some_iff.mp hd).2] at ho
      obtain ⟨made, g1, g2⟩ := ho
      simp only [wp_ok, wp_ret, wp_stuck, wp_bad, wp_bnd, wp_if, wp_fif, wps_ok_nx, wps_ok_rt, wps_ok_bk, wps_ok_ct, wps_ok_xc, wps_bad, wps_lft, wps_seq, wps_nil, wps_ret, wps_expr, wps_asg, wps_if, wp_run, wps_for, wps_while, wp_comp, wp_var, wp_C, wp_bin, wp_un, wp_T, wp_Tb, wp_asBl, wp_truthBl, wp_bAnd, wp_bOr, wp_bNot, wp_eIf, wp_eAnd, wp_eOr, wp_eNot, blCase_bl, wp_chain, wp_aNil, wp_aCons, wp_tup, wp_lst, wp_lstM, wp_call, wp_cl1, wp_cl2, wp_cl3, wp_cl4, wp_cl5, wp_meth, wp_isi, wp_oNone, wp_oSome, wp_sl, wp_it, wp_range1, wp_range2, wp_bYes, gEq_str, gNe_str, gEq_int, gNe_int, gEq_bl, gNe_bl, gIs_bl, gIsNot_bl, gAdd_int, gSub_int, gC_int, gI_int, gAdd_str, gAdd_tup, gAdd_lst, gNeg_int, gIx_tup, gIx_lst, gLen_tup, gLen_lst, gLen_str, gInt_int, gInt_bl, gTuple_lst, gTuple_tup, gList_lst, gList_tup, gSl_tup, gSl_lst, gSl_fl, gSl_str, srcL_tup, srcL_lst, srcL_fl, srcL_str, srcR1_int, typN, startR, List.map_cons, List.map_nil, List.length_cons, List.length_nil, Nat.reduceAdd, Nat.reduceSub, Nat.zero_add, Nat.sub_self, Nat.sub_zero, List.replicate_zero, List.replicate_succ, List.cons_append, List.nil_append, List.append_nil, List.getElem?_cons_zero, List.getElem?_cons_succ, List.set_cons_zero, List.set_cons_succ, List.set_nil, List.getElem?_nil, Option.some.injEq, exists_eq_left', exists_eq_left, exists_eq_right, reduceCtorEq, false_and, and_false, true_and, and_true, exists_false, exists_const, wipeR, Nat.zero_le, String.reduceEq, D.int.injEq, D.str.injEq, D.bl.injEq, atI_0, atI_1, atI_2, atI_3, atI_4, beq_self_eq_true, not_true_eq_false, not_false_eq_true, Int.cast_ofNat_Int, Int.reduceEq, Int.reduceLE, Int.reduceLT, Int.reduceAdd, Int.reduceSub, Int.reduceMul, Int.reduceNeg, if_true, if_false, ite_true, ite_false, Bool.false_eq_true, if_neg, if_pos, decide_eq_true_eq, Bool.not_eq_true', decide_eq_false_iff_not, eq_self_iff_true, decide_true, decide_false, Bool.not_true, Bool.not_false]
      refine op_ok hCV g1 _ _ _ _ (by omega) hS ?_
      simp only [wp_ok, wp_ret, wp_stuck, wp_bad, wp_bnd, wp_if, wp_fif, wps_ok_nx, wps_ok_rt, wps_ok_bk, wps_ok_ct, wps_ok_xc, wps_bad, wps_lft, wps_seq, wps_nil, wps_ret, wps_expr, wps_asg, wps_if, wp_run, wps_for, wps_while, wp_comp, wp_var, wp_C, wp_bin, wp_un, wp_T, wp_Tb, wp_asBl, wp_truthBl, wp_bAnd, wp_bOr, wp_bNot, wp_eIf, wp_eAnd, wp_eOr, wp_eNot, blCase_bl, wp_chain, wp_aNil, wp_aCons, wp_tup, wp_lst, wp_lstM, wp_call, wp_cl1, wp_cl2, wp_cl3, wp_cl4, wp_cl5, wp_meth, wp_isi, wp_oNone, wp_oSome, wp_sl, wp_it, wp_range1, wp_range2, wp_bYes, gEq_str, gNe_str, gEq_int, gNe_int, gEq_bl, gNe_bl, gIs_bl, gIsNot_bl, gAdd_int, gSub_int, gC_int, gI_int, gAdd_str, gAdd_tup, gAdd_lst, gNeg_int, gIx_tup, gIx_lst, gLen_tup, gLen_lst, gLen_str, gInt_int, gInt_bl, gTuple_lst, gTuple_tup, gList_lst, gList_tup, gSl_tup, gSl_lst, gSl_fl, gSl_str, srcL_tup, srcL_lst, srcL_fl, srcL_str, srcR1_int, typN, startR, List.map_cons, List.map_nil, List.length_cons, List.length_nil, Nat.reduceAdd, Nat.reduceSub, Nat.zero_add, Nat.sub_self, Nat.sub_zero, List.replicate_zero, List.replicate_succ, List.cons_append, List.nil_append, List.append_nil, List.getElem?_cons_zero, List.getElem?_cons_succ, List.set_cons_zero, List.set_cons_succ, List.set_nil, List.getElem?_nil, Option.some.injEq, exists_eq_left', exists_eq_left, exists_eq_right, reduceCtorEq, false_and, and_false, true_and, and_true, exists_false, exists_const, wipeR, Nat.zero_le, String.reduceEq, D.int.injEq, D.str.injEq, D.bl.injEq, atI_0, atI_1, atI_2, atI_3, atI_4, beq_self_eq_true, not_true_eq_false, not_false_eq_true, Int.cast_ofNat_Int, Int.reduceEq, Int.reduceLE, Int.reduceLT, Int.reduceAdd, Int.reduceSub, Int.reduceMul, Int.reduceNeg, if_true, if_false, ite_true, ite_false, Bool.false_eq_true, if_neg, if_pos, decide_eq_true_eq, Bool.not_eq_true', decide_eq_false_iff_not, eq_self_iff_true, decide_true, decide_false, Bool.not_true, Bool.not_false]
      refine made_ok hS g1 ?_
      simp only [wp_ok, wp_ret, wp_stuck, wp_bad, wp_bnd, wp_if, wp_fif, wps_ok_nx, wps_ok_rt, wps_ok_bk, wps_ok_ct, wps_ok_xc, wps_bad, wps_lft, wps_seq, wps_nil, wps_ret, wps_expr, wps_asg, wps_if, wp_run, wps_for, wps_while, wp_comp, wp_var, wp_C, wp_bin, wp_un, wp_T, wp_Tb, wp_asBl, wp_truthBl, wp_bAnd, wp_bOr, wp_bNot, wp_eIf, wp_eAnd, wp_eOr, wp_eNot, blCase_bl, wp_chain, wp_aNil, wp_aCons, wp_tup, wp_lst, wp_lstM, wp_call, wp_cl1, wp_cl2, wp_cl3, wp_cl4, wp_cl5, wp_meth, wp_isi, wp_oNone, wp_oSome, wp_sl, wp_it, wp_range1, wp_range2, wp_bYes, gEq_str, gNe_str, gEq_int, gNe_int, gEq_bl, gNe_bl, gIs_bl, gIsNot_bl, gAdd_int, gSub_int, gC_int, gI_int, gAdd_str, gAdd_tup, gAdd_lst, gNeg_int, gIx_tup, gIx_lst, gLen_tup, gLen_lst, gLen_str, gInt_int, gInt_bl, gTuple_lst, gTuple_tup, gList_lst, gList_tup, gSl_tup, gSl_lst, gSl_fl, gSl_str, srcL_tup, srcL_lst, srcL_fl, srcL_str, srcR1_int, typN, startR, List.map_cons, List.map_nil, List.length_cons, List.length_nil, Nat.reduceAdd, Nat.reduceSub, Nat.zero_add, Nat.sub_self, Nat.sub_zero, List.replicate_zero, List.replicate_succ, List.cons_append, List.nil_append, List.append_nil, List.getElem?_cons_zero, List.getElem?_cons_succ, List.set_cons_zero, List.set_cons_succ, List.set_nil, List.getElem?_nil, Option.some.injEq, exists_eq_left', exists_eq_left, exists_eq_right, reduceCtorEq, false_and, and_false, true_and, and_true, exists_false, exists_const, wipeR, Nat.zero_le, String.reduceEq, D.int.injEq, D.str.injEq, D.bl.injEq, atI_0, atI_1, atI_2, atI_3, atI_4, beq_self_eq_true, not_true_eq_false, not_false_eq_true, Int.cast_ofNat_Int, Int.reduceEq, Int.reduceLE, Int.reduceLT, Int.reduceAdd, Int.reduceSub, Int.reduceMul, Int.reduceNeg, if_true, if_false, ite_true, ite_false, Bool.false_eq_true, if_neg, if_pos, decide_eq_true_eq, Bool.not_eq_true', decide_eq_false_iff_not, eq_self_iff_true, decide_true, decide_false, Bool.not_true, Bool.not_false]
      exact ⟨by omega, mm + made, some d, by simp, g2⟩
    · have : i = ops.length := by omega
      subst this
      rw [List.getElem?_append_right (Nat.le_refl _)] at hd
      simp at hd
      subst hd
      rw [List.drop_length] at ho
      have : e = mm := ho
      subst this
      simp only [wp_ok, wp_ret, wp_stuck, wp_bad, wp_bnd, wp_if, wp_fif, wps_ok_nx, wps_ok_rt, wps_ok_bk, wps_ok_ct, wps_ok_xc, wps_bad, wps_lft, wps_seq, wps_nil, wps_ret, wps_expr, wps_asg, wps_if, wp_run, wps_for, wps_while, wp_comp, wp_var, wp_C, wp_bin, wp_un, wp_T, wp_Tb, wp_asBl, wp_truthBl, wp_bAnd, wp_bOr, wp_bNot, wp_eIf, wp_eAnd, wp_eOr, wp_eNot, blCase_bl, wp_chain, wp_aNil, wp_aCons, wp_tup, wp_lst, wp_lstM, wp_call, wp_cl1, wp_cl2, wp_cl3, wp_cl4, wp_cl5, wp_meth, wp_isi, wp_oNone, wp_oSome, wp_sl, wp_it, wp_range1, wp_range2, wp_bYes, gEq_str, gNe_str, gEq_int, gNe_int, gEq_bl, gNe_bl, gIs_bl, gIsNot_bl, gAdd_int, gSub_int, gC_int, gI_int, gAdd_str, gAdd_tup, gAdd_lst, gNeg_int, gIx_tup, gIx_lst, gLen_tup, gLen_lst, gLen_str, gInt_int, gInt_bl, gTuple_lst, gTuple_tup, gList_lst, gList_tup, gSl_tup, gSl_lst, gSl_fl, gSl_str, srcL_tup, srcL_lst, srcL_fl, srcL_str, srcR1_int, typN, startR, List.map_cons, List.map_nil, List.length_cons, List.length_nil, Nat.reduceAdd, Nat.reduceSub, Nat.zero_add, Nat.sub_self, Nat.sub_zero, List.replicate_zero, List.replicate_succ, List.cons_append, List.nil_append, List.append_nil, List.getElem?_cons_zero, List.getElem?_cons_succ, List.set_cons_zero, List.set_cons_succ, List.set_nil, List.getElem?_nil, Option.some.injEq, exists_eq_left', exists_eq_left, exists_eq_right, reduceCtorEq, false_and, and_false, true_and, and_true, exists_false, exists_const, wipeR, Nat.zero_le, String.reduceEq, D.int.injEq, D.str.injEq, D.bl.injEq, atI_0, atI_1, atI_2, atI_3, atI_4, beq_self_eq_true, not_true_eq_false, not_false_eq_true, Int.cast_ofNat_Int, Int.reduceEq, Int.reduceLE, Int.reduceLT, Int.reduceAdd, Int.reduceSub, Int.reduceMul, Int.reduceNeg, if_true, if_false, ite_true, ite_false, Bool.false_eq_true, if_neg, if_pos, decide_eq_true_eq, Bool.not_eq_true', decide_eq_false_iff_not, eq_self_iff_true, decide_true, decide_false, Bool.not_true, Bool.not_false]
      refine hb _ _ _ _ (by omega) hS ?_
      simp only [fin_bl hS, wp_ok, wp_ret, wp_stuck, wp_bad, wp_bnd, wp_if, wp_fif, wps_ok_nx, wps_ok_rt, wps_ok_bk, wps_ok_ct, wps_ok_xc, wps_bad, wps_lft, wps_seq, wps_nil, wps_ret, wps_expr, wps_asg, wps_if, wp_run, wps_for, wps_while, wp_comp, wp_var, wp_C, wp_bin, wp_un, wp_T, wp_Tb, wp_asBl, wp_truthBl, wp_bAnd, wp_bOr, wp_bNot, wp_eIf, wp_eAnd, wp_eOr, wp_eNot, blCase_bl, wp_chain, wp_aNil, wp_aCons, wp_tup, wp_lst, wp_lstM, wp_call, wp_cl1, wp_cl2, wp_cl3, wp_cl4, wp_cl5, wp_meth, wp_isi, wp_oNone, wp_oSome, wp_sl, wp_it, wp_range1, wp_range2, wp_bYes, gEq_str, gNe_str, gEq_int, gNe_int, gEq_bl, gNe_bl, gIs_bl, gIsNot_bl, gAdd_int, gSub_int, gC_int, gI_int, gAdd_str, gAdd_tup, gAdd_lst, gNeg_int, gIx_tup, gIx_lst, gLen_tup, gLen_lst, gLen_str, gInt_int, gInt_bl, gTuple_lst, gTuple_tup, gList_lst, gList_tup, gSl_tup, gSl_lst, gSl_fl, gSl_str, srcL_tup, srcL_lst, srcL_fl, srcL_str, srcR1_int, typN, startR, List.map_cons, List.map_nil, List.length_cons, List.length_nil, Nat.reduceAdd, Nat.reduceSub, Nat.zero_add, Nat.sub_self, Nat.sub_zero, List.replicate_zero, List.replicate_succ, List.cons_append, List.nil_append, List.append_nil, List.getElem?_cons_zero, List.getElem?_cons_succ, List.set_cons_zero, List.set_cons_succ, List.set_nil, List.getElem?_nil, Option.some.injEq, exists_eq_left', exists_eq_left, exists_eq_right, reduceCtorEq, false_and, and_false, true_and, and_true, exists_false, exists_const, wipeR, Nat.zero_le, String.reduceEq, D.int.injEq, D.str.injEq, D.bl.injEq, atI_0, atI_1, atI_2, atI_3, atI_4, beq_self_eq_true, not_true_eq_false, not_false_eq_true, Int.cast_ofNat_Int, Int.reduceEq, Int.reduceLE, Int.reduceLT, Int.reduceAdd, Int.reduceSub, Int.reduceMul, Int.reduceNeg, if_true, if_false, ite_true, ite_false, Bool.false_eq_true, if_neg, if_pos, decide_eq_true_eq, Bool.not_eq_true', decide_eq_false_iff_not, eq_self_iff_true, decide_true, decide_false, Bool.not_true, Bool.not_false]
      exact hF
  · rintro ρ S' ⟨rfl, hi, mm, o, rfl, ho⟩
    exfalso; simp at hi; omega
/-- three things, not so -/
theorem code_no3 {a b x : D} {N : Nat} (hN : 2 ≤ N) (hS : WF S) (ha : plain a = true) (hb : plain b = true) (hno : wholeB a = true → ∀ ds, b ≠ .tup ds) (hF : F (.bl false) S) : wp (den fu N i_is_code [.tup [a, b, x]] S) F E := by
  obtain ⟨m, rfl⟩ : ∃ m, N = m + 2 := ⟨N - 2, by omega⟩
  show wp (runDef false 3 (b_is_code fu (den fu (m + 1))) _ _) _ _
  simp only [b_is_code, isiN_tt, fin_bl hS, wp_ok, wp_ret, wp_stuck, wp_bad, wp_bnd, wp_if, wp_fif, wps_ok_nx, wps_ok_rt, wps_ok_bk, wps_ok_ct, wps_ok_xc, wps_bad, wps_lft, wps_seq, wps_nil, wps_ret, wps_expr, wps_asg, wps_if, wp_run, wps_for, wps_while, wp_comp, wp_var, wp_C, wp_bin, wp_un, wp_T, wp_Tb, wp_asBl, wp_truthBl, wp_bAnd, wp_bOr, wp_bNot, wp_eIf, wp_eAnd, wp_eOr, wp_eNot, blCase_bl, wp_chain, wp_aNil, wp_aCons, wp_tup, wp_lst, wp_lstM, wp_call, wp_cl1, wp_cl2, wp_cl3, wp_cl4, wp_cl5, wp_meth, wp_isi, wp_oNone, wp_oSome, wp_sl, wp_it, wp_range1, wp_range2, wp_bYes, gEq_str, gNe_str, gEq_int, gNe_int, gEq_bl, gNe_bl, gIs_bl, gIsNot_bl, gAdd_int, gSub_int, gC_int, gI_int, gAdd_str, gAdd_tup, gAdd_lst, gNeg_int, gIx_tup, gIx_lst, gLen_tup, gLen_lst, gLen_str, gInt_int, gInt_bl, gTuple_lst, gTuple_tup, gList_lst, gList_tup, gSl_tup, gSl_lst, gSl_fl, gSl_str, srcL_tup, srcL_lst, srcL_fl, srcL_str, srcR1_int, typN, startR, List.map_cons, List.map_nil, List.length_cons, List.length_nil, Nat.reduceAdd, Nat.reduceSub, Nat.zero_add, Nat.sub_self, Nat.sub_zero, List.replicate_zero, List.replicate_succ, List.cons_append, List.nil_append, List.append_nil, List.getElem?_cons_zero, List.getElem?_cons_succ, List.set_cons_zero, List.set_cons_succ, List.set_nil, List.getElem?_nil, Option.some.injEq, exists_eq_left', exists_eq_left, exists_eq_right, reduceCtorEq, false_and, and_false, true_and, and_true, exists_false, exists_const, wipeR, Nat.zero_le, String.reduceEq, D.int.injEq, D.str.injEq, D.bl.injEq, atI_0, atI_1, atI_2, atI_3, atI_4, beq_self_eq_true, not_true_eq_false, not_false_eq_true, Int.cast_ofNat_Int, Int.reduceEq, Int.reduceLE, Int.reduceLT, Int.reduceAdd, Int.reduceSub, Int.reduceMul, Int.reduceNeg, if_true, if_false, ite_true, ite_false, Bool.false_eq_true, if_neg, if_pos, decide_eq_true_eq, Bool.not_eq_true', decide_eq_false_iff_not, eq_self_iff_true, decide_true, decide_false, Bool.not_true, Bool.not_false]
  refine whole_ok ha hS ?_
  cases hw : wholeB a with
  | false => simp only [fin_bl hS, wp_ok, wp_ret, wp_stuck, wp_bad, wp_bnd, wp_if, wp_fif, wps_ok_nx, wps_ok_rt, wps_ok_bk, wps_ok_ct, wps_ok_xc, wps_bad, wps_lft, wps_seq, wps_nil, wps_ret, wps_expr, wps_asg, wps_if, wp_run, wps_for, wps_while, wp_comp, wp_var, wp_C, wp_bin, wp_un, wp_T, wp_Tb, wp_asBl, wp_truthBl, wp_bAnd, wp_bOr, wp_bNot, wp_eIf, wp_eAnd, wp_eOr, wp_eNot, blCase_bl, wp_chain, wp_aNil, wp_aCons, wp_tup, wp_lst, wp_lstM, wp_call, wp_cl1, wp_cl2, wp_cl3, wp_cl4, wp_cl5, wp_meth, wp_isi, wp_oNone, wp_oSome, wp_sl, wp_it, wp_range1, wp_range2, wp_bYes, gEq_str, gNe_str, gEq_int, gNe_int, gEq_bl, gNe_bl, gIs_bl, gIsNot_bl, gAdd_int, gSub_int, gC_int, gI_int, gAdd_str, gAdd_tup, gAdd_lst, gNeg_int, gIx_tup, gIx_lst, gLen_tup, gLen_lst, gLen_str, gInt_int, gInt_bl, gTuple_lst, gTuple_tup, gList_lst, gList_tup, gSl_tup, gSl_lst, gSl_fl, gSl_str, srcL_tup, srcL_lst, srcL_fl, srcL_str, srcR1_int, typN, startR, List.map_cons, List.map_nil, List.length_cons, List.length_nil, Nat.reduceAdd, Nat.reduceSub, Nat.zero_add, Nat.sub_self, Nat.sub_zero, List.replicate_zero, List.replicate_succ, List.cons_append, List.nil_append, List.append_nil, List.getElem?_cons_zero, List.getElem?_cons_succ, List.set_cons_zero, List.set_cons_succ, List.set_nil, List.getElem?_nil, Option.some.injEq, exists_eq_left', exists_eq_left, exists_eq_right, reduceCtorEq, false_and, and_false, true_and, and_true, exists_false, exists_const, wipeR, Nat.zero_le, String.reduceEq, D.int.injEq, D.str.injEq, D.bl.injEq, atI_0, atI_1, atI_2, atI_3, atI_4, beq_self_eq_true, not_true_eq_false, not_false_eq_true, Int.cast_ofNat_Int, Int.reduceEq, Int.reduceLE, Int.reduceLT, Int.reduceAdd, Int.reduceSub, Int.reduceMul, Int.reduceNeg, if_true, if_false, ite_true, ite_false, Bool.false_eq_true, if_neg, if_pos, decide_eq_true_eq, Bool.not_eq_true', decide_eq_false_iff_not, eq_self_iff_true, decide_true, decide_false, Bool.not_true, Bool.not_false]; exact hF
  | true =>
    cases b with
    | tup ds => exact absurd rfl (hno hw ds)
    | ref j => cases hb
    | int i => simp only [isiN_it, fin_bl hS, wp_ok, wp_ret, wp_stuck, wp_bad, wp_bnd, wp_if, wp_fif, wps_ok_nx, wps_ok_rt, wps_ok_bk, wps_ok_ct, wps_ok_xc, wps_bad, wps_lft, wps_seq, wps_nil, wps_ret, wps_expr, wps_asg, wps_if, wp_run, wps_for, wps_while, wp_comp, wp_var, wp_C, wp_bin, wp_un, wp_T, wp_Tb, wp_asBl, wp_truthBl, wp_bAnd, wp_bOr, wp_bNot, wp_eIf, wp_eAnd, wp_eOr, wp_eNot, blCase_bl, wp_chain, wp_aNil, wp_aCons, wp_tup, wp_lst, wp_lstM, wp_call, wp_cl1, wp_cl2, wp_cl3, wp_cl4, wp_cl5, wp_meth, wp_isi, wp_oNone, wp_oSome, wp_sl, wp_it, wp_range1, wp_range2, wp_bYes, gEq_str, gNe_str, gEq_int, gNe_int, gEq_bl, gNe_bl, gIs_bl, gIsNot_bl, gAdd_int, gSub_int, gC_int, gI_int, gAdd_str, gAdd_tup, gAdd_lst, gNeg_int, gIx_tup, gIx_lst, gLen_tup, gLen_lst, gLen_str, gInt_int, gInt_bl, gTuple_lst, gTuple_tup, gList_lst, gList_tup, gSl_tup, gSl_lst, gSl_fl, gSl_str, srcL_tup, srcL_lst, srcL_fl, srcL_str, srcR1_int, typN, startR, List.map_cons, List.map_nil, List.length_cons, List.length_nil, Nat.reduceAdd, Nat.reduceSub, Nat.zero_add, Nat.sub_self, Nat.sub_zero, List.replicate_zero, List.replicate_succ, List.cons_append, List.nil_append, List.append_nil, List.getElem?_cons_zero, List.getElem?_cons_succ, List.set_cons_zero, List.set_cons_succ, List.set_nil, List.getElem?_nil, Option.some.injEq, exists_eq_left', exists_eq_left, exists_eq_right, reduceCtorEq, false_and, and_false, true_and, and_true, exists_false, exists_const, wipeR, Nat.zero_le, String.reduceEq, D.int.injEq, D.str.injEq, D.bl.injEq, atI_0, atI_1, atI_2, atI_3, atI_4, beq_self_eq_true, not_true_eq_false, not_false_eq_true, Int.cast_ofNat_Int, Int.reduceEq, Int.reduceLE, Int.reduceLT, Int.reduceAdd, Int.reduceSub, Int.reduceMul, Int.reduceNeg, if_true, if_false, ite_true, ite_false, Bool.false_eq_true, if_neg, if_pos, decide_eq_true_eq, Bool.not_eq_true', decide_eq_false_iff_not, eq_self_iff_true, decide_true, decide_false, Bool.not_true, Bool.not_false]; exact hF
    | bl i => simp only [isiN_bt, fin_bl hS, wp_ok, wp_ret, wp_stuck, wp_bad, wp_bnd, wp_if, wp_fif, wps_ok_nx, wps_ok_rt, wps_ok_bk, wps_ok_ct, wps_ok_xc, wps_bad, wps_lft, wps_seq, wps_nil, wps_ret, wps_expr, wps_asg, wps_if, wp_run, wps_for, wps_while, wp_comp, wp_var, wp_C, wp_bin, wp_un, wp_T, wp_Tb, wp_asBl, wp_truthBl, wp_bAnd, wp_bOr, wp_bNot, wp_eIf, wp_eAnd, wp_eOr, wp_eNot, blCase_bl, wp_chain, wp_aNil, wp_aCons, wp_tup, wp_lst, wp_lstM, wp_call, wp_cl1, wp_cl2, wp_cl3, wp_cl4, wp_cl5, wp_meth, wp_isi, wp_oNone, wp_oSome, wp_sl, wp_it, wp_range1, wp_range2, wp_bYes, gEq_str, gNe_str, gEq_int, gNe_int, gEq_bl, gNe_bl, gIs_bl, gIsNot_bl, gAdd_int, gSub_int, gC_int, gI_int, gAdd_str, gAdd_tup, gAdd_lst, gNeg_int, gIx_tup, gIx_lst, gLen_tup, gLen_lst, gLen_str, gInt_int, gInt_bl, gTuple_lst, gTuple_tup, gList_lst, gList_tup, gSl_tup, gSl_lst, gSl_fl, gSl_str, srcL_tup, srcL_lst, srcL_fl, srcL_str, srcR1_int, typN, startR, List.map_cons, List.map_nil, List.length_cons, List.length_nil, Nat.reduceAdd, Nat.reduceSub, Nat.zero_add, Nat.sub_self, Nat.sub_zero, List.replicate_zero, List.replicate_succ, List.cons_append, List.nil_append, List.append_nil, List.getElem?_cons_zero, List.getElem?_cons_succ, List.set_cons_zero, List.set_cons_succ, List.set_nil, List.getElem?_nil, Option.some.injEq, exists_eq_left', exists_eq_left, exists_eq_right, reduceCtorEq, false_and, and_false, true_and, and_true, exists_false, exists_const, wipeR, Nat.zero_le, String.reduceEq, D.int.injEq, D.str.injEq, D.bl.injEq, atI_0, atI_1, atI_2, atI_3, atI_4, beq_self_eq_true, not_true_eq_false, not_false_eq_true, Int.cast_ofNat_Int, Int.reduceEq, Int.reduceLE, Int.reduceLT, Int.reduceAdd, Int.reduceSub, Int.reduceMul, Int.reduceNeg, if_true, if_false, ite_true, ite_false, Bool.false_eq_true, if_neg, if_pos, decide_eq_true_eq, Bool.not_eq_true', decide_eq_false_iff_not, eq_self_iff_true, decide_true, decide_false, Bool.not_true, Bool.not_false]; exact hF
    | str i => simp only [isiN_st, fin_bl hS, wp_ok, wp_ret, wp_stuck, wp_bad, wp_bnd, wp_if, wp_fif, wps_ok_nx, wps_ok_rt, wps_ok_bk, wps_ok_ct, wps_ok_xc, wps_bad, wps_lft, wps_seq, wps_nil, wps_ret, wps_expr, wps_asg, wps_if, wp_run, wps_for, wps_while, wp_comp, wp_var, wp_C, wp_bin, wp_un, wp_T, wp_Tb, wp_asBl, wp_truthBl, wp_bAnd, wp_bOr, wp_bNot, wp_eIf, wp_eAnd, wp_eOr, wp_eNot, blCase_bl, wp_chain, wp_aNil, wp_aCons, wp_tup, wp_lst, wp_lstM, wp_call, wp_cl1, wp_cl2, wp_cl3, wp_cl4, wp_cl5, wp_meth, wp_isi, wp_oNone, wp_oSome, wp_sl, wp_it, wp_range1, wp_range2, wp_bYes, gEq_str, gNe_str, gEq_int, gNe_int, gEq_bl, gNe_bl, gIs_bl, gIsNot_bl, gAdd_int, gSub_int, gC_int, gI_int, gAdd_str, gAdd_tup, gAdd_lst, gNeg_int, gIx_tup, gIx_lst, gLen_tup, gLen_lst, gLen_str, gInt_int, gInt_bl, gTuple_lst, gTuple_tup, gList_lst, gList_tup, gSl_tup, gSl_lst, gSl_fl, gSl_str, srcL_tup, srcL_lst, srcL_fl, srcL_str, srcR1_int, typN, startR, List.map_cons, List.map_nil, List.length_cons, List.length_nil, Nat.reduceAdd, Nat.reduceSub, Nat.zero_add, Nat.sub_self, Nat.sub_zero, List.replicate_zero, List.replicate_succ, List.cons_append, List.nil_append, List.append_nil, List.getElem?_cons_zero, List.getElem?_cons_succ, List.set_cons_zero, List.set_cons_succ, List.set_nil, List.getElem?_nil, Option.some.injEq, exists_eq_left', exists_eq_left, exists_eq_right, reduceCtorEq, false_and, and_false, true_and, and_true, exists_false, exists_const, wipeR, Nat.zero_le, String.reduceEq, D.int.injEq, D.str.injEq, D.bl.injEq, atI_0, atI_1, atI_2, atI_3, atI_4, beq_self_eq_true, not_true_eq_false, not_false_eq_true, Int.cast_ofNat_Int, Int.reduceEq, Int.reduceLE, Int.reduceLT, Int.reduceAdd, Int.reduceSub, Int.reduceMul, Int.reduceNeg, if_true, if_false, ite_true, ite_false, Bool.false_eq_true, if_neg, if_pos, decide_eq_true_eq, Bool.not_eq_true', decide_eq_false_iff_not, eq_self_iff_true, decide_true, decide_false, Bool.not_true, Bool.not_false]; exact hF
    | non => simp only [isiN_nt, fin_bl hS, wp_ok, wp_ret, wp_stuck, wp_bad, wp_bnd, wp_if, wp_fif, wps_ok_nx, wps_ok_rt, wps_ok_bk, wps_ok_ct, wps_ok_xc, wps_bad, wps_lft, wps_seq, wps_nil, wps_ret, wps_expr, wps_asg, wps_if, wp_run, wps_for, wps_while, wp_comp, wp_var, wp_C, wp_bin, wp_un, wp_T, wp_Tb, wp_asBl, wp_truthBl, wp_bAnd, wp_bOr, wp_bNot, wp_eIf, wp_eAnd, wp_eOr, wp_eNot, blCase_bl, wp_chain, wp_aNil, wp_aCons, wp_tup, wp_lst, wp_lstM, wp_call, wp_cl1, wp_cl2, wp_cl3, wp_cl4, wp_cl5, wp_meth, wp_isi, wp_oNone, wp_oSome, wp_sl, wp_it, wp_range1, wp_range2, wp_bYes, gEq_str, gNe_str, gEq_int, gNe_int, gEq_bl, gNe_bl, gIs_bl, gIsNot_bl, gAdd_int, gSub_int, gC_int, gI_int, gAdd_str, gAdd_tup, gAdd_lst, gNeg_int, gIx_tup, gIx_lst, gLen_tup, gLen_lst, gLen_str, gInt_int, gInt_bl, gTuple_lst, gTuple_tup, gList_lst, gList_tup, gSl_tup, gSl_lst, gSl_fl, gSl_str, srcL_tup, srcL_lst, srcL_fl, srcL_str, srcR1_int, typN, startR, List.map_cons, List.map_nil, List.length_cons, List.length_nil, Nat.reduceAdd, Nat.reduceSub, Nat.zero_add, Nat.sub_self, Nat.sub_zero, List.replicate_zero, List.replicate_succ, List.cons_append, List.nil_append, List.append_nil, List.getElem?_cons_zero, List.getElem?_cons_succ, List.set_cons_zero, List.set_cons_succ, List.set_nil, List.getElem?_nil, Option.some.injEq, exists_eq_left', exists_eq_left, exists_eq_right, reduceCtorEq, false_and, and_false, true_and, and_true, exists_false, exists_const, wipeR, Nat.zero_le, String.reduceEq, D.int.injEq, D.str.injEq, D.bl.injEq, atI_0, atI_1, atI_2, atI_3, atI_4, beq_self_eq_true, not_true_eq_false, not_false_eq_true, Int.cast_ofNat_Int, Int.reduceEq, Int.reduceLE, Int.reduceLT, Int.reduceAdd, Int.reduceSub, Int.reduceMul, Int.reduceNeg, if_true, if_false, ite_true, ite_false, Bool.false_eq_true, if_neg, if_pos, decide_eq_true_eq, Bool.not_eq_true', decide_eq_false_iff_not, eq_self_iff_true, decide_true, decide_false, Bool.not_true, Bool.not_false]; exact hF
    | lst i => simp only [isiN_lt, fin_bl hS, wp_ok, wp_ret, wp_stuck, wp_bad, wp_bnd, wp_if, wp_fif, wps_ok_nx, wps_ok_rt, wps_ok_bk, wps_ok_ct, wps_ok_xc, wps_bad, wps_lft, wps_seq, wps_nil, wps_ret, wps_expr, wps_asg, wps_if, wp_run, wps_for, wps_while, wp_comp, wp_var, wp_C, wp_bin, wp_un, wp_T, wp_Tb, wp_asBl, wp_truthBl, wp_bAnd, wp_bOr, wp_bNot, wp_eIf, wp_eAnd, wp_eOr, wp_eNot, blCase_bl, wp_chain, wp_aNil, wp_aCons, wp_tup, wp_lst, wp_lstM, wp_call, wp_cl1, wp_cl2, wp_cl3, wp_cl4, wp_cl5, wp_meth, wp_isi, wp_oNone, wp_oSome, wp_sl, wp_it, wp_range1, wp_range2, wp_bYes, gEq_str, gNe_str, gEq_int, gNe_int, gEq_bl, gNe_bl, gIs_bl, gIsNot_bl, gAdd_int, gSub_int, gC_int, gI_int, gAdd_str, gAdd_tup, gAdd_lst, gNeg_int, gIx_tup, gIx_lst, gLen_tup, gLen_lst, gLen_str, gInt_int, gInt_bl, gTuple_lst, gTuple_tup, gList_lst, gList_tup, gSl_tup, gSl_lst, gSl_fl, gSl_str, srcL_tup, srcL_lst, srcL_fl, srcL_str, srcR1_int, typN, startR, List.map_cons, List.map_nil, List.length_cons, List.length_nil, Nat.reduceAdd, Nat.reduceSub, Nat.zero_add, Nat.sub_self, Nat.sub_zero, List.replicate_zero, List.replicate_succ, List.cons_append, List.nil_append, List.append_nil, List.getElem?_cons_zero, List.getElem?_cons_succ, List.set_cons_zero, List.set_cons_succ, List.set_nil, List.getElem?_nil, Option.some.injEq, exists_eq_left', exists_eq_left, exists_eq_right, reduceCtorEq, false_and, and_false, true_and, and_true, exists_false, exists_const, wipeR, Nat.zero_le, String.reduceEq, D.int.injEq, D.str.injEq, D.bl.injEq, atI_0, atI_1, atI_2, atI_3, atI_4, beq_self_eq_true, not_true_eq_false, not_false_eq_true, Int.cast_ofNat_Int, Int.reduceEq, Int.reduceLE, Int.reduceLT, Int.reduceAdd, Int.reduceSub, Int.reduceMul, Int.reduceNeg, if_true, if_false, ite_true, ite_false, Bool.false_eq_true, if_neg, if_pos, decide_eq_true_eq, Bool.not_eq_true', decide_eq_false_iff_not, eq_self_iff_true, decide_true, decide_false, Bool.not_true, Bool.not_false]; exact hF
    | fl i => simp only [isiN_lt, fin_bl hS, wp_ok, wp_ret, wp_stuck, wp_bad, wp_bnd, wp_if, wp_fif, wps_ok_nx, wps_ok_rt, wps_ok_bk, wps_ok_ct, wps_ok_xc, wps_bad, wps_lft, wps_seq, wps_nil, wps_ret, wps_expr, wps_asg, wps_if, wp_run, wps_for, wps_while, wp_comp, wp_var, wp_C, wp_bin, wp_un, wp_T, wp_Tb, wp_asBl, wp_truthBl, wp_bAnd, wp_bOr, wp_bNot, wp_eIf, wp_eAnd, wp_eOr, wp_eNot, blCase_bl, wp_chain, wp_aNil, wp_aCons, wp_tup, wp_lst, wp_lstM, wp_call, wp_cl1, wp_cl2, wp_cl3, wp_cl4, wp_cl5, wp_meth, wp_isi, wp_oNone, wp_oSome, wp_sl, wp_it, wp_range1, wp_range2, wp_bYes, gEq_str, gNe_str, gEq_int, gNe_int, gEq_bl, gNe_bl, gIs_bl, gIsNot_bl, gAdd_int, gSub_int, gC_int, gI_int, gAdd_str, gAdd_tup, gAdd_lst, gNeg_int, gIx_tup, gIx_lst, gLen_tup, gLen_lst, gLen_str, gInt_int, gInt_bl, gTuple_lst, gTuple_tup, gList_lst, gList_tup, gSl_tup, gSl_lst, gSl_fl, gSl_str, srcL_tup, srcL_lst, srcL_fl, srcL_str, srcR1_int, typN, startR, List.map_cons, List.map_nil, List.length_cons, List.length_nil, Nat.reduceAdd, Nat.reduceSub, Nat.zero_add, Nat.sub_self, Nat.sub_zero, List.replicate_zero, List.replicate_succ, List.cons_append, List.nil_append, List.append_nil, List.getElem?_cons_zero, List.getElem?_cons_succ, List.set_cons_zero, List.set_cons_succ, List.set_nil, List.getElem?_nil, Option.some.injEq, exists_eq_left', exists_eq_left, exists_eq_right, reduceCtorEq, false_and, and_false, true_and, and_true, exists_false, exists_const, wipeR, Nat.zero_le, String.reduceEq, D.int.injEq, D.str.injEq, D.bl.injEq, atI_0, atI_1, atI_2, atI_3, atI_4, beq_self_eq_true, not_true_eq_false, not_false_eq_true, Int.cast_ofNat_Int, Int.reduceEq, Int.reduceLE, Int.reduceLT, Int.reduceAdd, Int.reduceSub, Int.reduceMul, Int.reduceNeg, if_true, if_false, ite_true, ite_false, Bool.false_eq_true, if_neg, if_pos, decide_eq_true_eq, Bool.not_eq_true', decide_eq_false_iff_not, eq_self_iff_true, decide_true, decide_false, Bool.not_true, Bool.not_false]; exact hF
theorem code_notup {c : D} {N : Nat} (hN : 1 ≤ N) (hS : WF S) (hp : plain c = true) (hc : ∀ ds, c = .tup ds → ds.length ≠ 3) (hF : F (.bl false) S) : wp (den fu N i_is_code [c] S) F E := by
  obtain ⟨m, rfl⟩ : ∃ m, N = m + 1 := ⟨N - 1, by omega⟩
  show wp (runDef false 3 (b_is_code fu (den fu m)) _ _) _ _
  cases c with
  | tup ds =>
    have h3 := hc ds rfl
    have h3' : ¬ (ds.length : Int) = 3 := by omega
    simp only [b_is_code, isiN_tt, h3', fin_bl hS, wp_ok, wp_ret, wp_stuck, wp_bad, wp_bnd, wp_if, wp_fif, wps_ok_nx, wps_ok_rt, wps_ok_bk, wps_ok_ct, wps_ok_xc, wps_bad, wps_lft, wps_seq, wps_nil, wps_ret, wps_expr, wps_asg, wps_if, wp_run, wps_for, wps_while, wp_comp, wp_var, wp_C, wp_bin, wp_un, wp_T, wp_Tb, wp_asBl, wp_truthBl, wp_bAnd, wp_bOr, wp_bNot, wp_eIf, wp_eAnd, wp_eOr, wp_eNot, blCase_bl, wp_chain, wp_aNil, wp_aCons, wp_tup, wp_lst, wp_lstM, wp_call, wp_cl1, wp_cl2, wp_cl3, wp_cl4, wp_cl5, wp_meth, wp_isi, wp_oNone, wp_oSome, wp_sl, wp_it, wp_range1, wp_range2, wp_bYes, gEq_str, gNe_str, gEq_int, gNe_int, gEq_bl, gNe_bl, gIs_bl, gIsNot_bl, gAdd_int, gSub_int, gC_int, gI_int, gAdd_str, gAdd_tup, gAdd_lst, gNeg_int, gIx_tup, gIx_lst, gLen_tup, gLen_lst, gLen_str, gInt_int, gInt_bl, gTuple_lst, gTuple_tup, gList_lst, gList_tup, gSl_tup, gSl_lst, gSl_fl, gSl_str, srcL_tup, srcL_lst, srcL_fl, srcL_str, srcR1_int, typN, startR, List.map_cons, List.map_nil, List.length_cons, List.length_nil, Nat.reduceAdd, Nat.reduceSub, Nat.zero_add, Nat.sub_self, Nat.sub_zero, List.replicate_zero, List.replicate_succ, List.cons_append, List.nil_append, List.append_nil, List.getElem?_cons_zero, List.getElem?_cons_succ, List.set_cons_zero, List.set_cons_succ, List.set_nil, List.getElem?_nil, Option.some.injEq, exists_eq_left', exists_eq_left, exists_eq_right, reduceCtorEq, false_and, and_false, true_and, and_true, exists_false, exists_const, wipeR, Nat.zero_le, String.reduceEq, D.int.injEq, D.str.injEq, D.bl.injEq, atI_0, atI_1, atI_2, atI_3, atI_4, beq_self_eq_true, not_true_eq_false, not_false_eq_true, Int.cast_ofNat_Int, Int.reduceEq, Int.reduceLE, Int.reduceLT, Int.reduceAdd, Int.reduceSub, Int.reduceMul, Int.reduceNeg, if_true, if_false, ite_true, ite_false, Bool.false_eq_true, if_neg, if_pos, decide_eq_true_eq, Bool.not_eq_true', decide_eq_false_iff_not, eq_self_iff_true, decide_true, decide_false, Bool.not_true, Bool.not_false]; exact hF
  | ref j => cases hp
  | int i => simp only [b_is_code, isiN_it, fin_bl hS, wp_ok, wp_ret, wp_stuck, wp_bad, wp_bnd, wp_if, wp_fif, wps_ok_nx, wps_ok_rt, wps_ok_bk, wps_ok_ct, wps_ok_xc, wps_bad, wps_lft, wps_seq, wps_nil, wps_ret, wps_expr, wps_asg, wps_if, wp_run, wps_for, wps_while, wp_comp, wp_var, wp_C, wp_bin, wp_un, wp_T, wp_Tb, wp_asBl, wp_truthBl, wp_bAnd, wp_bOr, wp_bNot, wp_eIf, wp_eAnd, wp_eOr, wp_eNot, blCase_bl, wp_chain, wp_aNil, wp_aCons, wp_tup, wp_lst, wp_lstM, wp_call, wp_cl1, wp_cl2, wp_cl3, wp_cl4, wp_cl5, wp_meth, wp_isi, wp_oNone, wp_oSome, wp_sl, wp_it, wp_range1, wp_range2, wp_bYes, gEq_str, gNe_str, gEq_int, gNe_int, gEq_bl, gNe_bl, gIs_bl, gIsNot_bl, gAdd_int, gSub_int, gC_int, gI_int, gAdd_str, gAdd_tup, gAdd_lst, gNeg_int, gIx_tup, gIx_lst, gLen_tup, gLen_lst, gLen_str, gInt_int, gInt_bl, gTuple_lst, gTuple_tup, gList_lst, gList_tup, gSl_tup, gSl_lst, gSl_fl, gSl_str, srcL_tup, srcL_lst, srcL_fl, srcL_str, srcR1_int, typN, startR, List.map_cons, List.map_nil, List.length_cons, List.length_nil, Nat.reduceAdd, Nat.reduceSub, Nat.zero_add, Nat.sub_self, Nat.sub_zero, List.replicate_zero, List.replicate_succ, List.cons_append, List.nil_append, List.append_nil, List.getElem?_cons_zero, List.getElem?_cons_succ, List.set_cons_zero, List.set_cons_succ, List.set_nil, List.getElem?_nil, Option.some.injEq, exists_eq_left', exists_eq_left, exists_eq_right, reduceCtorEq, false_and, and_false, true_and, and_true, exists_false, exists_const, wipeR, Nat.zero_le, String.reduceEq, D.int.injEq, D.str.injEq, D.bl.injEq, atI_0, atI_1, atI_2, atI_3, atI_4, beq_self_eq_true, not_true_eq_false, not_false_eq_true, Int.cast_ofNat_Int, Int.reduceEq, Int.reduceLE, Int.reduceLT, Int.reduceAdd, Int.reduceSub, Int.reduceMul, Int.reduceNeg, if_true, if_false, ite_true, ite_false, Bool.false_eq_true, if_neg, if_pos, decide_eq_true_eq, Bool.not_eq_true', decide_eq_false_iff_not, eq_self_iff_true, decide_true, decide_false, Bool.not_true, Bool.not_false]; exact hF
  | bl i => simp only [b_is_code, isiN_bt, fin_bl hS, wp_ok, wp_ret, wp_stuck, wp_bad, wp_bnd, wp_if, wp_fif, wps_ok_nx, wps_ok_rt, wps_ok_bk, wps_ok_ct, wps_ok_xc, wps_bad, wps_lft, wps_seq, wps_nil, wps_ret, wps_expr, wps_asg, wps_if, wp_run, wps_for, wps_while, wp_comp, wp_var, wp_C, wp_bin, wp_un, wp_T, wp_Tb, wp_asBl, wp_truthBl, wp_bAnd, wp_bOr, wp_bNot, wp_eIf, wp_eAnd, wp_eOr, wp_eNot, blCase_bl, wp_chain, wp_aNil, wp_aCons, wp_tup, wp_lst, wp_lstM, wp_call, wp_cl1, wp_cl2, wp_cl3, wp_cl4, wp_cl5, wp_meth, wp_isi, wp_oNone, wp_oSome, wp_sl, wp_it, wp_range1, wp_range2, wp_bYes, gEq_str, gNe_str, gEq_int, gNe_int, gEq_bl, gNe_bl, gIs_bl, gIsNot_bl, gAdd_int, gSub_int, gC_int, gI_int, gAdd_str, gAdd_tup, gAdd_lst, gNeg_int, gIx_tup, gIx_lst, gLen_tup, gLen_lst, gLen_str, gInt_int, gInt_bl, gTuple_lst, gTuple_tup, gList_lst, gList_tup, gSl_tup, gSl_lst, gSl_fl, gSl_str, srcL_tup, srcL_lst, srcL_fl, srcL_str, srcR1_int, typN, startR, List.map_cons, List.map_nil, List.length_cons, List.length_nil, Nat.reduceAdd, Nat.reduceSub, Nat.zero_add, Nat.sub_self, Nat.sub_zero, List.replicate_zero, List.replicate_succ, List.cons_append, List.nil_append, List.append_nil, List.getElem?_cons_zero, List.getElem?_cons_succ, List.set_cons_zero, List.set_cons_succ, List.set_nil, List.getElem?_nil, Option.some.injEq, exists_eq_left', exists_eq_left, exists_eq_right, reduceCtorEq, false_and, and_false, true_and, and_true, exists_false, exists_const, wipeR, Nat.zero_le, String.reduceEq, D.int.injEq, D.str.injEq, D.bl.injEq, atI_0, atI_1, atI_2, atI_3, atI_4, beq_self_eq_true, not_true_eq_false, not_false_eq_true, Int.cast_ofNat_Int, Int.reduceEq, Int.reduceLE, Int.reduceLT, Int.reduceAdd, Int.reduceSub, Int.reduceMul, Int.reduceNeg, if_true, if_false, ite_true, ite_false, Bool.false_eq_true, if_neg, if_pos, decide_eq_true_eq, Bool.not_eq_true', decide_eq_false_iff_not, eq_self_iff_true, decide_true, decide_false, Bool.not_true, Bool.not_false]; exact hF
  | str i => simp only [b_is_code, isiN_st, fin_bl hS, wp_ok, wp_ret, wp_stuck, wp_bad, wp_bnd, wp_if, wp_fif, wps_ok_nx, wps_ok_rt, wps_ok_bk, wps_ok_ct, wps_ok_xc, wps_bad, wps_lft, wps_seq, wps_nil, wps_ret, wps_expr, wps_asg, wps_if, wp_run, wps_for, wps_while, wp_comp, wp_var, wp_C, wp_bin, wp_un, wp_T, wp_Tb, wp_asBl, wp_truthBl, wp_bAnd, wp_bOr, wp_bNot, wp_eIf, wp_eAnd, wp_eOr, wp_eNot, blCase_bl, wp_chain, wp_aNil, wp_aCons, wp_tup, wp_lst, wp_lstM, wp_call, wp_cl1, wp_cl2, wp_cl3, wp_cl4, wp_cl5, wp_meth, wp_isi, wp_oNone, wp_oSome, wp_sl, wp_it, wp_range1, wp_range2, wp_bYes, gEq_str, gNe_str, gEq_int, gNe_int, gEq_bl, gNe_bl, gIs_bl, gIsNot_bl, gAdd_int, gSub_int, gC_int, gI_int, gAdd_str, gAdd_tup, gAdd_lst, gNeg_int, gIx_tup, gIx_lst, gLen_tup, gLen_lst, gLen_str, gInt_int, gInt_bl, gTuple_lst, gTuple_tup, gList_lst, gList_tup, gSl_tup, gSl_lst, gSl_fl, gSl_str, srcL_tup, srcL_lst, srcL_fl, srcL_str, srcR1_int, typN, startR, List.map_cons, List.map_nil, List.length_cons, List.length_nil, Nat.reduceAdd, Nat.reduceSub, Nat.zero_add, Nat.sub_self, Nat.sub_zero, List.replicate_zero, List.replicate_succ, List.cons_append, List.nil_append, List.append_nil, List.getElem?_cons_zero, List.getElem?_cons_succ, List.set_cons_zero, List.set_cons_succ, List.set_nil, List.getElem?_nil, Option.some.injEq, exists_eq_left', exists_eq_left, exists_eq_right, reduceCtorEq, false_and, and_false, true_and, and_true, exists_false, exists_const, wipeR, Nat.zero_le, String.reduceEq, D.int.injEq, D.str.injEq, D.bl.injEq, atI_0, atI_1, atI_2, atI_3, atI_4, beq_self_eq_true, not_true_eq_false, not_false_eq_true, Int.cast_ofNat_Int, Int.reduceEq, Int.reduceLE, Int.reduceLT, Int.reduceAdd, Int.reduceSub, Int.reduceMul, Int.reduceNeg, if_true, if_false, ite_true, ite_false, Bool.false_eq_true, if_neg, if_pos, decide_eq_true_eq, Bool.not_eq_true', decide_eq_false_iff_not, eq_self_iff_true, decide_true, decide_false, Bool.not_true, Bool.not_false]; exact hF
  | non => simp only [b_is_code, isiN_nt, fin_bl hS, wp_ok, wp_ret, wp_stuck, wp_bad, wp_bnd, wp_if, wp_fif, wps_ok_nx, wps_ok_rt, wps_ok_bk, wps_ok_ct, wps_ok_xc, wps_bad, wps_lft, wps_seq, wps_nil, wps_ret, wps_expr, wps_asg, wps_if, wp_run, wps_for, wps_while, wp_comp, wp_var, wp_C, wp_bin, wp_un, wp_T, wp_Tb, wp_asBl, wp_truthBl, wp_bAnd, wp_bOr, wp_bNot, wp_eIf, wp_eAnd, wp_eOr, wp_eNot, blCase_bl, wp_chain, wp_aNil, wp_aCons, wp_tup, wp_lst, wp_lstM, wp_call, wp_cl1, wp_cl2, wp_cl3, wp_cl4, wp_cl5, wp_meth, wp_isi, wp_oNone, wp_oSome, wp_sl, wp_it, wp_range1, wp_range2, wp_bYes, gEq_str, gNe_str, gEq_int, gNe_int, gEq_bl, gNe_bl, gIs_bl, gIsNot_bl, gAdd_int, gSub_int, gC_int, gI_int, gAdd_str, gAdd_tup, gAdd_lst, gNeg_int, gIx_tup, gIx_lst, gLen_tup, gLen_lst, gLen_str, gInt_int, gInt_bl, gTuple_lst, gTuple_tup, gList_lst, gList_tup, gSl_tup, gSl_lst, gSl_fl, gSl_str, srcL_tup, srcL_lst, srcL_fl, srcL_str, srcR1_int, typN, startR, List.map_cons, List.map_nil, List.length_cons, List.length_nil, Nat.reduceAdd, Nat.reduceSub, Nat.zero_add, Nat.sub_self, Nat.sub_zero, List.replicate_zero, List.replicate_succ, List.cons_append, List.nil_append, List.append_nil, List.getElem?_cons_zero, List.getElem?_cons_succ, List.set_cons_zero, List.set_cons_succ, List.set_nil, List.getElem?_nil, Option.some.injEq, exists_eq_left', exists_eq_left, exists_eq_right, reduceCtorEq, false_and, and_false, true_and, and_true, exists_false, exists_const, wipeR, Nat.zero_le, String.reduceEq, D.int.injEq, D.str.injEq, D.bl.injEq, atI_0, atI_1, atI_2, atI_3, atI_4, beq_self_eq_true, not_true_eq_false, not_false_eq_true, Int.cast_ofNat_Int, Int.reduceEq, Int.reduceLE, Int.reduceLT, Int.reduceAdd, Int.reduceSub, Int.reduceMul, Int.reduceNeg, if_true, if_false, ite_true, ite_false, Bool.false_eq_true, if_neg, if_pos, decide_eq_true_eq, Bool.not_eq_true', decide_eq_false_iff_not, eq_self_iff_true, decide_true, decide_false, Bool.not_true, Bool.not_false]; exact hF
  | lst i => simp only [b_is_code, isiN_lt, fin_bl hS, wp_ok, wp_ret, wp_stuck, wp_bad, wp_bnd, wp_if, wp_fif, wps_ok_nx, wps_ok_rt, wps_ok_bk, wps_ok_ct, wps_ok_xc, wps_bad, wps_lft, wps_seq, wps_nil, wps_ret, wps_expr, wps_asg, wps_if, wp_run, wps_for, wps_while, wp_comp, wp_var, wp_C, wp_bin, wp_un, wp_T, wp_Tb, wp_asBl, wp_truthBl, wp_bAnd, wp_bOr, wp_bNot, wp_eIf, wp_eAnd, wp_eOr, wp_eNot, blCase_bl, wp_chain, wp_aNil, wp_aCons, wp_tup, wp_lst, wp_lstM, wp_call, wp_cl1, wp_cl2, wp_cl3, wp_cl4, wp_cl5, wp_meth, wp_isi, wp_oNone, wp_oSome, wp_sl, wp_it, wp_range1, wp_range2, wp_bYes, gEq_str, gNe_str, gEq_int, gNe_int, gEq_bl, gNe_bl, gIs_bl, gIsNot_bl, gAdd_int, gSub_int, gC_int, gI_int, gAdd_str, gAdd_tup, gAdd_lst, gNeg_int, gIx_tup, gIx_lst, gLen_tup, gLen_lst, gLen_str, gInt_int, gInt_bl, gTuple_lst, gTuple_tup, gList_lst, gList_tup, gSl_tup, gSl_lst, gSl_fl, gSl_str, srcL_tup, srcL_lst, srcL_fl, srcL_str, srcR1_int, typN, startR, List.map_cons, List.map_nil, List.length_cons, List.length_nil, Nat.reduceAdd, Nat.reduceSub, Nat.zero_add, Nat.sub_self, Nat.sub_zero, List.replicate_zero, List.replicate_succ, List.cons_append, List.nil_append, List.append_nil, List.getElem?_cons_zero, List.getElem?_cons_succ, List.set_cons_zero, List.set_cons_succ, List.set_nil, List.getElem?_nil, Option.some.injEq, exists_eq_left', exists_eq_left, exists_eq_right, reduceCtorEq, false_and, and_false, true_and, and_true, exists_false, exists_const, wipeR, Nat.zero_le, String.reduceEq, D.int.injEq, D.str.injEq, D.bl.injEq, atI_0, atI_1, atI_2, atI_3, atI_4, beq_self_eq_true, not_true_eq_false, not_false_eq_true, Int.cast_ofNat_Int, Int.reduceEq, Int.reduceLE, Int.reduceLT, Int.reduceAdd, Int.reduceSub, Int.reduceMul, Int.reduceNeg, if_true, if_false, ite_true, ite_false, Bool.false_eq_true, if_neg, if_pos, decide_eq_true_eq, Bool.not_eq_true', decide_eq_false_iff_not, eq_self_iff_true, decide_true, decide_false, Bool.not_true, Bool.not_false]; exact hF
  | fl i => simp only [b_is_code, isiN_lt, fin_bl hS, wp_ok, wp_ret, wp_stuck, wp_bad, wp_bnd, wp_if, wp_fif, wps_ok_nx, wps_ok_rt, wps_ok_bk, wps_ok_ct, wps_ok_xc, wps_bad, wps_lft, wps_seq, wps_nil, wps_ret, wps_expr, wps_asg, wps_if, wp_run, wps_for, wps_while, wp_comp, wp_var, wp_C, wp_bin, wp_un, wp_T, wp_Tb, wp_asBl, wp_truthBl, wp_bAnd, wp_bOr, wp_bNot, wp_eIf, wp_eAnd, wp_eOr, wp_eNot, blCase_bl, wp_chain, wp_aNil, wp_aCons, wp_tup, wp_lst, wp_lstM, wp_call, wp_cl1, wp_cl2, wp_cl3, wp_cl4, wp_cl5, wp_meth, wp_isi, wp_oNone, wp_oSome, wp_sl, wp_it, wp_range1, wp_range2, wp_bYes, gEq_str, gNe_str, gEq_int, gNe_int, gEq_bl, gNe_bl, gIs_bl, gIsNot_bl, gAdd_int, gSub_int, gC_int, gI_int, gAdd_str, gAdd_tup, gAdd_lst, gNeg_int, gIx_tup, gIx_lst, gLen_tup, gLen_lst, gLen_str, gInt_int, gInt_bl, gTuple_lst, gTuple_tup, gList_lst, gList_tup, gSl_tup, gSl_lst, gSl_fl, gSl_str, srcL_tup, srcL_lst, srcL_fl, srcL_str, srcR1_int, typN, startR, List.map_cons, List.map_nil, List.length_cons, List.length_nil, Nat.reduceAdd, Nat.reduceSub, Nat.zero_add, Nat.sub_self, Nat.sub_zero, List.replicate_zero, List.replicate_succ, List.cons_append, List.nil_append, List.append_nil, List.getElem?_cons_zero, List.getElem?_cons_succ, List.set_cons_zero, List.set_cons_succ, List.set_nil, List.getElem?_nil, Option.some.injEq, exists_eq_left', exists_eq_left, exists_eq_right, reduceCtorEq, false_and, and_false, true_and, and_true, exists_false, exists_const, wipeR, Nat.zero_le, String.reduceEq, D.int.injEq, D.str.injEq, D.bl.injEq, atI_0, atI_1, atI_2, atI_3, atI_4, beq_self_eq_true, not_true_eq_false, not_false_eq_true, Int.cast_ofNat_Int, Int.reduceEq, Int.reduceLE, Int.reduceLT, Int.reduceAdd, Int.reduceSub, Int.reduceMul, Int.reduceNeg, if_true, if_false, ite_true, ite_false, Bool.false_eq_true, if_neg, if_pos, decide_eq_true_eq, Bool.not_eq_true', decide_eq_false_iff_not, eq_self_iff_true, decide_true, decide_false, Bool.not_true, Bool.not_false]; exact hF
end K63

namespace K63
open PySem L2 DL
variable {fu n k : Nat} {S S0 : Sto} {F : D → Sto → Prop} {E : Exc → Sto → Prop}
/-! the draws -/
theorem mixed_ok {x : Int} (hS : WF S) (hF : ∀ v : Int, 0 ≤ v → F (.int v) S) : wp (den fu (n + 1) i_l_mixed [.int x] S) F E := by
  show wp (runDef false 1 (b_l_mixed fu (den fu n)) _ _) _ _
  simp only [b_l_mixed, fin_int hS, wp_ok, wp_ret, wp_stuck, wp_bad, wp_bnd, wp_if, wp_fif, wps_ok_nx, wps_ok_rt, wps_ok_bk, wps_ok_ct, wps_ok_xc, wps_bad, wps_lft, wps_seq, wps_nil, wps_ret, wps_expr, wps_asg, wps_if, wp_run, wps_for, wps_while, wp_comp, wp_var, wp_C, wp_bin, wp_un, wp_T, wp_Tb, wp_asBl, wp_truthBl, wp_bAnd, wp_bOr, wp_bNot, wp_eIf, wp_eAnd, wp_eOr, wp_eNot, blCase_bl, wp_chain, wp_aNil, wp_aCons, wp_tup, wp_lst, wp_lstM, wp_call, wp_cl1, wp_cl2, wp_cl3, wp_cl4, wp_cl5, wp_meth, wp_isi, wp_oNone, wp_oSome, wp_sl, wp_it, wp_range1, wp_range2, wp_bYes, gEq_str, gNe_str, gEq_int, gNe_int, gEq_bl, gNe_bl, gIs_bl, gIsNot_bl, gAdd_int, gSub_int, gC_int, gI_int, gAdd_str, gAdd_tup, gAdd_lst, gNeg_int, gIx_tup, gIx_lst, gLen_tup, gLen_lst, gLen_str, gInt_int, gInt_bl, gTuple_lst, gTuple_tup, gList_lst, gList_tup, gSl_tup, gSl_lst, gSl_fl, gSl_str, srcL_tup, srcL_lst, srcL_fl, srcL_str, srcR1_int, typN, startR, List.map_cons, List.map_nil, List.length_cons, List.length_nil, Nat.reduceAdd, Nat.reduceSub, Nat.zero_add, Nat.sub_self, Nat.sub_zero, List.replicate_zero, List.replicate_succ, List.cons_append, List.nil_append, List.append_nil, List.getElem?_cons_zero, List.getElem?_cons_succ, List.set_cons_zero, List.set_cons_succ, List.set_nil, List.getElem?_nil, Option.some.injEq, exists_eq_left', exists_eq_left, exists_eq_right, reduceCtorEq, false_and, and_false, true_and, and_true, exists_false, exists_const, wipeR, Nat.zero_le, String.reduceEq, D.int.injEq, D.str.injEq, D.bl.injEq, atI_0, atI_1, atI_2, atI_3, atI_4, beq_self_eq_true, not_true_eq_false, not_false_eq_true, Int.cast_ofNat_Int, Int.reduceEq, Int.reduceLE, Int.reduceLT, Int.reduceAdd, Int.reduceSub, Int.reduceMul, Int.reduceNeg, if_true, if_false, ite_true, ite_false, Bool.false_eq_true, if_neg, if_pos, decide_eq_true_eq, Bool.not_eq_true', decide_eq_false_iff_not, eq_self_iff_true, decide_true, decide_false, Bool.not_true, Bool.not_false]
  have h1 := Int.emod_nonneg x (show (2147483629 : Int) ≠ 0 by decide)
  have h2 := Int.emod_lt_of_pos x (show (0 : Int) < 2147483629 by decide)
  generalize x % 2147483629 = a at h1 h2
  have h3 := Int.emod_nonneg (a * 48271 + 7) (show (2147483647 : Int) ≠ 0 by decide)
  have h4 := Int.emod_lt_of_pos (a * 48271 + 7) (show (0 : Int) < 2147483647 by decide)
  generalize (a * 48271 + 7) % 2147483647 = b at h3 h4
  have h5 := Int.emod_nonneg (b * b + 69621 * b + 11) (show (2147483629 : Int) ≠ 0 by decide)
  have h6 := Int.emod_lt_of_pos (b * b + 69621 * b + 11) (show (0 : Int) < 2147483629 by decide)
  have h7 : ∀ c : Int, (c * 39373 + 5) % 2147483587 ≥ 0 := fun c => Int.emod_nonneg _ (by decide)
  exact ⟨cMul_l h1 (by omega), cMul_l h3 (by omega), cMul_l (by omega) (by omega), cMul_l h5 (by omega), hF _ (h7 _)⟩
theorem draw_ok {m : Int} {N : Nat} (hN : 2 ≤ N) (h : DK k S0 S) (hm : 0 < m) (hm2 : m < 18446744073709551616) (hF : ∀ (v : Int) (S' : Sto), 0 ≤ v → v < m → DK k S0 S' → F (.int v) S') : wp (den fu N i_l_draw [.ref k, .int m] S) F E := by
  obtain ⟨N', rfl⟩ : ∃ N', N = N' + 2 := ⟨N - 2, by omega⟩
  show wp (runDef false 3 (b_l_draw fu (den fu (N' + 1))) _ _) _ _
  obtain ⟨cells, hc, hat, hput⟩ := h.get
  simp only [b_l_draw, gEq_refNil hat, isTy_ref hat, gPop_ref hat, wp_ok, wp_ret, wp_stuck, wp_bad, wp_bnd, wp_if, wp_fif, wps_ok_nx, wps_ok_rt, wps_ok_bk, wps_ok_ct, wps_ok_xc, wps_bad, wps_lft, wps_seq, wps_nil, wps_ret, wps_expr, wps_asg, wps_if, wp_run, wps_for, wps_while, wp_comp, wp_var, wp_C, wp_bin, wp_un, wp_T, wp_Tb, wp_asBl, wp_truthBl, wp_bAnd, wp_bOr, wp_bNot, wp_eIf, wp_eAnd, wp_eOr, wp_eNot, blCase_bl, wp_chain, wp_aNil, wp_aCons, wp_tup, wp_lst, wp_lstM, wp_call, wp_cl1, wp_cl2, wp_cl3, wp_cl4, wp_cl5, wp_meth, wp_isi, wp_oNone, wp_oSome, wp_sl, wp_it, wp_range1, wp_range2, wp_bYes, gEq_str, gNe_str, gEq_int, gNe_int, gEq_bl, gNe_bl, gIs_bl, gIsNot_bl, gAdd_int, gSub_int, gC_int, gI_int, gAdd_str, gAdd_tup, gAdd_lst, gNeg_int, gIx_tup, gIx_lst, gLen_tup, gLen_lst, gLen_str, gInt_int, gInt_bl, gTuple_lst, gTuple_tup, gList_lst, gList_tup, gSl_tup, gSl_lst, gSl_fl, gSl_str, srcL_tup, srcL_lst, srcL_fl, srcL_str, srcR1_int, typN, startR, List.map_cons, List.map_nil, List.length_cons, List.length_nil, Nat.reduceAdd, Nat.reduceSub, Nat.zero_add, Nat.sub_self, Nat.sub_zero, List.replicate_zero, List.replicate_succ, List.cons_append, List.nil_append, List.append_nil, List.getElem?_cons_zero, List.getElem?_cons_succ, List.set_cons_zero, List.set_cons_succ, List.set_nil, List.getElem?_nil, Option.some.injEq, exists_eq_left', exists_eq_left, exists_eq_right, reduceCtorEq, false_and, and_false, true_and, and_true, exists_false, exists_const, wipeR, Nat.zero_le, String.reduceEq, D.int.injEq, D.str.injEq, D.bl.injEq, atI_0, atI_1, atI_2, atI_3, atI_4, beq_self_eq_true, not_true_eq_false, not_false_eq_true, Int.cast_ofNat_Int, Int.reduceEq, Int.reduceLE, Int.reduceLT, Int.reduceAdd, Int.reduceSub, Int.reduceMul, Int.reduceNeg, if_true, if_false, ite_true, ite_false, Bool.false_eq_true, if_neg, if_pos, decide_eq_true_eq, Bool.not_eq_true', decide_eq_false_iff_not, eq_self_iff_true, decide_true, decide_false, Bool.not_true, Bool.not_false]
  by_cases hne : cells = []
  · rw [if_pos hne]
    exact (fin_int h.wf').mpr (hF 0 S (Int.le_refl 0) hm h)
  · rw [if_neg hne]
    obtain ⟨cs, c, rfl⟩ : ∃ cs c, cells = cs ++ [c] := ⟨cells.dropLast, cells.getLast hne, (List.dropLast_concat_getLast hne).symm⟩
    simp only [List.length_append, List.length_singleton] at hc
    have e1 : ((cs ++ [c]).map D.int)[((cs ++ [c]).map D.int).length - 1]? = some (.int c) := by simp
    have e2 : ((cs ++ [c]).map D.int).dropLast = cs.map .int := by simp
    refine ⟨.int c, e1, ?_⟩
    rw [e2]
    have h1 := hput cs (by omega)
    have hk : k < S.length := by rw [h.len]; exact h.lt
    have hat1 := atL_set (ds := cs.map .int) hk
    have hset : ∀ x : D, (S.set k (.lst (cs.map .int))).set k (.lst (cs.map .int ++ [x])) = S.set k (.lst (cs.map .int ++ [x])) := fun x => by rw [List.set_set]
    have hl1 : (S.set k (.lst (cs.map .int))).length = S.length := by simp
    simp only [cPow, cDiv_of hm hm2, isTy_ref hat1, gAppend_ref hat1, hset, wp_ok, wp_ret, wp_stuck, wp_bad, wp_bnd, wp_if, wp_fif, wps_ok_nx, wps_ok_rt, wps_ok_bk, wps_ok_ct, wps_ok_xc, wps_bad, wps_lft, wps_seq, wps_nil, wps_ret, wps_expr, wps_asg, wps_if, wp_run, wps_for, wps_while, wp_comp, wp_var, wp_C, wp_bin, wp_un, wp_T, wp_Tb, wp_asBl, wp_truthBl, wp_bAnd, wp_bOr, wp_bNot, wp_eIf, wp_eAnd, wp_eOr, wp_eNot, blCase_bl, wp_chain, wp_aNil, wp_aCons, wp_tup, wp_lst, wp_lstM, wp_call, wp_cl1, wp_cl2, wp_cl3, wp_cl4, wp_cl5, wp_meth, wp_isi, wp_oNone, wp_oSome, wp_sl, wp_it, wp_range1, wp_range2, wp_bYes, gEq_str, gNe_str, gEq_int, gNe_int, gEq_bl, gNe_bl, gIs_bl, gIsNot_bl, gAdd_int, gSub_int, gC_int, gI_int, gAdd_str, gAdd_tup, gAdd_lst, gNeg_int, gIx_tup, gIx_lst, gLen_tup, gLen_lst, gLen_str, gInt_int, gInt_bl, gTuple_lst, gTuple_tup, gList_lst, gList_tup, gSl_tup, gSl_lst, gSl_fl, gSl_str, srcL_tup, srcL_lst, srcL_fl, srcL_str, srcR1_int, typN, startR, List.map_cons, List.map_nil, List.length_cons, List.length_nil, Nat.reduceAdd, Nat.reduceSub, Nat.zero_add, Nat.sub_self, Nat.sub_zero, List.replicate_zero, List.replicate_succ, List.cons_append, List.nil_append, List.append_nil, List.getElem?_cons_zero, List.getElem?_cons_succ, List.set_cons_zero, List.set_cons_succ, List.set_nil, List.getElem?_nil, Option.some.injEq, exists_eq_left', exists_eq_left, exists_eq_right, reduceCtorEq, false_and, and_false, true_and, and_true, exists_false, exists_const, wipeR, Nat.zero_le, String.reduceEq, D.int.injEq, D.str.injEq, D.bl.injEq, atI_0, atI_1, atI_2, atI_3, atI_4, beq_self_eq_true, not_true_eq_false, not_false_eq_true, Int.cast_ofNat_Int, Int.reduceEq, Int.reduceLE, Int.reduceLT, Int.reduceAdd, Int.reduceSub, Int.reduceMul, Int.reduceNeg, if_true, if_false, ite_true, ite_false, Bool.false_eq_true, if_neg, if_pos, decide_eq_true_eq, Bool.not_eq_true', decide_eq_false_iff_not, eq_self_iff_true, decide_true, decide_false, Bool.not_true, Bool.not_false]
    refine ⟨by decide, ?_⟩
    by_cases hge : (10 : Int) ^ (Int.toNat 18) ≤ c
    · rw [if_pos hge]
      refine ⟨by rw [sizeLine_eq, List.length_map]; omega, ?_⟩
      simp only [hm, wp_ok, wp_ret, wp_stuck, wp_bad, wp_bnd, wp_if, wp_fif, wps_ok_nx, wps_ok_rt, wps_ok_bk, wps_ok_ct, wps_ok_xc, wps_bad, wps_lft, wps_seq, wps_nil, wps_ret, wps_expr, wps_asg, wps_if, wp_run, wps_for, wps_while, wp_comp, wp_var, wp_C, wp_bin, wp_un, wp_T, wp_Tb, wp_asBl, wp_truthBl, wp_bAnd, wp_bOr, wp_bNot, wp_eIf, wp_eAnd, wp_eOr, wp_eNot, blCase_bl, wp_chain, wp_aNil, wp_aCons, wp_tup, wp_lst, wp_lstM, wp_call, wp_cl1, wp_cl2, wp_cl3, wp_cl4, wp_cl5, wp_meth, wp_isi, wp_oNone, wp_oSome, wp_sl, wp_it, wp_range1, wp_range2, wp_bYes, gEq_str, gNe_str, gEq_int, gNe_int, gEq_bl, gNe_bl, gIs_bl, gIsNot_bl, gAdd_int, gSub_int, gC_int, gI_int, gAdd_str, gAdd_tup, gAdd_lst, gNeg_int, gIx_tup, gIx_lst, gLen_tup, gLen_lst, gLen_str, gInt_int, gInt_bl, gTuple_lst, gTuple_tup, gList_lst, gList_tup, gSl_tup, gSl_lst, gSl_fl, gSl_str, srcL_tup, srcL_lst, srcL_fl, srcL_str, srcR1_int, typN, startR, List.map_cons, List.map_nil, List.length_cons, List.length_nil, Nat.reduceAdd, Nat.reduceSub, Nat.zero_add, Nat.sub_self, Nat.sub_zero, List.replicate_zero, List.replicate_succ, List.cons_append, List.nil_append, List.append_nil, List.getElem?_cons_zero, List.getElem?_cons_succ, List.set_cons_zero, List.set_cons_succ, List.set_nil, List.getElem?_nil, Option.some.injEq, exists_eq_left', exists_eq_left, exists_eq_right, reduceCtorEq, false_and, and_false, true_and, and_true, exists_false, exists_const, wipeR, Nat.zero_le, String.reduceEq, D.int.injEq, D.str.injEq, D.bl.injEq, atI_0, atI_1, atI_2, atI_3, atI_4, beq_self_eq_true, not_true_eq_false, not_false_eq_true, Int.cast_ofNat_Int, Int.reduceEq, Int.reduceLE, Int.reduceLT, Int.reduceAdd, Int.reduceSub, Int.reduceMul, Int.reduceNeg, if_true, if_false, ite_true, ite_false, Bool.false_eq_true, if_neg, if_pos, decide_eq_true_eq, Bool.not_eq_true', decide_eq_false_iff_not, eq_self_iff_true, decide_true, decide_false, Bool.not_true, Bool.not_false]
      have h2 := hput (cs ++ [c / m]) (by simp; omega)
      rw [List.map_append] at h2
      refine fin_same h2.wf' rfl (by simp) (hF _ _ (Int.emod_nonneg _ (by omega)) (Int.emod_lt_of_pos _ hm) h2)
    · rw [if_neg hge]
      refine mixed_ok h1.wf' fun v hv => ?_
      simp only [hm, wp_ok, wp_ret, wp_stuck, wp_bad, wp_bnd, wp_if, wp_fif, wps_ok_nx, wps_ok_rt, wps_ok_bk, wps_ok_ct, wps_ok_xc, wps_bad, wps_lft, wps_seq, wps_nil, wps_ret, wps_expr, wps_asg, wps_if, wp_run, wps_for, wps_while, wp_comp, wp_var, wp_C, wp_bin, wp_un, wp_T, wp_Tb, wp_asBl, wp_truthBl, wp_bAnd, wp_bOr, wp_bNot, wp_eIf, wp_eAnd, wp_eOr, wp_eNot, blCase_bl, wp_chain, wp_aNil, wp_aCons, wp_tup, wp_lst, wp_lstM, wp_call, wp_cl1, wp_cl2, wp_cl3, wp_cl4, wp_cl5, wp_meth, wp_isi, wp_oNone, wp_oSome, wp_sl, wp_it, wp_range1, wp_range2, wp_bYes, gEq_str, gNe_str, gEq_int, gNe_int, gEq_bl, gNe_bl, gIs_bl, gIsNot_bl, gAdd_int, gSub_int, gC_int, gI_int, gAdd_str, gAdd_tup, gAdd_lst, gNeg_int, gIx_tup, gIx_lst, gLen_tup, gLen_lst, gLen_str, gInt_int, gInt_bl, gTuple_lst, gTuple_tup, gList_lst, gList_tup, gSl_tup, gSl_lst, gSl_fl, gSl_str, srcL_tup, srcL_lst, srcL_fl, srcL_str, srcR1_int, typN, startR, List.map_cons, List.map_nil, List.length_cons, List.length_nil, Nat.reduceAdd, Nat.reduceSub, Nat.zero_add, Nat.sub_self, Nat.sub_zero, List.replicate_zero, List.replicate_succ, List.cons_append, List.nil_append, List.append_nil, List.getElem?_cons_zero, List.getElem?_cons_succ, List.set_cons_zero, List.set_cons_succ, List.set_nil, List.getElem?_nil, Option.some.injEq, exists_eq_left', exists_eq_left, exists_eq_right, reduceCtorEq, false_and, and_false, true_and, and_true, exists_false, exists_const, wipeR, Nat.zero_le, String.reduceEq, D.int.injEq, D.str.injEq, D.bl.injEq, atI_0, atI_1, atI_2, atI_3, atI_4, beq_self_eq_true, not_true_eq_false, not_false_eq_true, Int.cast_ofNat_Int, Int.reduceEq, Int.reduceLE, Int.reduceLT, Int.reduceAdd, Int.reduceSub, Int.reduceMul, Int.reduceNeg, if_true, if_false, ite_true, ite_false, Bool.false_eq_true, if_neg, if_pos, decide_eq_true_eq, Bool.not_eq_true', decide_eq_false_iff_not, eq_self_iff_true, decide_true, decide_false, Bool.not_true, Bool.not_false]
      exact fin_same h1.wf' rfl hl1 (hF _ _ (Int.emod_nonneg _ (by omega)) (Int.emod_lt_of_pos _ hm) h1)
theorem number_gen {N : Nat} (hN : 3 ≤ N) (h : DK k S0 S) (hF : ∀ (i : Int) (S' : Sto), 0 ≤ i → i < 1000000000000 → DK k S0 S' → F (.int i) S') : wp (den fu N i_l_number [.ref k] S) F E := by
  obtain ⟨N', rfl⟩ : ∃ N', N = N' + 1 := ⟨N - 1, by omega⟩
  show wp (runDef false 1 (b_l_number fu (den fu N')) _ _) _ _
  simp only [b_l_number, wp_ok, wp_ret, wp_stuck, wp_bad, wp_bnd, wp_if, wp_fif, wps_ok_nx, wps_ok_rt, wps_ok_bk, wps_ok_ct, wps_ok_xc, wps_bad, wps_lft, wps_seq, wps_nil, wps_ret, wps_expr, wps_asg, wps_if, wp_run, wps_for, wps_while, wp_comp, wp_var, wp_C, wp_bin, wp_un, wp_T, wp_Tb, wp_asBl, wp_truthBl, wp_bAnd, wp_bOr, wp_bNot, wp_eIf, wp_eAnd, wp_eOr, wp_eNot, blCase_bl, wp_chain, wp_aNil, wp_aCons, wp_tup, wp_lst, wp_lstM, wp_call, wp_cl1, wp_cl2, wp_cl3, wp_cl4, wp_cl5, wp_meth, wp_isi, wp_oNone, wp_oSome, wp_sl, wp_it, wp_range1, wp_range2, wp_bYes, gEq_str, gNe_str, gEq_int, gNe_int, gEq_bl, gNe_bl, gIs_bl, gIsNot_bl, gAdd_int, gSub_int, gC_int, gI_int, gAdd_str, gAdd_tup, gAdd_lst, gNeg_int, gIx_tup, gIx_lst, gLen_tup, gLen_lst, gLen_str, gInt_int, gInt_bl, gTuple_lst, gTuple_tup, gList_lst, gList_tup, gSl_tup, gSl_lst, gSl_fl, gSl_str, srcL_tup, srcL_lst, srcL_fl, srcL_str, srcR1_int, typN, startR, List.map_cons, List.map_nil, List.length_cons, List.length_nil, Nat.reduceAdd, Nat.reduceSub, Nat.zero_add, Nat.sub_self, Nat.sub_zero, List.replicate_zero, List.replicate_succ, List.cons_append, List.nil_append, List.append_nil, List.getElem?_cons_zero, List.getElem?_cons_succ, List.set_cons_zero, List.set_cons_succ, List.set_nil, List.getElem?_nil, Option.some.injEq, exists_eq_left', exists_eq_left, exists_eq_right, reduceCtorEq, false_and, and_false, true_and, and_true, exists_false, exists_const, wipeR, Nat.zero_le, String.reduceEq, D.int.injEq, D.str.injEq, D.bl.injEq, atI_0, atI_1, atI_2, atI_3, atI_4, beq_self_eq_true, not_true_eq_false, not_false_eq_true, Int.cast_ofNat_Int, Int.reduceEq, Int.reduceLE, Int.reduceLT, Int.reduceAdd, Int.reduceSub, Int.reduceMul, Int.reduceNeg, if_true, if_false, ite_true, ite_false, Bool.false_eq_true, if_neg, if_pos, decide_eq_true_eq, Bool.not_eq_true', decide_eq_false_iff_not, eq_self_iff_true, decide_true, decide_false, Bool.not_true, Bool.not_false]
  refine draw_ok (by omega) h (by decide) (by decide) fun v1 S1 h1 h1' d1 => ?_
  simp only [cPow, wp_ok, wp_ret, wp_stuck, wp_bad, wp_bnd, wp_if, wp_fif, wps_ok_nx, wps_ok_rt, wps_ok_bk, wps_ok_ct, wps_ok_xc, wps_bad, wps_lft, wps_seq, wps_nil, wps_ret, wps_expr, wps_asg, wps_if, wp_run, wps_for, wps_while, wp_comp, wp_var, wp_C, wp_bin, wp_un, wp_T, wp_Tb, wp_asBl, wp_truthBl, wp_bAnd, wp_bOr, wp_bNot, wp_eIf, wp_eAnd, wp_eOr, wp_eNot, blCase_bl, wp_chain, wp_aNil, wp_aCons, wp_tup, wp_lst, wp_lstM, wp_call, wp_cl1, wp_cl2, wp_cl3, wp_cl4, wp_cl5, wp_meth, wp_isi, wp_oNone, wp_oSome, wp_sl, wp_it, wp_range1, wp_range2, wp_bYes, gEq_str, gNe_str, gEq_int, gNe_int, gEq_bl, gNe_bl, gIs_bl, gIsNot_bl, gAdd_int, gSub_int, gC_int, gI_int, gAdd_str, gAdd_tup, gAdd_lst, gNeg_int, gIx_tup, gIx_lst, gLen_tup, gLen_lst, gLen_str, gInt_int, gInt_bl, gTuple_lst, gTuple_tup, gList_lst, gList_tup, gSl_tup, gSl_lst, gSl_fl, gSl_str, srcL_tup, srcL_lst, srcL_fl, srcL_str, srcR1_int, typN, startR, List.map_cons, List.map_nil, List.length_cons, List.length_nil, Nat.reduceAdd, Nat.reduceSub, Nat.zero_add, Nat.sub_self, Nat.sub_zero, List.replicate_zero, List.replicate_succ, List.cons_append, List.nil_append, List.append_nil, List.getElem?_cons_zero, List.getElem?_cons_succ, List.set_cons_zero, List.set_cons_succ, List.set_nil, List.getElem?_nil, Option.some.injEq, exists_eq_left', exists_eq_left, exists_eq_right, reduceCtorEq, false_and, and_false, true_and, and_true, exists_false, exists_const, wipeR, Nat.zero_le, String.reduceEq, D.int.injEq, D.str.injEq, D.bl.injEq, atI_0, atI_1, atI_2, atI_3, atI_4, beq_self_eq_true, not_true_eq_false, not_false_eq_true, Int.cast_ofNat_Int, Int.reduceEq, Int.reduceLE, Int.reduceLT, Int.reduceAdd, Int.reduceSub, Int.reduceMul, Int.reduceNeg, if_true, if_false, ite_true, ite_false, Bool.false_eq_true, if_neg, if_pos, decide_eq_true_eq, Bool.not_eq_true', decide_eq_false_iff_not, eq_self_iff_true, decide_true, decide_false, Bool.not_true, Bool.not_false]
  refine ⟨by decide, by decide, draw_ok (by omega) d1 (by decide) (by decide) fun v2 S2 h2 h2' d2 => ?_⟩
  refine ⟨small_line (by decide), draw_ok (by omega) d2 (by decide) (by decide) fun v3 S3 h3 h3' d3 => ?_⟩
  obtain ⟨d, hd, e⟩ := atI_mem (ds := [D.int 0, .int 1, .int 2, .int v1, .int (10 ^ Int.toNat 12 - 1), .int v2]) h3 h3'
  rw [gIx_lst]
  refine ⟨d, e, ?_⟩
  have : ∃ i : Int, d = .int i ∧ 0 ≤ i ∧ i < 1000000000000 := by
    simp only [List.mem_cons, List.not_mem_nil, or_false] at hd
    have hp : (10 : Int) ^ Int.toNat 12 = 1000000000000 := by decide
    rcases hd with rfl | rfl | rfl | rfl | rfl | rfl
    · exact ⟨_, rfl, by decide, by decide⟩
    · exact ⟨_, rfl, by decide, by decide⟩
    · exact ⟨_, rfl, by decide, by decide⟩
    · exact ⟨_, rfl, h1, by omega⟩
    · exact ⟨_, rfl, by omega, by omega⟩
    · exact ⟨_, rfl, h2, by omega⟩
  obtain ⟨i, rfl, q1, q2⟩ := this
  exact fin_same d3.wf' rfl (by rw [d3.len, h.len]) (hF i S3 q1 q2 d3)
end K63

namespace K63
open PySem L2 DL
variable {fu n k : Nat} {S S0 : Sto} {F : D → Sto → Prop} {E : Exc → Sto → Prop}
/-! sizes -/
/-- what size takes: things, a row perhaps as a list -/
def SzG (j : Nat) (d : D) : Prop := ThG j d ∨ ∃ ws, d = .tup [.str "row", .lst ws] ∧ ws.length ≤ 1000 ∧ ∀ w ∈ ws, ∃ j', j = j' + 1 ∧ WdG j' w
theorem SzG.tr {j : Nat} {d : D} (h : SzG j d) : tr d := by
  rcases h with h | ⟨ws, rfl, _, h⟩
  · exact h.tr
  · have : D.los 0 ws = true := los_iff ws |>.mpr fun w hw => by
      obtain ⟨j', rfl, q⟩ := h w hw
      rcases q with q | ⟨t, rfl, q⟩
      · exact q.tr
      · have := ThG.tr q
        simp only [DL.tr, D.lo, D.los, Bool.and_true, Bool.true_and] at this ⊢
        exact this
    simp only [DL.tr, D.lo, D.los, Bool.and_true, Bool.true_and]
    exact this
/-- the pushed things of words -/
def pushed : List D → List D
  | [] => []
  | .tup [_, t] :: r => t :: pushed r
  | _ :: r => pushed r
theorem pushed_app : ∀ (a b : List D), pushed (a ++ b) = pushed a ++ pushed b
  | [], _ => rfl
  | .tup [_, t] :: r, b => by simp [pushed, pushed_app r b]
  | .non :: r, b => by simp [pushed, pushed_app r b]
  | .bl _ :: r, b => by simp [pushed, pushed_app r b]
  | .int _ :: r, b => by simp [pushed, pushed_app r b]
  | .str _ :: r, b => by simp [pushed, pushed_app r b]
  | .lst _ :: r, b => by simp [pushed, pushed_app r b]
  | .fl _ :: r, b => by simp [pushed, pushed_app r b]
  | .ref _ :: r, b => by simp [pushed, pushed_app r b]
  | .tup [] :: r, b => by simp [pushed, pushed_app r b]
  | .tup [_] :: r, b => by simp [pushed, pushed_app r b]
  | .tup (_ :: _ :: _ :: _) :: r, b => by simp [pushed, pushed_app r b]
theorem pushed_len : ∀ ws : List D, (pushed ws).length ≤ ws.length
  | [] => Nat.le_refl _
  | w :: r => by
    have := pushed_len r
    unfold pushed
    split <;> simp_all <;> omega
theorem pushed_good {j : Nat} : ∀ {ws : List D}, (∀ w ∈ ws, WdG j w) → ∀ t ∈ pushed ws, ThG j t
  | [], _, t, h => by simp [pushed] at h
  | w :: r, hw, t, h => by
    have ih := pushed_good (j := j) (fun w hw' => hw w (List.mem_cons_of_mem _ hw')) t
    rcases hw w List.mem_cons_self with ⟨z, rfl, _⟩ | ⟨u, rfl, hu⟩
    · exact ih (by simpa [pushed] using h)
    · simp only [pushed, List.mem_cons] at h
      rcases h with rfl | h
      · exact hu
      · exact ih h
/-- the comprehension of the pushed things -/
theorem comp_pushed {ws : List D} {ρ : Rho} {S : Sto} {FF : List D → Sto → Prop} {i j : Nat} (hi : ∀ d : D, (ρ.set i (some d))[i]? = some (some d)) (hw : ∀ w ∈ ws, WdG j w) (h : FF (pushed ws) S) :
    wp (compM none ws (gN i) (eT (eIsi "tuple" (eVar i))) (eBin gIx (eVar i) (eC (.int 1))) ρ ws S) FF nx := by
  refine wp_compM (fun k ys S' => S' = S ∧ ys = pushed (ws.take k)) (fun _ _ _ _ => trivial) (fun k d ys S' hd hk => ?_) (fun ys S' hk => ?_) ⟨rfl, rfl⟩
  · obtain ⟨rfl, rfl⟩ := hk
    refine ⟨_, rfl, ?_⟩
    have e : ws.take (k + 1) = ws.take k ++ [d] := by rw [List.take_succ, hd]; rfl
    rw [e, pushed_app]
    rcases hw d (List.mem_of_getElem? hd) with ⟨z, rfl, _⟩ | ⟨u, rfl, hu⟩
    · simp only [hi, isiN_st, pushed, wp_ok, wp_ret, wp_stuck, wp_bad, wp_bnd, wp_if, wp_fif, wps_ok_nx, wps_ok_rt, wps_ok_bk, wps_ok_ct, wps_ok_xc, wps_bad, wps_lft, wps_seq, wps_nil, wps_ret, wps_expr, wps_asg, wps_if, wp_run, wps_for, wps_while, wp_comp, wp_var, wp_C, wp_bin, wp_un, wp_T, wp_Tb, wp_asBl, wp_truthBl, wp_bAnd, wp_bOr, wp_bNot, wp_eIf, wp_eAnd, wp_eOr, wp_eNot, blCase_bl, wp_chain, wp_aNil, wp_aCons, wp_tup, wp_lst, wp_lstM, wp_call, wp_cl1, wp_cl2, wp_cl3, wp_cl4, wp_cl5, wp_meth, wp_isi, wp_oNone, wp_oSome, wp_sl, wp_it, wp_range1, wp_range2, wp_bYes, gEq_str, gNe_str, gEq_int, gNe_int, gEq_bl, gNe_bl, gIs_bl, gIsNot_bl, gAdd_int, gSub_int, gC_int, gI_int, gAdd_str, gAdd_tup, gAdd_lst, gNeg_int, gIx_tup, gIx_lst, gLen_tup, gLen_lst, gLen_str, gInt_int, gInt_bl, gTuple_lst, gTuple_tup, gList_lst, gList_tup, gSl_tup, gSl_lst, gSl_fl, gSl_str, srcL_tup, srcL_lst, srcL_fl, srcL_str, srcR1_int, typN, startR, List.map_cons, List.map_nil, List.length_cons, List.length_nil, Nat.reduceAdd, Nat.reduceSub, Nat.zero_add, Nat.sub_self, Nat.sub_zero, List.replicate_zero, List.replicate_succ, List.cons_append, List.nil_append, List.append_nil, List.getElem?_cons_zero, List.getElem?_cons_succ, List.set_cons_zero, List.set_cons_succ, List.set_nil, List.getElem?_nil, Option.some.injEq, exists_eq_left', exists_eq_left, exists_eq_right, reduceCtorEq, false_and, and_false, true_and, and_true, exists_false, exists_const, wipeR, Nat.zero_le, String.reduceEq, D.int.injEq, D.str.injEq, D.bl.injEq, atI_0, atI_1, atI_2, atI_3, atI_4, beq_self_eq_true, not_true_eq_false, not_false_eq_true, Int.cast_ofNat_Int, Int.reduceEq, Int.reduceLE, Int.reduceLT, Int.reduceAdd, Int.reduceSub, Int.reduceMul, Int.reduceNeg, if_true, if_false, ite_true, ite_false, Bool.false_eq_true, if_neg, if_pos, decide_eq_true_eq, Bool.not_eq_true', decide_eq_false_iff_not, eq_self_iff_true, decide_true, decide_false, Bool.not_true, Bool.not_false]
    · simp only [hi, isiN_tt, pushed, wp_ok, wp_ret, wp_stuck, wp_bad, wp_bnd, wp_if, wp_fif, wps_ok_nx, wps_ok_rt, wps_ok_bk, wps_ok_ct, wps_ok_xc, wps_bad, wps_lft, wps_seq, wps_nil, wps_ret, wps_expr, wps_asg, wps_if, wp_run, wps_for, wps_while, wp_comp, wp_var, wp_C, wp_bin, wp_un, wp_T, wp_Tb, wp_asBl, wp_truthBl, wp_bAnd, wp_bOr, wp_bNot, wp_eIf, wp_eAnd, wp_eOr, wp_eNot, blCase_bl, wp_chain, wp_aNil, wp_aCons, wp_tup, wp_lst, wp_lstM, wp_call, wp_cl1, wp_cl2, wp_cl3, wp_cl4, wp_cl5, wp_meth, wp_isi, wp_oNone, wp_oSome, wp_sl, wp_it, wp_range1, wp_range2, wp_bYes, gEq_str, gNe_str, gEq_int, gNe_int, gEq_bl, gNe_bl, gIs_bl, gIsNot_bl, gAdd_int, gSub_int, gC_int, gI_int, gAdd_str, gAdd_tup, gAdd_lst, gNeg_int, gIx_tup, gIx_lst, gLen_tup, gLen_lst, gLen_str, gInt_int, gInt_bl, gTuple_lst, gTuple_tup, gList_lst, gList_tup, gSl_tup, gSl_lst, gSl_fl, gSl_str, srcL_tup, srcL_lst, srcL_fl, srcL_str, srcR1_int, typN, startR, List.map_cons, List.map_nil, List.length_cons, List.length_nil, Nat.reduceAdd, Nat.reduceSub, Nat.zero_add, Nat.sub_self, Nat.sub_zero, List.replicate_zero, List.replicate_succ, List.cons_append, List.nil_append, List.append_nil, List.getElem?_cons_zero, List.getElem?_cons_succ, List.set_cons_zero, List.set_cons_succ, List.set_nil, List.getElem?_nil, Option.some.injEq, exists_eq_left', exists_eq_left, exists_eq_right, reduceCtorEq, false_and, and_false, true_and, and_true, exists_false, exists_const, wipeR, Nat.zero_le, String.reduceEq, D.int.injEq, D.str.injEq, D.bl.injEq, atI_0, atI_1, atI_2, atI_3, atI_4, beq_self_eq_true, not_true_eq_false, not_false_eq_true, Int.cast_ofNat_Int, Int.reduceEq, Int.reduceLE, Int.reduceLT, Int.reduceAdd, Int.reduceSub, Int.reduceMul, Int.reduceNeg, if_true, if_false, ite_true, ite_false, Bool.false_eq_true, if_neg, if_pos, decide_eq_true_eq, Bool.not_eq_true', decide_eq_false_iff_not, eq_self_iff_true, decide_true, decide_false, Bool.not_true, Bool.not_false]
  · obtain ⟨rfl, rfl⟩ := hk
    rw [List.take_length]
    exact h
def PZ : Nat → D → Prop
  | 0, d => Num d
  | j + 1, d => SzG (j + 1) d
theorem PZ.of {j : Nat} {d : D} (h : ThG j d) : PZ j d := by
  cases j with
  | zero => exact h
  | succ j => exact .inl h
theorem size_ok : ∀ (j : Nat) (ts : List D) (N : Nat) (S : Sto) (F : D → Sto → Prop) (E : Exc → Sto → Prop), (∀ t ∈ ts, PZ j t) → j + 2 ≤ N → WF S → (∀ v : Int, 0 ≤ v → (ts = [.tup [.str "row", .lst []]] → v = 1) → (ts = [] → v = 0) → F (.int v) S) → ∀ x, (x = .lst ts ∨ x = .tup ts) → wp (den fu N i_l_size [x] S) F E := by
  intro j
  induction j with
  | zero =>
    intro ts N S F E ht hN hS hF x hx
    obtain ⟨m, rfl⟩ : ∃ m, N = m + 1 := ⟨N - 1, by omega⟩
    show wp (runDef false 4 (b_l_size fu (den fu m)) _ _) _ _
    simp only [b_l_size, wp_ok, wp_ret, wp_stuck, wp_bad, wp_bnd, wp_if, wp_fif, wps_ok_nx, wps_ok_rt, wps_ok_bk, wps_ok_ct, wps_ok_xc, wps_bad, wps_lft, wps_seq, wps_nil, wps_ret, wps_expr, wps_asg, wps_if, wp_run, wps_for, wps_while, wp_comp, wp_var, wp_C, wp_bin, wp_un, wp_T, wp_Tb, wp_asBl, wp_truthBl, wp_bAnd, wp_bOr, wp_bNot, wp_eIf, wp_eAnd, wp_eOr, wp_eNot, blCase_bl, wp_chain, wp_aNil, wp_aCons, wp_tup, wp_lst, wp_lstM, wp_call, wp_cl1, wp_cl2, wp_cl3, wp_cl4, wp_cl5, wp_meth, wp_isi, wp_oNone, wp_oSome, wp_sl, wp_it, wp_range1, wp_range2, wp_bYes, gEq_str, gNe_str, gEq_int, gNe_int, gEq_bl, gNe_bl, gIs_bl, gIsNot_bl, gAdd_int, gSub_int, gC_int, gI_int, gAdd_str, gAdd_tup, gAdd_lst, gNeg_int, gIx_tup, gIx_lst, gLen_tup, gLen_lst, gLen_str, gInt_int, gInt_bl, gTuple_lst, gTuple_tup, gList_lst, gList_tup, gSl_tup, gSl_lst, gSl_fl, gSl_str, srcL_tup, srcL_lst, srcL_fl, srcL_str, srcR1_int, typN, startR, List.map_cons, List.map_nil, List.length_cons, List.length_nil, Nat.reduceAdd, Nat.reduceSub, Nat.zero_add, Nat.sub_self, Nat.sub_zero, List.replicate_zero, List.replicate_succ, List.cons_append, List.nil_append, List.append_nil, List.getElem?_cons_zero, List.getElem?_cons_succ, List.set_cons_zero, List.set_cons_succ, List.set_nil, List.getElem?_nil, Option.some.injEq, exists_eq_left', exists_eq_left, exists_eq_right, reduceCtorEq, false_and, and_false, true_and, and_true, exists_false, exists_const, wipeR, Nat.zero_le, String.reduceEq, D.int.injEq, D.str.injEq, D.bl.injEq, atI_0, atI_1, atI_2, atI_3, atI_4, beq_self_eq_true, not_true_eq_false, not_false_eq_true, Int.cast_ofNat_Int, Int.reduceEq, Int.reduceLE, Int.reduceLT, Int.reduceAdd, Int.reduceSub, Int.reduceMul, Int.reduceNeg, if_true, if_false, ite_true, ite_false, Bool.false_eq_true, if_neg, if_pos, decide_eq_true_eq, Bool.not_eq_true', decide_eq_false_iff_not, eq_self_iff_true, decide_true, decide_false, Bool.not_true, Bool.not_false]
    have hsrc : ∀ FI E, wp (srcL x S) FI E ↔ FI (none, ts) S := by
      intro FI E; rcases hx with rfl | rfl <;> rfl
    simp only [hsrc]
    refine wps_forM (fun i ρ S' => S' = S ∧ ∃ (v : Int) (o o' : Option D), ρ = [some x, some (.int v), o, o'] ∧ 0 ≤ v ∧ (i = 0 → v = 0)) (fun _ _ _ _ => trivial) ?_ ?_ ⟨rfl, 0, none, none, rfl, Int.le_refl 0, fun _ => rfl⟩
    · rintro i d ρ S' hd ⟨rfl, v, o, o', rfl, hv, hv0⟩
      refine ⟨_, rfl, ?_⟩
      obtain ⟨z, rfl, _⟩ := ht d (List.mem_of_getElem? hd)
      simp only [ofString_inj, wp_ok, wp_ret, wp_stuck, wp_bad, wp_bnd, wp_if, wp_fif, wps_ok_nx, wps_ok_rt, wps_ok_bk, wps_ok_ct, wps_ok_xc, wps_bad, wps_lft, wps_seq, wps_nil, wps_ret, wps_expr, wps_asg, wps_if, wp_run, wps_for, wps_while, wp_comp, wp_var, wp_C, wp_bin, wp_un, wp_T, wp_Tb, wp_asBl, wp_truthBl, wp_bAnd, wp_bOr, wp_bNot, wp_eIf, wp_eAnd, wp_eOr, wp_eNot, blCase_bl, wp_chain, wp_aNil, wp_aCons, wp_tup, wp_lst, wp_lstM, wp_call, wp_cl1, wp_cl2, wp_cl3, wp_cl4, wp_cl5, wp_meth, wp_isi, wp_oNone, wp_oSome, wp_sl, wp_it, wp_range1, wp_range2, wp_bYes, gEq_str, gNe_str, gEq_int, gNe_int, gEq_bl, gNe_bl, gIs_bl, gIsNot_bl, gAdd_int, gSub_int, gC_int, gI_int, gAdd_str, gAdd_tup, gAdd_lst, gNeg_int, gIx_tup, gIx_lst, gLen_tup, gLen_lst, gLen_str, gInt_int, gInt_bl, gTuple_lst, gTuple_tup, gList_lst, gList_tup, gSl_tup, gSl_lst, gSl_fl, gSl_str, srcL_tup, srcL_lst, srcL_fl, srcL_str, srcR1_int, typN, startR, List.map_cons, List.map_nil, List.length_cons, List.length_nil, Nat.reduceAdd, Nat.reduceSub, Nat.zero_add, Nat.sub_self, Nat.sub_zero, List.replicate_zero, List.replicate_succ, List.cons_append, List.nil_append, List.append_nil, List.getElem?_cons_zero, List.getElem?_cons_succ, List.set_cons_zero, List.set_cons_succ, List.set_nil, List.getElem?_nil, Option.some.injEq, exists_eq_left', exists_eq_left, exists_eq_right, reduceCtorEq, false_and, and_false, true_and, and_true, exists_false, exists_const, wipeR, Nat.zero_le, String.reduceEq, D.int.injEq, D.str.injEq, D.bl.injEq, atI_0, atI_1, atI_2, atI_3, atI_4, beq_self_eq_true, not_true_eq_false, not_false_eq_true, Int.cast_ofNat_Int, Int.reduceEq, Int.reduceLE, Int.reduceLT, Int.reduceAdd, Int.reduceSub, Int.reduceMul, Int.reduceNeg, if_true, if_false, ite_true, ite_false, Bool.false_eq_true, if_neg, if_pos, decide_eq_true_eq, Bool.not_eq_true', decide_eq_false_iff_not, eq_self_iff_true, decide_true, decide_false, Bool.not_true, Bool.not_false]
      exact ⟨v + 1, some _, o', rfl, Int.add_nonneg hv (by decide), fun h => h.elim⟩
    · rintro ρ S' ⟨rfl, v, o, o', rfl, hv, hv0⟩
      simp only [fin_int hS, wp_ok, wp_ret, wp_stuck, wp_bad, wp_bnd, wp_if, wp_fif, wps_ok_nx, wps_ok_rt, wps_ok_bk, wps_ok_ct, wps_ok_xc, wps_bad, wps_lft, wps_seq, wps_nil, wps_ret, wps_expr, wps_asg, wps_if, wp_run, wps_for, wps_while, wp_comp, wp_var, wp_C, wp_bin, wp_un, wp_T, wp_Tb, wp_asBl, wp_truthBl, wp_bAnd, wp_bOr, wp_bNot, wp_eIf, wp_eAnd, wp_eOr, wp_eNot, blCase_bl, wp_chain, wp_aNil, wp_aCons, wp_tup, wp_lst, wp_lstM, wp_call, wp_cl1, wp_cl2, wp_cl3, wp_cl4, wp_cl5, wp_meth, wp_isi, wp_oNone, wp_oSome, wp_sl, wp_it, wp_range1, wp_range2, wp_bYes, gEq_str, gNe_str, gEq_int, gNe_int, gEq_bl, gNe_bl, gIs_bl, gIsNot_bl, gAdd_int, gSub_int, gC_int, gI_int, gAdd_str, gAdd_tup, gAdd_lst, gNeg_int, gIx_tup, gIx_lst, gLen_tup, gLen_lst, gLen_str, gInt_int, gInt_bl, gTuple_lst, gTuple_tup, gList_lst, gList_tup, gSl_tup, gSl_lst, gSl_fl, gSl_str, srcL_tup, srcL_lst, srcL_fl, srcL_str, srcR1_int, typN, startR, List.map_cons, List.map_nil, List.length_cons, List.length_nil, Nat.reduceAdd, Nat.reduceSub, Nat.zero_add, Nat.sub_self, Nat.sub_zero, List.replicate_zero, List.replicate_succ, List.cons_append, List.nil_append, List.append_nil, List.getElem?_cons_zero, List.getElem?_cons_succ, List.set_cons_zero, List.set_cons_succ, List.set_nil, List.getElem?_nil, Option.some.injEq, exists_eq_left', exists_eq_left, exists_eq_right, reduceCtorEq, false_and, and_false, true_and, and_true, exists_false, exists_const, wipeR, Nat.zero_le, String.reduceEq, D.int.injEq, D.str.injEq, D.bl.injEq, atI_0, atI_1, atI_2, atI_3, atI_4, beq_self_eq_true, not_true_eq_false, not_false_eq_true, Int.cast_ofNat_Int, Int.reduceEq, Int.reduceLE, Int.reduceLT, Int.reduceAdd, Int.reduceSub, Int.reduceMul, Int.reduceNeg, if_true, if_false, ite_true, ite_false, Bool.false_eq_true, if_neg, if_pos, decide_eq_true_eq, Bool.not_eq_true', decide_eq_false_iff_not, eq_self_iff_true, decide_true, decide_false, Bool.not_true, Bool.not_false]
      refine hF v hv (fun h => ?_) (fun h => hv0 (by rw [h]; rfl))
      have := ht (.tup [.str "row", .lst []]) (by rw [h]; simp)
      obtain ⟨z, e, _⟩ := this
      injection e with e; injection e with e1 e2; injection e1 with e1
      rw [ofString_inj] at e1; exact absurd e1 (by decide)
  | succ j ih =>
    intro ts N S F E ht hN hS hF x hx
    obtain ⟨m, rfl⟩ : ∃ m, N = m + 1 := ⟨N - 1, by omega⟩
    show wp (runDef false 4 (b_l_size fu (den fu m)) _ _) _ _
    simp only [b_l_size, wp_ok, wp_ret, wp_stuck, wp_bad, wp_bnd, wp_if, wp_fif, wps_ok_nx, wps_ok_rt, wps_ok_bk, wps_ok_ct, wps_ok_xc, wps_bad, wps_lft, wps_seq, wps_nil, wps_ret, wps_expr, wps_asg, wps_if, wp_run, wps_for, wps_while, wp_comp, wp_var, wp_C, wp_bin, wp_un, wp_T, wp_Tb, wp_asBl, wp_truthBl, wp_bAnd, wp_bOr, wp_bNot, wp_eIf, wp_eAnd, wp_eOr, wp_eNot, blCase_bl, wp_chain, wp_aNil, wp_aCons, wp_tup, wp_lst, wp_lstM, wp_call, wp_cl1, wp_cl2, wp_cl3, wp_cl4, wp_cl5, wp_meth, wp_isi, wp_oNone, wp_oSome, wp_sl, wp_it, wp_range1, wp_range2, wp_bYes, gEq_str, gNe_str, gEq_int, gNe_int, gEq_bl, gNe_bl, gIs_bl, gIsNot_bl, gAdd_int, gSub_int, gC_int, gI_int, gAdd_str, gAdd_tup, gAdd_lst, gNeg_int, gIx_tup, gIx_lst, gLen_tup, gLen_lst, gLen_str, gInt_int, gInt_bl, gTuple_lst, gTuple_tup, gList_lst, gList_tup, gSl_tup, gSl_lst, gSl_fl, gSl_str, srcL_tup, srcL_lst, srcL_fl, srcL_str, srcR1_int, typN, startR, List.map_cons, List.map_nil, List.length_cons, List.length_nil, Nat.reduceAdd, Nat.reduceSub, Nat.zero_add, Nat.sub_self, Nat.sub_zero, List.replicate_zero, List.replicate_succ, List.cons_append, List.nil_append, List.append_nil, List.getElem?_cons_zero, List.getElem?_cons_succ, List.set_cons_zero, List.set_cons_succ, List.set_nil, List.getElem?_nil, Option.some.injEq, exists_eq_left', exists_eq_left, exists_eq_right, reduceCtorEq, false_and, and_false, true_and, and_true, exists_false, exists_const, wipeR, Nat.zero_le, String.reduceEq, D.int.injEq, D.str.injEq, D.bl.injEq, atI_0, atI_1, atI_2, atI_3, atI_4, beq_self_eq_true, not_true_eq_false, not_false_eq_true, Int.cast_ofNat_Int, Int.reduceEq, Int.reduceLE, Int.reduceLT, Int.reduceAdd, Int.reduceSub, Int.reduceMul, Int.reduceNeg, if_true, if_false, ite_true, ite_false, Bool.false_eq_true, if_neg, if_pos, decide_eq_true_eq, Bool.not_eq_true', decide_eq_false_iff_not, eq_self_iff_true, decide_true, decide_false, Bool.not_true, Bool.not_false]
    have hsrc : ∀ FI E, wp (srcL x S) FI E ↔ FI (none, ts) S := by
      intro FI E; rcases hx with rfl | rfl <;> rfl
    simp only [hsrc]
    refine wps_forM (fun i ρ S' => S' = S ∧ ∃ (v : Int) (o o' : Option D), ρ = [some x, some (.int v), o, o'] ∧ 0 ≤ v ∧ (i = 0 → v = 0) ∧ (i = 1 → ts = [.tup [.str "row", .lst []]] → v = 1)) (fun _ _ _ _ => trivial) ?_ ?_ ⟨rfl, 0, none, none, rfl, Int.le_refl 0, fun _ => rfl, fun h => by omega⟩
    · rintro i d ρ S' hd ⟨rfl, v, o, o', rfl, hv, hv0, hv1⟩
      refine ⟨_, rfl, ?_⟩
      have hsingle : ts = [.tup [.str "row", .lst []]] → d = .tup [.str "row", .lst []] := fun h => by
        have hm := List.mem_of_getElem? hd
        rw [h] at hm
        simpa using hm
      rcases ht d (List.mem_of_getElem? hd) with (⟨z, rfl, _⟩ | ⟨ws, rfl, hl, hw⟩ | ⟨us, rfl, hl, hu⟩) | ⟨ws, rfl, hl, hw⟩
      · simp only [ofString_inj, wp_ok, wp_ret, wp_stuck, wp_bad, wp_bnd, wp_if, wp_fif, wps_ok_nx, wps_ok_rt, wps_ok_bk, wps_ok_ct, wps_ok_xc, wps_bad, wps_lft, wps_seq, wps_nil, wps_ret, wps_expr, wps_asg, wps_if, wp_run, wps_for, wps_while, wp_comp, wp_var, wp_C, wp_bin, wp_un, wp_T, wp_Tb, wp_asBl, wp_truthBl, wp_bAnd, wp_bOr, wp_bNot, wp_eIf, wp_eAnd, wp_eOr, wp_eNot, blCase_bl, wp_chain, wp_aNil, wp_aCons, wp_tup, wp_lst, wp_lstM, wp_call, wp_cl1, wp_cl2, wp_cl3, wp_cl4, wp_cl5, wp_meth, wp_isi, wp_oNone, wp_oSome, wp_sl, wp_it, wp_range1, wp_range2, wp_bYes, gEq_str, gNe_str, gEq_int, gNe_int, gEq_bl, gNe_bl, gIs_bl, gIsNot_bl, gAdd_int, gSub_int, gC_int, gI_int, gAdd_str, gAdd_tup, gAdd_lst, gNeg_int, gIx_tup, gIx_lst, gLen_tup, gLen_lst, gLen_str, gInt_int, gInt_bl, gTuple_lst, gTuple_tup, gList_lst, gList_tup, gSl_tup, gSl_lst, gSl_fl, gSl_str, srcL_tup, srcL_lst, srcL_fl, srcL_str, srcR1_int, typN, startR, List.map_cons, List.map_nil, List.length_cons, List.length_nil, Nat.reduceAdd, Nat.reduceSub, Nat.zero_add, Nat.sub_self, Nat.sub_zero, List.replicate_zero, List.replicate_succ, List.cons_append, List.nil_append, List.append_nil, List.getElem?_cons_zero, List.getElem?_cons_succ, List.set_cons_zero, List.set_cons_succ, List.set_nil, List.getElem?_nil, Option.some.injEq, exists_eq_left', exists_eq_left, exists_eq_right, reduceCtorEq, false_and, and_false, true_and, and_true, exists_false, exists_const, wipeR, Nat.zero_le, String.reduceEq, D.int.injEq, D.str.injEq, D.bl.injEq, atI_0, atI_1, atI_2, atI_3, atI_4, beq_self_eq_true, not_true_eq_false, not_false_eq_true, Int.cast_ofNat_Int, Int.reduceEq, Int.reduceLE, Int.reduceLT, Int.reduceAdd, Int.reduceSub, Int.reduceMul, Int.reduceNeg, if_true, if_false, ite_true, ite_false, Bool.false_eq_true, if_neg, if_pos, decide_eq_true_eq, Bool.not_eq_true', decide_eq_false_iff_not, eq_self_iff_true, decide_true, decide_false, Bool.not_true, Bool.not_false]
        refine ⟨v + 1, some _, o', rfl, Int.add_nonneg hv (by decide), (fun h => h.elim), fun _ h => ?_⟩
        have := hsingle h
        injection this with e; injection e with e1 e2; injection e1 with e1
        rw [ofString_inj] at e1; exact absurd e1 (by decide)
      · simp only [ofString_inj, wp_ok, wp_ret, wp_stuck, wp_bad, wp_bnd, wp_if, wp_fif, wps_ok_nx, wps_ok_rt, wps_ok_bk, wps_ok_ct, wps_ok_xc, wps_bad, wps_lft, wps_seq, wps_nil, wps_ret, wps_expr, wps_asg, wps_if, wp_run, wps_for, wps_while, wp_comp, wp_var, wp_C, wp_bin, wp_un, wp_T, wp_Tb, wp_asBl, wp_truthBl, wp_bAnd, wp_bOr, wp_bNot, wp_eIf, wp_eAnd, wp_eOr, wp_eNot, blCase_bl, wp_chain, wp_aNil, wp_aCons, wp_tup, wp_lst, wp_lstM, wp_call, wp_cl1, wp_cl2, wp_cl3, wp_cl4, wp_cl5, wp_meth, wp_isi, wp_oNone, wp_oSome, wp_sl, wp_it, wp_range1, wp_range2, wp_bYes, gEq_str, gNe_str, gEq_int, gNe_int, gEq_bl, gNe_bl, gIs_bl, gIsNot_bl, gAdd_int, gSub_int, gC_int, gI_int, gAdd_str, gAdd_tup, gAdd_lst, gNeg_int, gIx_tup, gIx_lst, gLen_tup, gLen_lst, gLen_str, gInt_int, gInt_bl, gTuple_lst, gTuple_tup, gList_lst, gList_tup, gSl_tup, gSl_lst, gSl_fl, gSl_str, srcL_tup, srcL_lst, srcL_fl, srcL_str, srcR1_int, typN, startR, List.map_cons, List.map_nil, List.length_cons, List.length_nil, Nat.reduceAdd, Nat.reduceSub, Nat.zero_add, Nat.sub_self, Nat.sub_zero, List.replicate_zero, List.replicate_succ, List.cons_append, List.nil_append, List.append_nil, List.getElem?_cons_zero, List.getElem?_cons_succ, List.set_cons_zero, List.set_cons_succ, List.set_nil, List.getElem?_nil, Option.some.injEq, exists_eq_left', exists_eq_left, exists_eq_right, reduceCtorEq, false_and, and_false, true_and, and_true, exists_false, exists_const, wipeR, Nat.zero_le, String.reduceEq, D.int.injEq, D.str.injEq, D.bl.injEq, atI_0, atI_1, atI_2, atI_3, atI_4, beq_self_eq_true, not_true_eq_false, not_false_eq_true, Int.cast_ofNat_Int, Int.reduceEq, Int.reduceLE, Int.reduceLT, Int.reduceAdd, Int.reduceSub, Int.reduceMul, Int.reduceNeg, if_true, if_false, ite_true, ite_false, Bool.false_eq_true, if_neg, if_pos, decide_eq_true_eq, Bool.not_eq_true', decide_eq_false_iff_not, eq_self_iff_true, decide_true, decide_false, Bool.not_true, Bool.not_false]
        refine ⟨small_line (by omega), comp_pushed (fun d => rfl) hw ?_⟩
        refine ih _ _ _ _ _ (fun t h => PZ.of (pushed_good hw t h)) (by omega) hS (fun w hw0 _ _ => ?_) _ (.inl rfl)
        simp only [wp_ok, wp_ret, wp_stuck, wp_bad, wp_bnd, wp_if, wp_fif, wps_ok_nx, wps_ok_rt, wps_ok_bk, wps_ok_ct, wps_ok_xc, wps_bad, wps_lft, wps_seq, wps_nil, wps_ret, wps_expr, wps_asg, wps_if, wp_run, wps_for, wps_while, wp_comp, wp_var, wp_C, wp_bin, wp_un, wp_T, wp_Tb, wp_asBl, wp_truthBl, wp_bAnd, wp_bOr, wp_bNot, wp_eIf, wp_eAnd, wp_eOr, wp_eNot, blCase_bl, wp_chain, wp_aNil, wp_aCons, wp_tup, wp_lst, wp_lstM, wp_call, wp_cl1, wp_cl2, wp_cl3, wp_cl4, wp_cl5, wp_meth, wp_isi, wp_oNone, wp_oSome, wp_sl, wp_it, wp_range1, wp_range2, wp_bYes, gEq_str, gNe_str, gEq_int, gNe_int, gEq_bl, gNe_bl, gIs_bl, gIsNot_bl, gAdd_int, gSub_int, gC_int, gI_int, gAdd_str, gAdd_tup, gAdd_lst, gNeg_int, gIx_tup, gIx_lst, gLen_tup, gLen_lst, gLen_str, gInt_int, gInt_bl, gTuple_lst, gTuple_tup, gList_lst, gList_tup, gSl_tup, gSl_lst, gSl_fl, gSl_str, srcL_tup, srcL_lst, srcL_fl, srcL_str, srcR1_int, typN, startR, List.map_cons, List.map_nil, List.length_cons, List.length_nil, Nat.reduceAdd, Nat.reduceSub, Nat.zero_add, Nat.sub_self, Nat.sub_zero, List.replicate_zero, List.replicate_succ, List.cons_append, List.nil_append, List.append_nil, List.getElem?_cons_zero, List.getElem?_cons_succ, List.set_cons_zero, List.set_cons_succ, List.set_nil, List.getElem?_nil, Option.some.injEq, exists_eq_left', exists_eq_left, exists_eq_right, reduceCtorEq, false_and, and_false, true_and, and_true, exists_false, exists_const, wipeR, Nat.zero_le, String.reduceEq, D.int.injEq, D.str.injEq, D.bl.injEq, atI_0, atI_1, atI_2, atI_3, atI_4, beq_self_eq_true, not_true_eq_false, not_false_eq_true, Int.cast_ofNat_Int, Int.reduceEq, Int.reduceLE, Int.reduceLT, Int.reduceAdd, Int.reduceSub, Int.reduceMul, Int.reduceNeg, if_true, if_false, ite_true, ite_false, Bool.false_eq_true, if_neg, if_pos, decide_eq_true_eq, Bool.not_eq_true', decide_eq_false_iff_not, eq_self_iff_true, decide_true, decide_false, Bool.not_true, Bool.not_false]
        refine ⟨_, some _, o', rfl, by omega, (fun h => h.elim), fun _ h => ?_⟩
        have := hsingle h
        injection this with e; injection e with e1 e2; injection e2 with e2; cases e2
      · simp only [ofString_inj, wp_ok, wp_ret, wp_stuck, wp_bad, wp_bnd, wp_if, wp_fif, wps_ok_nx, wps_ok_rt, wps_ok_bk, wps_ok_ct, wps_ok_xc, wps_bad, wps_lft, wps_seq, wps_nil, wps_ret, wps_expr, wps_asg, wps_if, wp_run, wps_for, wps_while, wp_comp, wp_var, wp_C, wp_bin, wp_un, wp_T, wp_Tb, wp_asBl, wp_truthBl, wp_bAnd, wp_bOr, wp_bNot, wp_eIf, wp_eAnd, wp_eOr, wp_eNot, blCase_bl, wp_chain, wp_aNil, wp_aCons, wp_tup, wp_lst, wp_lstM, wp_call, wp_cl1, wp_cl2, wp_cl3, wp_cl4, wp_cl5, wp_meth, wp_isi, wp_oNone, wp_oSome, wp_sl, wp_it, wp_range1, wp_range2, wp_bYes, gEq_str, gNe_str, gEq_int, gNe_int, gEq_bl, gNe_bl, gIs_bl, gIsNot_bl, gAdd_int, gSub_int, gC_int, gI_int, gAdd_str, gAdd_tup, gAdd_lst, gNeg_int, gIx_tup, gIx_lst, gLen_tup, gLen_lst, gLen_str, gInt_int, gInt_bl, gTuple_lst, gTuple_tup, gList_lst, gList_tup, gSl_tup, gSl_lst, gSl_fl, gSl_str, srcL_tup, srcL_lst, srcL_fl, srcL_str, srcR1_int, typN, startR, List.map_cons, List.map_nil, List.length_cons, List.length_nil, Nat.reduceAdd, Nat.reduceSub, Nat.zero_add, Nat.sub_self, Nat.sub_zero, List.replicate_zero, List.replicate_succ, List.cons_append, List.nil_append, List.append_nil, List.getElem?_cons_zero, List.getElem?_cons_succ, List.set_cons_zero, List.set_cons_succ, List.set_nil, List.getElem?_nil, Option.some.injEq, exists_eq_left', exists_eq_left, exists_eq_right, reduceCtorEq, false_and, and_false, true_and, and_true, exists_false, exists_const, wipeR, Nat.zero_le, String.reduceEq, D.int.injEq, D.str.injEq, D.bl.injEq, atI_0, atI_1, atI_2, atI_3, atI_4, beq_self_eq_true, not_true_eq_false, not_false_eq_true, Int.cast_ofNat_Int, Int.reduceEq, Int.reduceLE, Int.reduceLT, Int.reduceAdd, Int.reduceSub, Int.reduceMul, Int.reduceNeg, if_true, if_false, ite_true, ite_false, Bool.false_eq_true, if_neg, if_pos, decide_eq_true_eq, Bool.not_eq_true', decide_eq_false_iff_not, eq_self_iff_true, decide_true, decide_false, Bool.not_true, Bool.not_false]
        refine ih us _ _ _ _ (fun t h => PZ.of (hu t h)) (by omega) hS (fun w hw0 _ _ => ?_) _ (.inr rfl)
        simp only [ofString_inj, wp_ok, wp_ret, wp_stuck, wp_bad, wp_bnd, wp_if, wp_fif, wps_ok_nx, wps_ok_rt, wps_ok_bk, wps_ok_ct, wps_ok_xc, wps_bad, wps_lft, wps_seq, wps_nil, wps_ret, wps_expr, wps_asg, wps_if, wp_run, wps_for, wps_while, wp_comp, wp_var, wp_C, wp_bin, wp_un, wp_T, wp_Tb, wp_asBl, wp_truthBl, wp_bAnd, wp_bOr, wp_bNot, wp_eIf, wp_eAnd, wp_eOr, wp_eNot, blCase_bl, wp_chain, wp_aNil, wp_aCons, wp_tup, wp_lst, wp_lstM, wp_call, wp_cl1, wp_cl2, wp_cl3, wp_cl4, wp_cl5, wp_meth, wp_isi, wp_oNone, wp_oSome, wp_sl, wp_it, wp_range1, wp_range2, wp_bYes, gEq_str, gNe_str, gEq_int, gNe_int, gEq_bl, gNe_bl, gIs_bl, gIsNot_bl, gAdd_int, gSub_int, gC_int, gI_int, gAdd_str, gAdd_tup, gAdd_lst, gNeg_int, gIx_tup, gIx_lst, gLen_tup, gLen_lst, gLen_str, gInt_int, gInt_bl, gTuple_lst, gTuple_tup, gList_lst, gList_tup, gSl_tup, gSl_lst, gSl_fl, gSl_str, srcL_tup, srcL_lst, srcL_fl, srcL_str, srcR1_int, typN, startR, List.map_cons, List.map_nil, List.length_cons, List.length_nil, Nat.reduceAdd, Nat.reduceSub, Nat.zero_add, Nat.sub_self, Nat.sub_zero, List.replicate_zero, List.replicate_succ, List.cons_append, List.nil_append, List.append_nil, List.getElem?_cons_zero, List.getElem?_cons_succ, List.set_cons_zero, List.set_cons_succ, List.set_nil, List.getElem?_nil, Option.some.injEq, exists_eq_left', exists_eq_left, exists_eq_right, reduceCtorEq, false_and, and_false, true_and, and_true, exists_false, exists_const, wipeR, Nat.zero_le, String.reduceEq, D.int.injEq, D.str.injEq, D.bl.injEq, atI_0, atI_1, atI_2, atI_3, atI_4, beq_self_eq_true, not_true_eq_false, not_false_eq_true, Int.cast_ofNat_Int, Int.reduceEq, Int.reduceLE, Int.reduceLT, Int.reduceAdd, Int.reduceSub, Int.reduceMul, Int.reduceNeg, if_true, if_false, ite_true, ite_false, Bool.false_eq_true, if_neg, if_pos, decide_eq_true_eq, Bool.not_eq_true', decide_eq_false_iff_not, eq_self_iff_true, decide_true, decide_false, Bool.not_true, Bool.not_false]
        refine ⟨_, some _, o', rfl, by omega, (fun h => h.elim), fun _ h => ?_⟩
        have := hsingle h
        injection this with e; injection e with e1 e2; injection e1 with e1
        rw [ofString_inj] at e1; exact absurd e1 (by decide)
      · have hw' : ∀ w ∈ ws, WdG j w := fun w h => by
          obtain ⟨j', e, q⟩ := hw w h
          have : j' = j := by omega
          rw [← this]; exact q
        simp only [ofString_inj, wp_ok, wp_ret, wp_stuck, wp_bad, wp_bnd, wp_if, wp_fif, wps_ok_nx, wps_ok_rt, wps_ok_bk, wps_ok_ct, wps_ok_xc, wps_bad, wps_lft, wps_seq, wps_nil, wps_ret, wps_expr, wps_asg, wps_if, wp_run, wps_for, wps_while, wp_comp, wp_var, wp_C, wp_bin, wp_un, wp_T, wp_Tb, wp_asBl, wp_truthBl, wp_bAnd, wp_bOr, wp_bNot, wp_eIf, wp_eAnd, wp_eOr, wp_eNot, blCase_bl, wp_chain, wp_aNil, wp_aCons, wp_tup, wp_lst, wp_lstM, wp_call, wp_cl1, wp_cl2, wp_cl3, wp_cl4, wp_cl5, wp_meth, wp_isi, wp_oNone, wp_oSome, wp_sl, wp_it, wp_range1, wp_range2, wp_bYes, gEq_str, gNe_str, gEq_int, gNe_int, gEq_bl, gNe_bl, gIs_bl, gIsNot_bl, gAdd_int, gSub_int, gC_int, gI_int, gAdd_str, gAdd_tup, gAdd_lst, gNeg_int, gIx_tup, gIx_lst, gLen_tup, gLen_lst, gLen_str, gInt_int, gInt_bl, gTuple_lst, gTuple_tup, gList_lst, gList_tup, gSl_tup, gSl_lst, gSl_fl, gSl_str, srcL_tup, srcL_lst, srcL_fl, srcL_str, srcR1_int, typN, startR, List.map_cons, List.map_nil, List.length_cons, List.length_nil, Nat.reduceAdd, Nat.reduceSub, Nat.zero_add, Nat.sub_self, Nat.sub_zero, List.replicate_zero, List.replicate_succ, List.cons_append, List.nil_append, List.append_nil, List.getElem?_cons_zero, List.getElem?_cons_succ, List.set_cons_zero, List.set_cons_succ, List.set_nil, List.getElem?_nil, Option.some.injEq, exists_eq_left', exists_eq_left, exists_eq_right, reduceCtorEq, false_and, and_false, true_and, and_true, exists_false, exists_const, wipeR, Nat.zero_le, String.reduceEq, D.int.injEq, D.str.injEq, D.bl.injEq, atI_0, atI_1, atI_2, atI_3, atI_4, beq_self_eq_true, not_true_eq_false, not_false_eq_true, Int.cast_ofNat_Int, Int.reduceEq, Int.reduceLE, Int.reduceLT, Int.reduceAdd, Int.reduceSub, Int.reduceMul, Int.reduceNeg, if_true, if_false, ite_true, ite_false, Bool.false_eq_true, if_neg, if_pos, decide_eq_true_eq, Bool.not_eq_true', decide_eq_false_iff_not, eq_self_iff_true, decide_true, decide_false, Bool.not_true, Bool.not_false]
        refine ⟨small_line (by omega), comp_pushed (fun d => rfl) hw' ?_⟩
        refine ih _ _ _ _ _ (fun t h => PZ.of (pushed_good hw' t h)) (by omega) hS (fun w hw0 _ hn => ?_) _ (.inl rfl)
        simp only [wp_ok, wp_ret, wp_stuck, wp_bad, wp_bnd, wp_if, wp_fif, wps_ok_nx, wps_ok_rt, wps_ok_bk, wps_ok_ct, wps_ok_xc, wps_bad, wps_lft, wps_seq, wps_nil, wps_ret, wps_expr, wps_asg, wps_if, wp_run, wps_for, wps_while, wp_comp, wp_var, wp_C, wp_bin, wp_un, wp_T, wp_Tb, wp_asBl, wp_truthBl, wp_bAnd, wp_bOr, wp_bNot, wp_eIf, wp_eAnd, wp_eOr, wp_eNot, blCase_bl, wp_chain, wp_aNil, wp_aCons, wp_tup, wp_lst, wp_lstM, wp_call, wp_cl1, wp_cl2, wp_cl3, wp_cl4, wp_cl5, wp_meth, wp_isi, wp_oNone, wp_oSome, wp_sl, wp_it, wp_range1, wp_range2, wp_bYes, gEq_str, gNe_str, gEq_int, gNe_int, gEq_bl, gNe_bl, gIs_bl, gIsNot_bl, gAdd_int, gSub_int, gC_int, gI_int, gAdd_str, gAdd_tup, gAdd_lst, gNeg_int, gIx_tup, gIx_lst, gLen_tup, gLen_lst, gLen_str, gInt_int, gInt_bl, gTuple_lst, gTuple_tup, gList_lst, gList_tup, gSl_tup, gSl_lst, gSl_fl, gSl_str, srcL_tup, srcL_lst, srcL_fl, srcL_str, srcR1_int, typN, startR, List.map_cons, List.map_nil, List.length_cons, List.length_nil, Nat.reduceAdd, Nat.reduceSub, Nat.zero_add, Nat.sub_self, Nat.sub_zero, List.replicate_zero, List.replicate_succ, List.cons_append, List.nil_append, List.append_nil, List.getElem?_cons_zero, List.getElem?_cons_succ, List.set_cons_zero, List.set_cons_succ, List.set_nil, List.getElem?_nil, Option.some.injEq, exists_eq_left', exists_eq_left, exists_eq_right, reduceCtorEq, false_and, and_false, true_and, and_true, exists_false, exists_const, wipeR, Nat.zero_le, String.reduceEq, D.int.injEq, D.str.injEq, D.bl.injEq, atI_0, atI_1, atI_2, atI_3, atI_4, beq_self_eq_true, not_true_eq_false, not_false_eq_true, Int.cast_ofNat_Int, Int.reduceEq, Int.reduceLE, Int.reduceLT, Int.reduceAdd, Int.reduceSub, Int.reduceMul, Int.reduceNeg, if_true, if_false, ite_true, ite_false, Bool.false_eq_true, if_neg, if_pos, decide_eq_true_eq, Bool.not_eq_true', decide_eq_false_iff_not, eq_self_iff_true, decide_true, decide_false, Bool.not_true, Bool.not_false]
        refine ⟨_, some _, o', rfl, by omega, (fun h => h.elim), fun hi h => ?_⟩
        have := hsingle h
        injection this with e; injection e with e1 e2; injection e2 with e2; injection e2 with e2
        subst e2
        have h0 := hv0 (by omega)
        have hz := hn rfl
        subst h0 hz
        rfl
    · rintro ρ S' ⟨rfl, v, o, o', rfl, hv, hv0, hv1⟩
      simp only [fin_int hS, wp_ok, wp_ret, wp_stuck, wp_bad, wp_bnd, wp_if, wp_fif, wps_ok_nx, wps_ok_rt, wps_ok_bk, wps_ok_ct, wps_ok_xc, wps_bad, wps_lft, wps_seq, wps_nil, wps_ret, wps_expr, wps_asg, wps_if, wp_run, wps_for, wps_while, wp_comp, wp_var, wp_C, wp_bin, wp_un, wp_T, wp_Tb, wp_asBl, wp_truthBl, wp_bAnd, wp_bOr, wp_bNot, wp_eIf, wp_eAnd, wp_eOr, wp_eNot, blCase_bl, wp_chain, wp_aNil, wp_aCons, wp_tup, wp_lst, wp_lstM, wp_call, wp_cl1, wp_cl2, wp_cl3, wp_cl4, wp_cl5, wp_meth, wp_isi, wp_oNone, wp_oSome, wp_sl, wp_it, wp_range1, wp_range2, wp_bYes, gEq_str, gNe_str, gEq_int, gNe_int, gEq_bl, gNe_bl, gIs_bl, gIsNot_bl, gAdd_int, gSub_int, gC_int, gI_int, gAdd_str, gAdd_tup, gAdd_lst, gNeg_int, gIx_tup, gIx_lst, gLen_tup, gLen_lst, gLen_str, gInt_int, gInt_bl, gTuple_lst, gTuple_tup, gList_lst, gList_tup, gSl_tup, gSl_lst, gSl_fl, gSl_str, srcL_tup, srcL_lst, srcL_fl, srcL_str, srcR1_int, typN, startR, List.map_cons, List.map_nil, List.length_cons, List.length_nil, Nat.reduceAdd, Nat.reduceSub, Nat.zero_add, Nat.sub_self, Nat.sub_zero, List.replicate_zero, List.replicate_succ, List.cons_append, List.nil_append, List.append_nil, List.getElem?_cons_zero, List.getElem?_cons_succ, List.set_cons_zero, List.set_cons_succ, List.set_nil, List.getElem?_nil, Option.some.injEq, exists_eq_left', exists_eq_left, exists_eq_right, reduceCtorEq, false_and, and_false, true_and, and_true, exists_false, exists_const, wipeR, Nat.zero_le, String.reduceEq, D.int.injEq, D.str.injEq, D.bl.injEq, atI_0, atI_1, atI_2, atI_3, atI_4, beq_self_eq_true, not_true_eq_false, not_false_eq_true, Int.cast_ofNat_Int, Int.reduceEq, Int.reduceLE, Int.reduceLT, Int.reduceAdd, Int.reduceSub, Int.reduceMul, Int.reduceNeg, if_true, if_false, ite_true, ite_false, Bool.false_eq_true, if_neg, if_pos, decide_eq_true_eq, Bool.not_eq_true', decide_eq_false_iff_not, eq_self_iff_true, decide_true, decide_false, Bool.not_true, Bool.not_false]
      refine hF v hv (fun h => hv1 (by rw [h]; rfl) h) (fun h => hv0 (by rw [h]; rfl))
/-! words cut -/
theorem cut_ok {j : Nat} {ws : List D} {N : Nat} (hN : j + 5 ≤ N) (hfu : ws.length + 2 ≤ fu) (hl : ws.length ≤ 1000) (hw : ∀ w ∈ ws, WdG j w) (hS : WF S) (hF : ∀ vs : List D, vs.length ≤ 1000 → (∀ w ∈ vs, WdG j w) → F (.tup vs) S) : wp (den fu N i_l_cut [.lst ws, .int 24] S) F E := by
  obtain ⟨m, rfl⟩ : ∃ m, N = m + 1 := ⟨N - 1, by omega⟩
  show wp (runDef false 2 (b_l_cut fu (den fu m)) _ _) _ _
  simp only [b_l_cut, wp_ok, wp_ret, wp_stuck, wp_bad, wp_bnd, wp_if, wp_fif, wps_ok_nx, wps_ok_rt, wps_ok_bk, wps_ok_ct, wps_ok_xc, wps_bad, wps_lft, wps_seq, wps_nil, wps_ret, wps_expr, wps_asg, wps_if, wp_run, wps_for, wps_while, wp_comp, wp_var, wp_C, wp_bin, wp_un, wp_T, wp_Tb, wp_asBl, wp_truthBl, wp_bAnd, wp_bOr, wp_bNot, wp_eIf, wp_eAnd, wp_eOr, wp_eNot, blCase_bl, wp_chain, wp_aNil, wp_aCons, wp_tup, wp_lst, wp_lstM, wp_call, wp_cl1, wp_cl2, wp_cl3, wp_cl4, wp_cl5, wp_meth, wp_isi, wp_oNone, wp_oSome, wp_sl, wp_it, wp_range1, wp_range2, wp_bYes, gEq_str, gNe_str, gEq_int, gNe_int, gEq_bl, gNe_bl, gIs_bl, gIsNot_bl, gAdd_int, gSub_int, gC_int, gI_int, gAdd_str, gAdd_tup, gAdd_lst, gNeg_int, gIx_tup, gIx_lst, gLen_tup, gLen_lst, gLen_str, gInt_int, gInt_bl, gTuple_lst, gTuple_tup, gList_lst, gList_tup, gSl_tup, gSl_lst, gSl_fl, gSl_str, srcL_tup, srcL_lst, srcL_fl, srcL_str, srcR1_int, typN, startR, List.map_cons, List.map_nil, List.length_cons, List.length_nil, Nat.reduceAdd, Nat.reduceSub, Nat.zero_add, Nat.sub_self, Nat.sub_zero, List.replicate_zero, List.replicate_succ, List.cons_append, List.nil_append, List.append_nil, List.getElem?_cons_zero, List.getElem?_cons_succ, List.set_cons_zero, List.set_cons_succ, List.set_nil, List.getElem?_nil, Option.some.injEq, exists_eq_left', exists_eq_left, exists_eq_right, reduceCtorEq, false_and, and_false, true_and, and_true, exists_false, exists_const, wipeR, Nat.zero_le, String.reduceEq, D.int.injEq, D.str.injEq, D.bl.injEq, atI_0, atI_1, atI_2, atI_3, atI_4, beq_self_eq_true, not_true_eq_false, not_false_eq_true, Int.cast_ofNat_Int, Int.reduceEq, Int.reduceLE, Int.reduceLT, Int.reduceAdd, Int.reduceSub, Int.reduceMul, Int.reduceNeg, if_true, if_false, ite_true, ite_false, Bool.false_eq_true, if_neg, if_pos, decide_eq_true_eq, Bool.not_eq_true', decide_eq_false_iff_not, eq_self_iff_true, decide_true, decide_false, Bool.not_true, Bool.not_false]
  refine wps_whileM (fun i ρ S' => S' = S ∧ ∃ vs : List D, ρ = [some (.lst vs), some (.int 24)] ∧ vs.length = i ∧ i ≤ ws.length ∧ ∀ w ∈ vs, WdG j w) ?_ ws.length (by omega) ⟨rfl, ws, rfl, rfl, Nat.le_refl _, hw⟩
  rintro i ρ S' ⟨rfl, vs, rfl, rfl, hi, hv⟩
  refine ⟨by omega, ?_⟩
  simp only [wp_ok, wp_ret, wp_stuck, wp_bad, wp_bnd, wp_if, wp_fif, wps_ok_nx, wps_ok_rt, wps_ok_bk, wps_ok_ct, wps_ok_xc, wps_bad, wps_lft, wps_seq, wps_nil, wps_ret, wps_expr, wps_asg, wps_if, wp_run, wps_for, wps_while, wp_comp, wp_var, wp_C, wp_bin, wp_un, wp_T, wp_Tb, wp_asBl, wp_truthBl, wp_bAnd, wp_bOr, wp_bNot, wp_eIf, wp_eAnd, wp_eOr, wp_eNot, blCase_bl, wp_chain, wp_aNil, wp_aCons, wp_tup, wp_lst, wp_lstM, wp_call, wp_cl1, wp_cl2, wp_cl3, wp_cl4, wp_cl5, wp_meth, wp_isi, wp_oNone, wp_oSome, wp_sl, wp_it, wp_range1, wp_range2, wp_bYes, gEq_str, gNe_str, gEq_int, gNe_int, gEq_bl, gNe_bl, gIs_bl, gIsNot_bl, gAdd_int, gSub_int, gC_int, gI_int, gAdd_str, gAdd_tup, gAdd_lst, gNeg_int, gIx_tup, gIx_lst, gLen_tup, gLen_lst, gLen_str, gInt_int, gInt_bl, gTuple_lst, gTuple_tup, gList_lst, gList_tup, gSl_tup, gSl_lst, gSl_fl, gSl_str, srcL_tup, srcL_lst, srcL_fl, srcL_str, srcR1_int, typN, startR, List.map_cons, List.map_nil, List.length_cons, List.length_nil, Nat.reduceAdd, Nat.reduceSub, Nat.zero_add, Nat.sub_self, Nat.sub_zero, List.replicate_zero, List.replicate_succ, List.cons_append, List.nil_append, List.append_nil, List.getElem?_cons_zero, List.getElem?_cons_succ, List.set_cons_zero, List.set_cons_succ, List.set_nil, List.getElem?_nil, Option.some.injEq, exists_eq_left', exists_eq_left, exists_eq_right, reduceCtorEq, false_and, and_false, true_and, and_true, exists_false, exists_const, wipeR, Nat.zero_le, String.reduceEq, D.int.injEq, D.str.injEq, D.bl.injEq, atI_0, atI_1, atI_2, atI_3, atI_4, beq_self_eq_true, not_true_eq_false, not_false_eq_true, Int.cast_ofNat_Int, Int.reduceEq, Int.reduceLE, Int.reduceLT, Int.reduceAdd, Int.reduceSub, Int.reduceMul, Int.reduceNeg, if_true, if_false, ite_true, ite_false, Bool.false_eq_true, if_neg, if_pos, decide_eq_true_eq, Bool.not_eq_true', decide_eq_false_iff_not, eq_self_iff_true, decide_true, decide_false, Bool.not_true, Bool.not_false]
  refine ⟨small_line (by decide), small_line (by decide), ?_⟩
  refine size_ok (j + 1) _ _ _ _ _ (fun t h => ?_) (by omega) hS (fun v hv0 hv1 _ => ?_) _ (.inl rfl)
  · simp only [List.mem_singleton] at h
    exact .inr ⟨vs, h, by omega, fun w h => ⟨j, rfl, hv w h⟩⟩
  · simp only [wp_ok, wp_ret, wp_stuck, wp_bad, wp_bnd, wp_if, wp_fif, wps_ok_nx, wps_ok_rt, wps_ok_bk, wps_ok_ct, wps_ok_xc, wps_bad, wps_lft, wps_seq, wps_nil, wps_ret, wps_expr, wps_asg, wps_if, wp_run, wps_for, wps_while, wp_comp, wp_var, wp_C, wp_bin, wp_un, wp_T, wp_Tb, wp_asBl, wp_truthBl, wp_bAnd, wp_bOr, wp_bNot, wp_eIf, wp_eAnd, wp_eOr, wp_eNot, blCase_bl, wp_chain, wp_aNil, wp_aCons, wp_tup, wp_lst, wp_lstM, wp_call, wp_cl1, wp_cl2, wp_cl3, wp_cl4, wp_cl5, wp_meth, wp_isi, wp_oNone, wp_oSome, wp_sl, wp_it, wp_range1, wp_range2, wp_bYes, gEq_str, gNe_str, gEq_int, gNe_int, gEq_bl, gNe_bl, gIs_bl, gIsNot_bl, gAdd_int, gSub_int, gC_int, gI_int, gAdd_str, gAdd_tup, gAdd_lst, gNeg_int, gIx_tup, gIx_lst, gLen_tup, gLen_lst, gLen_str, gInt_int, gInt_bl, gTuple_lst, gTuple_tup, gList_lst, gList_tup, gSl_tup, gSl_lst, gSl_fl, gSl_str, srcL_tup, srcL_lst, srcL_fl, srcL_str, srcR1_int, typN, startR, List.map_cons, List.map_nil, List.length_cons, List.length_nil, Nat.reduceAdd, Nat.reduceSub, Nat.zero_add, Nat.sub_self, Nat.sub_zero, List.replicate_zero, List.replicate_succ, List.cons_append, List.nil_append, List.append_nil, List.getElem?_cons_zero, List.getElem?_cons_succ, List.set_cons_zero, List.set_cons_succ, List.set_nil, List.getElem?_nil, Option.some.injEq, exists_eq_left', exists_eq_left, exists_eq_right, reduceCtorEq, false_and, and_false, true_and, and_true, exists_false, exists_const, wipeR, Nat.zero_le, String.reduceEq, D.int.injEq, D.str.injEq, D.bl.injEq, atI_0, atI_1, atI_2, atI_3, atI_4, beq_self_eq_true, not_true_eq_false, not_false_eq_true, Int.cast_ofNat_Int, Int.reduceEq, Int.reduceLE, Int.reduceLT, Int.reduceAdd, Int.reduceSub, Int.reduceMul, Int.reduceNeg, if_true, if_false, ite_true, ite_false, Bool.false_eq_true, if_neg, if_pos, decide_eq_true_eq, Bool.not_eq_true', decide_eq_false_iff_not, eq_self_iff_true, decide_true, decide_false, Bool.not_true, Bool.not_false]
    by_cases hgt : 24 < v
    · rw [if_pos hgt]
      have hne : vs ≠ [] := fun h => by subst h; have := hv1 rfl; omega
      have hpos : 0 < vs.length := List.length_pos_iff.mpr hne
      refine ⟨vs.length - 1, by omega, ?_⟩
      have e : cutD vs none (some (-1)) = vs.dropLast := by
        unfold cutD
        have e1 : HT.sIx vs.length 0 none = 0 := rfl
        have e2 : HT.sIx vs.length vs.length (some (-1)) = vs.length - 1 := by
          have e3 : HT.sIx vs.length vs.length (some (-1)) = ((-1 : Int) + (vs.length : Int)).toNat := rfl
          rw [e3]; omega
        rw [e1, e2, List.dropLast_eq_take]; simp
      refine ⟨vs.dropLast, by rw [e], by simp, by omega, fun w h => hv w (List.dropLast_subset _ h)⟩
    · rw [if_neg hgt]
      have htr : tr (.tup vs) := by
        have : D.los 0 vs = true := los_iff vs |>.mpr fun w hw => by
          rcases hv w hw with q | ⟨t, rfl, q⟩
          · exact q.tr
          · have := ThG.tr q
            simp only [DL.tr, D.lo, D.los, Bool.and_true, Bool.true_and] at this ⊢
            exact this
        simp only [DL.tr, D.lo]; exact this
      exact fin_same hS htr rfl (hF vs (by omega) hv)
end K63

namespace K63
open PySem L2 DL
variable {fu n k : Nat} {S S0 : Sto} {F : D → Sto → Prop} {E : Exc → Sto → Prop}
/-! what is drawn at random -/
theorem gIx_sign {z : Str} {j : Int} : wp (gIx (.str z) (.int j) S) F E ↔ z.length ≤ sizeLine ∧ ∃ c, atI z.cps.toList j = some c ∧ F (.str ⟨#[c]⟩) S := by
  unfold gIx
  by_cases h : z.length ≤ sizeLine
  · simp only [if_pos h]
    cases e : atI z.cps.toList j with
    | some c => exact ⟨fun q => ⟨h, c, rfl, q⟩, fun ⟨_, c', e, q⟩ => by cases e; exact q⟩
    | none => exact ⟨fun q => q.elim, fun ⟨_, c', e, q⟩ => by cases e⟩
  · simp only [if_neg h]
    exact ⟨fun q => q.elim, fun q => h q.1⟩
/-- a comprehension that draws -/
theorem comp_gen {all : List D} {i : Nat} {el : EvD} {ρ : Rho} {FF : List D → Sto → Prop} (P : D → Prop) (h0 : DK k S0 S)
    (hel : ∀ d ∈ all, ∀ S', DK k S0 S' → wp (el (ρ.set i (some d)) S') (fun y S'' => P y ∧ DK k S0 S'') nx) (h : ∀ ys S', ys.length = all.length → (∀ y ∈ ys, P y) → DK k S0 S' → FF ys S') :
    wp (compM none all (gN i) bYes el ρ all S) FF nx := by
  refine wp_compM (fun k' ys S' => k' ≤ all.length → (ys.length = k' ∧ (∀ y ∈ ys, P y) ∧ DK k S0 S')) (fun _ _ _ _ => trivial) (fun k' d ys S' hd hk => ?_) (fun ys S' hk => ?_) (fun _ => ⟨rfl, fun _ h => (List.not_mem_nil h).elim, h0⟩)
  · have hlt := (List.getElem?_eq_some_iff.mp hd).1
    obtain ⟨q1, q2, q3⟩ := hk (by omega)
    refine ⟨_, rfl, ?_⟩
    rw [wp_bYes, if_pos rfl]
    refine wp_mono (hel d (List.mem_of_getElem? hd) S' q3) (fun y S'' hy => ?_) (fun _ _ h => h)
    refine fun _ => ⟨by simp [q1], fun z hz => ?_, hy.2⟩
    rw [List.mem_append, List.mem_singleton] at hz
    rcases hz with hz | rfl
    · exact q2 z hz
    · exact hy.1
  · obtain ⟨q1, q2, q3⟩ := hk (Nat.le_refl _)
    exact h ys S' q1 q2 q3
theorem rangeD_len {lo : Int} {m : Nat} : (rangeD lo m).length = m := by simp [rangeD]
theorem shuffle_gen {m : Int} {N : Nat} (hN : 3 ≤ N) (hm : 0 ≤ m) (hm8 : m ≤ 8) (h : DK k S0 S) (hF : ∀ (z : Str) (S' : Sto), z.length ≤ 100 → IsSh z → DK k S0 S' → F (.str z) S') : wp (den fu N i_l_shuffle [.ref k, .int m] S) F E := by
  obtain ⟨N', rfl⟩ : ∃ N', N = N' + 1 := ⟨N - 1, by omega⟩
  show wp (runDef false 7 (b_l_shuffle fu (den fu N')) _ _) _ _
  simp only [b_l_shuffle, wp_ok, wp_ret, wp_stuck, wp_bad, wp_bnd, wp_if, wp_fif, wps_ok_nx, wps_ok_rt, wps_ok_bk, wps_ok_ct, wps_ok_xc, wps_bad, wps_lft, wps_seq, wps_nil, wps_ret, wps_expr, wps_asg, wps_if, wp_run, wps_for, wps_while, wp_comp, wp_var, wp_C, wp_bin, wp_un, wp_T, wp_Tb, wp_asBl, wp_truthBl, wp_bAnd, wp_bOr, wp_bNot, wp_eIf, wp_eAnd, wp_eOr, wp_eNot, blCase_bl, wp_chain, wp_aNil, wp_aCons, wp_tup, wp_lst, wp_lstM, wp_call, wp_cl1, wp_cl2, wp_cl3, wp_cl4, wp_cl5, wp_meth, wp_isi, wp_oNone, wp_oSome, wp_sl, wp_it, wp_range1, wp_range2, wp_bYes, gEq_str, gNe_str, gEq_int, gNe_int, gEq_bl, gNe_bl, gIs_bl, gIsNot_bl, gAdd_int, gSub_int, gC_int, gI_int, gAdd_str, gAdd_tup, gAdd_lst, gNeg_int, gIx_tup, gIx_lst, gLen_tup, gLen_lst, gLen_str, gInt_int, gInt_bl, gTuple_lst, gTuple_tup, gList_lst, gList_tup, gSl_tup, gSl_lst, gSl_fl, gSl_str, srcL_tup, srcL_lst, srcL_fl, srcL_str, srcR1_int, typN, startR, List.map_cons, List.map_nil, List.length_cons, List.length_nil, Nat.reduceAdd, Nat.reduceSub, Nat.zero_add, Nat.sub_self, Nat.sub_zero, List.replicate_zero, List.replicate_succ, List.cons_append, List.nil_append, List.append_nil, List.getElem?_cons_zero, List.getElem?_cons_succ, List.set_cons_zero, List.set_cons_succ, List.set_nil, List.getElem?_nil, Option.some.injEq, exists_eq_left', exists_eq_left, exists_eq_right, reduceCtorEq, false_and, and_false, true_and, and_true, exists_false, exists_const, wipeR, Nat.zero_le, String.reduceEq, D.int.injEq, D.str.injEq, D.bl.injEq, atI_0, atI_1, atI_2, atI_3, atI_4, beq_self_eq_true, not_true_eq_false, not_false_eq_true, Int.cast_ofNat_Int, Int.reduceEq, Int.reduceLE, Int.reduceLT, Int.reduceAdd, Int.reduceSub, Int.reduceMul, Int.reduceNeg, if_true, if_false, ite_true, ite_false, Bool.false_eq_true, if_neg, if_pos, decide_eq_true_eq, Bool.not_eq_true', decide_eq_false_iff_not, eq_self_iff_true, decide_true, decide_false, Bool.not_true, Bool.not_false]
  refine draw_ok (by omega) h (by omega) (by omega) fun v S1 hv0 hv1 d1 => ?_
  obtain ⟨w, rfl⟩ := Int.eq_ofNat_of_zero_le hv0
  have hw : w ≤ 8 := by omega
  have hA : (Str.ofString "abcdefgh").length ≤ sizeLine := by rw [letters_eq]; exact small_line (by decide)
  let a : List Nat := [97, 98, 99, 100, 101, 102, 103, 104].take w
  have la : a.length = w := by show ([97, 98, 99, 100, 101, 102, 103, 104].take w).length = w; simp; omega
  have cut : cutS (Str.ofString "abcdefgh") none (some ((w : Nat) : Int)) = ⟨a.toArray⟩ := by
    rw [letters_eq]
    unfold cutS
    apply str_ext
    simp only [List.toList_toArray]
    have e1 : HT.sIx (Str.length ⟨#[97, 98, 99, 100, 101, 102, 103, 104]⟩) 0 none = 0 := rfl
    have e2 : HT.sIx (Str.length ⟨#[97, 98, 99, 100, 101, 102, 103, 104]⟩) (Str.length ⟨#[97, 98, 99, 100, 101, 102, 103, 104]⟩) (some ((w : Nat) : Int)) = w := by
      rw [HT.sIx_nat]; show min w 8 = w; omega
    rw [e1, e2]; rfl
  have hL : ((⟨a.toArray⟩ : Str)).length = w := by show a.toArray.size = w; simp [la]
  have fin : ∀ (b : List Nat) (S' : Sto), b.length ≤ 12 → (∀ x ∈ b, x ∈ a) → DK k S0 S' → (⟨a.toArray⟩ : Str).length + (Str.ofString "-").length ≤ sizeLine ∧ ((⟨a.toArray⟩ : Str) ++ Str.ofString "-").length + (⟨b.toArray⟩ : Str).length ≤ sizeLine ∧ wp (finD false S.length (.str ((⟨a.toArray⟩ : Str) ++ Str.ofString "-" ++ ⟨b.toArray⟩)) S') F E := by
    intro b S' hb hba hd
    have hR : ((⟨b.toArray⟩ : Str)).length = b.length := by show b.toArray.size = _; simp
    have hD : (Str.ofString "-").length = 1 := by rw [dash_eq]; rfl
    have hAD : ((⟨a.toArray⟩ : Str) ++ Str.ofString "-").length = w + 1 := by
      rw [dash_eq]; show (a.toArray ++ #[45]).size = w + 1; simp [la]
    have hADB : ((⟨a.toArray⟩ : Str) ++ Str.ofString "-" ++ (⟨b.toArray⟩ : Str)).length = w + 1 + b.length := by
      rw [dash_eq]; show ((a.toArray ++ #[45]) ++ b.toArray).size = w + 1 + b.length; simp [la]; omega
    refine ⟨small_line (by omega), small_line (by omega), ?_⟩
    refine fin_same hd.wf' rfl (by rw [hd.len, h.len]) (hF _ _ (by omega) ⟨a, b, by rw [dash_eq], ⟨w, hw, rfl⟩, hb, hba⟩ hd)
  simp only [hA, cut, wp_ok, wp_ret, wp_stuck, wp_bad, wp_bnd, wp_if, wp_fif, wps_ok_nx, wps_ok_rt, wps_ok_bk, wps_ok_ct, wps_ok_xc, wps_bad, wps_lft, wps_seq, wps_nil, wps_ret, wps_expr, wps_asg, wps_if, wp_run, wps_for, wps_while, wp_comp, wp_var, wp_C, wp_bin, wp_un, wp_T, wp_Tb, wp_asBl, wp_truthBl, wp_bAnd, wp_bOr, wp_bNot, wp_eIf, wp_eAnd, wp_eOr, wp_eNot, blCase_bl, wp_chain, wp_aNil, wp_aCons, wp_tup, wp_lst, wp_lstM, wp_call, wp_cl1, wp_cl2, wp_cl3, wp_cl4, wp_cl5, wp_meth, wp_isi, wp_oNone, wp_oSome, wp_sl, wp_it, wp_range1, wp_range2, wp_bYes, gEq_str, gNe_str, gEq_int, gNe_int, gEq_bl, gNe_bl, gIs_bl, gIsNot_bl, gAdd_int, gSub_int, gC_int, gI_int, gAdd_str, gAdd_tup, gAdd_lst, gNeg_int, gIx_tup, gIx_lst, gLen_tup, gLen_lst, gLen_str, gInt_int, gInt_bl, gTuple_lst, gTuple_tup, gList_lst, gList_tup, gSl_tup, gSl_lst, gSl_fl, gSl_str, srcL_tup, srcL_lst, srcL_fl, srcL_str, srcR1_int, typN, startR, List.map_cons, List.map_nil, List.length_cons, List.length_nil, Nat.reduceAdd, Nat.reduceSub, Nat.zero_add, Nat.sub_self, Nat.sub_zero, List.replicate_zero, List.replicate_succ, List.cons_append, List.nil_append, List.append_nil, List.getElem?_cons_zero, List.getElem?_cons_succ, List.set_cons_zero, List.set_cons_succ, List.set_nil, List.getElem?_nil, Option.some.injEq, exists_eq_left', exists_eq_left, exists_eq_right, reduceCtorEq, false_and, and_false, true_and, and_true, exists_false, exists_const, wipeR, Nat.zero_le, String.reduceEq, D.int.injEq, D.str.injEq, D.bl.injEq, atI_0, atI_1, atI_2, atI_3, atI_4, beq_self_eq_true, not_true_eq_false, not_false_eq_true, Int.cast_ofNat_Int, Int.reduceEq, Int.reduceLE, Int.reduceLT, Int.reduceAdd, Int.reduceSub, Int.reduceMul, Int.reduceNeg, if_true, if_false, ite_true, ite_false, Bool.false_eq_true, if_neg, if_pos, decide_eq_true_eq, Bool.not_eq_true', decide_eq_false_iff_not, eq_self_iff_true, decide_true, decide_false, Bool.not_true, Bool.not_false]
  by_cases hz : (0 : Int) < (w : Int)
  · simp only [hz, wp_ok, wp_ret, wp_stuck, wp_bad, wp_bnd, wp_if, wp_fif, wps_ok_nx, wps_ok_rt, wps_ok_bk, wps_ok_ct, wps_ok_xc, wps_bad, wps_lft, wps_seq, wps_nil, wps_ret, wps_expr, wps_asg, wps_if, wp_run, wps_for, wps_while, wp_comp, wp_var, wp_C, wp_bin, wp_un, wp_T, wp_Tb, wp_asBl, wp_truthBl, wp_bAnd, wp_bOr, wp_bNot, wp_eIf, wp_eAnd, wp_eOr, wp_eNot, blCase_bl, wp_chain, wp_aNil, wp_aCons, wp_tup, wp_lst, wp_lstM, wp_call, wp_cl1, wp_cl2, wp_cl3, wp_cl4, wp_cl5, wp_meth, wp_isi, wp_oNone, wp_oSome, wp_sl, wp_it, wp_range1, wp_range2, wp_bYes, gEq_str, gNe_str, gEq_int, gNe_int, gEq_bl, gNe_bl, gIs_bl, gIsNot_bl, gAdd_int, gSub_int, gC_int, gI_int, gAdd_str, gAdd_tup, gAdd_lst, gNeg_int, gIx_tup, gIx_lst, gLen_tup, gLen_lst, gLen_str, gInt_int, gInt_bl, gTuple_lst, gTuple_tup, gList_lst, gList_tup, gSl_tup, gSl_lst, gSl_fl, gSl_str, srcL_tup, srcL_lst, srcL_fl, srcL_str, srcR1_int, typN, startR, List.map_cons, List.map_nil, List.length_cons, List.length_nil, Nat.reduceAdd, Nat.reduceSub, Nat.zero_add, Nat.sub_self, Nat.sub_zero, List.replicate_zero, List.replicate_succ, List.cons_append, List.nil_append, List.append_nil, List.getElem?_cons_zero, List.getElem?_cons_succ, List.set_cons_zero, List.set_cons_succ, List.set_nil, List.getElem?_nil, Option.some.injEq, exists_eq_left', exists_eq_left, exists_eq_right, reduceCtorEq, false_and, and_false, true_and, and_true, exists_false, exists_const, wipeR, Nat.zero_le, String.reduceEq, D.int.injEq, D.str.injEq, D.bl.injEq, atI_0, atI_1, atI_2, atI_3, atI_4, beq_self_eq_true, not_true_eq_false, not_false_eq_true, Int.cast_ofNat_Int, Int.reduceEq, Int.reduceLE, Int.reduceLT, Int.reduceAdd, Int.reduceSub, Int.reduceMul, Int.reduceNeg, if_true, if_false, ite_true, ite_false, Bool.false_eq_true, if_neg, if_pos, decide_eq_true_eq, Bool.not_eq_true', decide_eq_false_iff_not, eq_self_iff_true, decide_true, decide_false, Bool.not_true, Bool.not_false]
    refine ⟨small_line (by decide), draw_ok (by omega) d1 (by decide) (by decide) fun v2 S2 q0 q1 d2 => ?_⟩
    rw [gI_int]
    refine ⟨cDiv_of (by decide) (by decide), ?_⟩
    rw [gIx_lst]
    obtain ⟨x, hx, e⟩ := atI_mem (ds := [D.int 4, D.int 13]) (v := v2 / 7) (by omega) (by show v2 / 7 < 2; omega)
    refine ⟨x, e, ?_⟩
    have : ∃ i : Int, x = .int i ∧ 0 < i ∧ i ≤ 13 := by
      simp only [List.mem_cons, List.not_mem_nil, or_false] at hx
      rcases hx with rfl | rfl
      · exact ⟨_, rfl, by decide, by decide⟩
      · exact ⟨_, rfl, by decide, by decide⟩
    obtain ⟨i, rfl, i0, i1⟩ := this
    refine draw_ok (by omega) d2 i0 (by omega) fun v3 S3 p0 p1 d3 => ?_
    rw [srcR1_int]
    refine ⟨by simp [bnd62]; omega, ?_⟩
    refine wps_forM (fun j ρ S' => j ≤ v3.toNat → ∃ (b : List Nat) (o : Option D), ρ = [some (.ref k), some (.int m), some (.int w), some (.str ⟨a.toArray⟩), some (.str ⟨b.toArray⟩), some (.int i), o] ∧ b.length = j ∧ (∀ x ∈ b, x ∈ a) ∧ DK k S0 S') (fun _ _ _ _ => trivial) ?_ ?_ (fun _ => ⟨[], none, rfl, rfl, fun _ h => (List.not_mem_nil h).elim, d3⟩)
    · intro j d ρ S' hd hI
      have hlt := (List.getElem?_eq_some_iff.mp hd).1
      rw [rangeD_len] at hlt
      obtain ⟨b, o, rfl, hb, hba, hd4⟩ := hI (by omega)
      refine ⟨_, rfl, ?_⟩
      simp only [wp_ok, wp_ret, wp_stuck, wp_bad, wp_bnd, wp_if, wp_fif, wps_ok_nx, wps_ok_rt, wps_ok_bk, wps_ok_ct, wps_ok_xc, wps_bad, wps_lft, wps_seq, wps_nil, wps_ret, wps_expr, wps_asg, wps_if, wp_run, wps_for, wps_while, wp_comp, wp_var, wp_C, wp_bin, wp_un, wp_T, wp_Tb, wp_asBl, wp_truthBl, wp_bAnd, wp_bOr, wp_bNot, wp_eIf, wp_eAnd, wp_eOr, wp_eNot, blCase_bl, wp_chain, wp_aNil, wp_aCons, wp_tup, wp_lst, wp_lstM, wp_call, wp_cl1, wp_cl2, wp_cl3, wp_cl4, wp_cl5, wp_meth, wp_isi, wp_oNone, wp_oSome, wp_sl, wp_it, wp_range1, wp_range2, wp_bYes, gEq_str, gNe_str, gEq_int, gNe_int, gEq_bl, gNe_bl, gIs_bl, gIsNot_bl, gAdd_int, gSub_int, gC_int, gI_int, gAdd_str, gAdd_tup, gAdd_lst, gNeg_int, gIx_tup, gIx_lst, gLen_tup, gLen_lst, gLen_str, gInt_int, gInt_bl, gTuple_lst, gTuple_tup, gList_lst, gList_tup, gSl_tup, gSl_lst, gSl_fl, gSl_str, srcL_tup, srcL_lst, srcL_fl, srcL_str, srcR1_int, typN, startR, List.map_cons, List.map_nil, List.length_cons, List.length_nil, Nat.reduceAdd, Nat.reduceSub, Nat.zero_add, Nat.sub_self, Nat.sub_zero, List.replicate_zero, List.replicate_succ, List.cons_append, List.nil_append, List.append_nil, List.getElem?_cons_zero, List.getElem?_cons_succ, List.set_cons_zero, List.set_cons_succ, List.set_nil, List.getElem?_nil, Option.some.injEq, exists_eq_left', exists_eq_left, exists_eq_right, reduceCtorEq, false_and, and_false, true_and, and_true, exists_false, exists_const, wipeR, Nat.zero_le, String.reduceEq, D.int.injEq, D.str.injEq, D.bl.injEq, atI_0, atI_1, atI_2, atI_3, atI_4, beq_self_eq_true, not_true_eq_false, not_false_eq_true, Int.cast_ofNat_Int, Int.reduceEq, Int.reduceLE, Int.reduceLT, Int.reduceAdd, Int.reduceSub, Int.reduceMul, Int.reduceNeg, if_true, if_false, ite_true, ite_false, Bool.false_eq_true, if_neg, if_pos, decide_eq_true_eq, Bool.not_eq_true', decide_eq_false_iff_not, eq_self_iff_true, decide_true, decide_false, Bool.not_true, Bool.not_false]
      refine draw_ok (by omega) hd4 hz (by omega) fun v4 S4 r0 r1 d4 => ?_
      rw [gIx_sign]
      have hLa : (⟨a.toArray⟩ : Str).cps.toList = a := by simp
      rw [hLa]
      obtain ⟨c, hc, e⟩ := atI_mem (ds := a) r0 (by omega)
      refine ⟨small_line (by omega), c, e, ?_⟩
      have hR : ((⟨b.toArray⟩ : Str)).length = b.length := by show b.toArray.size = _; simp
      simp only [wp_ok, wp_ret, wp_stuck, wp_bad, wp_bnd, wp_if, wp_fif, wps_ok_nx, wps_ok_rt, wps_ok_bk, wps_ok_ct, wps_ok_xc, wps_bad, wps_lft, wps_seq, wps_nil, wps_ret, wps_expr, wps_asg, wps_if, wp_run, wps_for, wps_while, wp_comp, wp_var, wp_C, wp_bin, wp_un, wp_T, wp_Tb, wp_asBl, wp_truthBl, wp_bAnd, wp_bOr, wp_bNot, wp_eIf, wp_eAnd, wp_eOr, wp_eNot, blCase_bl, wp_chain, wp_aNil, wp_aCons, wp_tup, wp_lst, wp_lstM, wp_call, wp_cl1, wp_cl2, wp_cl3, wp_cl4, wp_cl5, wp_meth, wp_isi, wp_oNone, wp_oSome, wp_sl, wp_it, wp_range1, wp_range2, wp_bYes, gEq_str, gNe_str, gEq_int, gNe_int, gEq_bl, gNe_bl, gIs_bl, gIsNot_bl, gAdd_int, gSub_int, gC_int, gI_int, gAdd_str, gAdd_tup, gAdd_lst, gNeg_int, gIx_tup, gIx_lst, gLen_tup, gLen_lst, gLen_str, gInt_int, gInt_bl, gTuple_lst, gTuple_tup, gList_lst, gList_tup, gSl_tup, gSl_lst, gSl_fl, gSl_str, srcL_tup, srcL_lst, srcL_fl, srcL_str, srcR1_int, typN, startR, List.map_cons, List.map_nil, List.length_cons, List.length_nil, Nat.reduceAdd, Nat.reduceSub, Nat.zero_add, Nat.sub_self, Nat.sub_zero, List.replicate_zero, List.replicate_succ, List.cons_append, List.nil_append, List.append_nil, List.getElem?_cons_zero, List.getElem?_cons_succ, List.set_cons_zero, List.set_cons_succ, List.set_nil, List.getElem?_nil, Option.some.injEq, exists_eq_left', exists_eq_left, exists_eq_right, reduceCtorEq, false_and, and_false, true_and, and_true, exists_false, exists_const, wipeR, Nat.zero_le, String.reduceEq, D.int.injEq, D.str.injEq, D.bl.injEq, atI_0, atI_1, atI_2, atI_3, atI_4, beq_self_eq_true, not_true_eq_false, not_false_eq_true, Int.cast_ofNat_Int, Int.reduceEq, Int.reduceLE, Int.reduceLT, Int.reduceAdd, Int.reduceSub, Int.reduceMul, Int.reduceNeg, if_true, if_false, ite_true, ite_false, Bool.false_eq_true, if_neg, if_pos, decide_eq_true_eq, Bool.not_eq_true', decide_eq_false_iff_not, eq_self_iff_true, decide_true, decide_false, Bool.not_true, Bool.not_false]
      refine ⟨small_line (by rw [hR]; show b.length + 1 ≤ _; omega), fun _ => ⟨b ++ [c], some d, ?_, by simp [hb], fun x hx => ?_, d4⟩⟩
      · have : (⟨b.toArray⟩ : Str) ++ (⟨#[c]⟩ : Str) = ⟨(b ++ [c]).toArray⟩ := by
          apply str_ext; rw [app_toList]
        rw [this]
      · rw [List.mem_append, List.mem_singleton] at hx
        rcases hx with hx | rfl
        · exact hba x hx
        · exact hc
    · intro ρ S' hI
      rw [rangeD_len] at hI
      obtain ⟨b, o, rfl, hb, hba, hd4⟩ := hI (Nat.le_refl _)
      simp only [wp_ok, wp_ret, wp_stuck, wp_bad, wp_bnd, wp_if, wp_fif, wps_ok_nx, wps_ok_rt, wps_ok_bk, wps_ok_ct, wps_ok_xc, wps_bad, wps_lft, wps_seq, wps_nil, wps_ret, wps_expr, wps_asg, wps_if, wp_run, wps_for, wps_while, wp_comp, wp_var, wp_C, wp_bin, wp_un, wp_T, wp_Tb, wp_asBl, wp_truthBl, wp_bAnd, wp_bOr, wp_bNot, wp_eIf, wp_eAnd, wp_eOr, wp_eNot, blCase_bl, wp_chain, wp_aNil, wp_aCons, wp_tup, wp_lst, wp_lstM, wp_call, wp_cl1, wp_cl2, wp_cl3, wp_cl4, wp_cl5, wp_meth, wp_isi, wp_oNone, wp_oSome, wp_sl, wp_it, wp_range1, wp_range2, wp_bYes, gEq_str, gNe_str, gEq_int, gNe_int, gEq_bl, gNe_bl, gIs_bl, gIsNot_bl, gAdd_int, gSub_int, gC_int, gI_int, gAdd_str, gAdd_tup, gAdd_lst, gNeg_int, gIx_tup, gIx_lst, gLen_tup, gLen_lst, gLen_str, gInt_int, gInt_bl, gTuple_lst, gTuple_tup, gList_lst, gList_tup, gSl_tup, gSl_lst, gSl_fl, gSl_str, srcL_tup, srcL_lst, srcL_fl, srcL_str, srcR1_int, typN, startR, List.map_cons, List.map_nil, List.length_cons, List.length_nil, Nat.reduceAdd, Nat.reduceSub, Nat.zero_add, Nat.sub_self, Nat.sub_zero, List.replicate_zero, List.replicate_succ, List.cons_append, List.nil_append, List.append_nil, List.getElem?_cons_zero, List.getElem?_cons_succ, List.set_cons_zero, List.set_cons_succ, List.set_nil, List.getElem?_nil, Option.some.injEq, exists_eq_left', exists_eq_left, exists_eq_right, reduceCtorEq, false_and, and_false, true_and, and_true, exists_false, exists_const, wipeR, Nat.zero_le, String.reduceEq, D.int.injEq, D.str.injEq, D.bl.injEq, atI_0, atI_1, atI_2, atI_3, atI_4, beq_self_eq_true, not_true_eq_false, not_false_eq_true, Int.cast_ofNat_Int, Int.reduceEq, Int.reduceLE, Int.reduceLT, Int.reduceAdd, Int.reduceSub, Int.reduceMul, Int.reduceNeg, if_true, if_false, ite_true, ite_false, Bool.false_eq_true, if_neg, if_pos, decide_eq_true_eq, Bool.not_eq_true', decide_eq_false_iff_not, eq_self_iff_true, decide_true, decide_false, Bool.not_true, Bool.not_false]
      exact fin b S' (by omega) hba hd4
  · simp only [hz, wp_ok, wp_ret, wp_stuck, wp_bad, wp_bnd, wp_if, wp_fif, wps_ok_nx, wps_ok_rt, wps_ok_bk, wps_ok_ct, wps_ok_xc, wps_bad, wps_lft, wps_seq, wps_nil, wps_ret, wps_expr, wps_asg, wps_if, wp_run, wps_for, wps_while, wp_comp, wp_var, wp_C, wp_bin, wp_un, wp_T, wp_Tb, wp_asBl, wp_truthBl, wp_bAnd, wp_bOr, wp_bNot, wp_eIf, wp_eAnd, wp_eOr, wp_eNot, blCase_bl, wp_chain, wp_aNil, wp_aCons, wp_tup, wp_lst, wp_lstM, wp_call, wp_cl1, wp_cl2, wp_cl3, wp_cl4, wp_cl5, wp_meth, wp_isi, wp_oNone, wp_oSome, wp_sl, wp_it, wp_range1, wp_range2, wp_bYes, gEq_str, gNe_str, gEq_int, gNe_int, gEq_bl, gNe_bl, gIs_bl, gIsNot_bl, gAdd_int, gSub_int, gC_int, gI_int, gAdd_str, gAdd_tup, gAdd_lst, gNeg_int, gIx_tup, gIx_lst, gLen_tup, gLen_lst, gLen_str, gInt_int, gInt_bl, gTuple_lst, gTuple_tup, gList_lst, gList_tup, gSl_tup, gSl_lst, gSl_fl, gSl_str, srcL_tup, srcL_lst, srcL_fl, srcL_str, srcR1_int, typN, startR, List.map_cons, List.map_nil, List.length_cons, List.length_nil, Nat.reduceAdd, Nat.reduceSub, Nat.zero_add, Nat.sub_self, Nat.sub_zero, List.replicate_zero, List.replicate_succ, List.cons_append, List.nil_append, List.append_nil, List.getElem?_cons_zero, List.getElem?_cons_succ, List.set_cons_zero, List.set_cons_succ, List.set_nil, List.getElem?_nil, Option.some.injEq, exists_eq_left', exists_eq_left, exists_eq_right, reduceCtorEq, false_and, and_false, true_and, and_true, exists_false, exists_const, wipeR, Nat.zero_le, String.reduceEq, D.int.injEq, D.str.injEq, D.bl.injEq, atI_0, atI_1, atI_2, atI_3, atI_4, beq_self_eq_true, not_true_eq_false, not_false_eq_true, Int.cast_ofNat_Int, Int.reduceEq, Int.reduceLE, Int.reduceLT, Int.reduceAdd, Int.reduceSub, Int.reduceMul, Int.reduceNeg, if_true, if_false, ite_true, ite_false, Bool.false_eq_true, if_neg, if_pos, decide_eq_true_eq, Bool.not_eq_true', decide_eq_false_iff_not, eq_self_iff_true, decide_true, decide_false, Bool.not_true, Bool.not_false]
    exact fin [] S1 (by simp) (fun _ h => (List.not_mem_nil h).elim) d1
/-- the words and things at random -/
theorem word_of {deep : Nat} {N : Nat} (hT : ∀ (N : Nat) (S : Sto) (F : D → Sto → Prop) (E : Exc → Sto → Prop), 2 * deep + 8 ≤ N → DK k S0 S → (∀ t S', ThG deep t → DK k S0 S' → F t S') → wp (den fu N i_l_thing [.ref k, .int deep] S) F E)
    (hN : 2 * deep + 9 ≤ N) (h : DK k S0 S) (hF : ∀ t S', WdG deep t → DK k S0 S' → F t S') : wp (den fu N i_l_any_word [.ref k, .int deep] S) F E := by
  obtain ⟨N', rfl⟩ : ∃ N', N = N' + 1 := ⟨N - 1, by omega⟩
  show wp (runDef false 4 (b_l_any_word fu (den fu N')) _ _) _ _
  simp only [b_l_any_word, wp_ok, wp_ret, wp_stuck, wp_bad, wp_bnd, wp_if, wp_fif, wps_ok_nx, wps_ok_rt, wps_ok_bk, wps_ok_ct, wps_ok_xc, wps_bad, wps_lft, wps_seq, wps_nil, wps_ret, wps_expr, wps_asg, wps_if, wp_run, wps_for, wps_while, wp_comp, wp_var, wp_C, wp_bin, wp_un, wp_T, wp_Tb, wp_asBl, wp_truthBl, wp_bAnd, wp_bOr, wp_bNot, wp_eIf, wp_eAnd, wp_eOr, wp_eNot, blCase_bl, wp_chain, wp_aNil, wp_aCons, wp_tup, wp_lst, wp_lstM, wp_call, wp_cl1, wp_cl2, wp_cl3, wp_cl4, wp_cl5, wp_meth, wp_isi, wp_oNone, wp_oSome, wp_sl, wp_it, wp_range1, wp_range2, wp_bYes, gEq_str, gNe_str, gEq_int, gNe_int, gEq_bl, gNe_bl, gIs_bl, gIsNot_bl, gAdd_int, gSub_int, gC_int, gI_int, gAdd_str, gAdd_tup, gAdd_lst, gNeg_int, gIx_tup, gIx_lst, gLen_tup, gLen_lst, gLen_str, gInt_int, gInt_bl, gTuple_lst, gTuple_tup, gList_lst, gList_tup, gSl_tup, gSl_lst, gSl_fl, gSl_str, srcL_tup, srcL_lst, srcL_fl, srcL_str, srcR1_int, typN, startR, List.map_cons, List.map_nil, List.length_cons, List.length_nil, Nat.reduceAdd, Nat.reduceSub, Nat.zero_add, Nat.sub_self, Nat.sub_zero, List.replicate_zero, List.replicate_succ, List.cons_append, List.nil_append, List.append_nil, List.getElem?_cons_zero, List.getElem?_cons_succ, List.set_cons_zero, List.set_cons_succ, List.set_nil, List.getElem?_nil, Option.some.injEq, exists_eq_left', exists_eq_left, exists_eq_right, reduceCtorEq, false_and, and_false, true_and, and_true, exists_false, exists_const, wipeR, Nat.zero_le, String.reduceEq, D.int.injEq, D.str.injEq, D.bl.injEq, atI_0, atI_1, atI_2, atI_3, atI_4, beq_self_eq_true, not_true_eq_false, not_false_eq_true, Int.cast_ofNat_Int, Int.reduceEq, Int.reduceLE, Int.reduceLT, Int.reduceAdd, Int.reduceSub, Int.reduceMul, Int.reduceNeg, if_true, if_false, ite_true, ite_false, Bool.false_eq_true, if_neg, if_pos, decide_eq_true_eq, Bool.not_eq_true', decide_eq_false_iff_not, eq_self_iff_true, decide_true, decide_false, Bool.not_true, Bool.not_false]
  refine ⟨small_line (by decide), draw_ok (by omega) h (by decide) (by decide) fun v S1 hv0 hv1 d1 => ?_⟩
  by_cases h3 : v < 3
  · simp only [h3, wp_ok, wp_ret, wp_stuck, wp_bad, wp_bnd, wp_if, wp_fif, wps_ok_nx, wps_ok_rt, wps_ok_bk, wps_ok_ct, wps_ok_xc, wps_bad, wps_lft, wps_seq, wps_nil, wps_ret, wps_expr, wps_asg, wps_if, wp_run, wps_for, wps_while, wp_comp, wp_var, wp_C, wp_bin, wp_un, wp_T, wp_Tb, wp_asBl, wp_truthBl, wp_bAnd, wp_bOr, wp_bNot, wp_eIf, wp_eAnd, wp_eOr, wp_eNot, blCase_bl, wp_chain, wp_aNil, wp_aCons, wp_tup, wp_lst, wp_lstM, wp_call, wp_cl1, wp_cl2, wp_cl3, wp_cl4, wp_cl5, wp_meth, wp_isi, wp_oNone, wp_oSome, wp_sl, wp_it, wp_range1, wp_range2, wp_bYes, gEq_str, gNe_str, gEq_int, gNe_int, gEq_bl, gNe_bl, gIs_bl, gIsNot_bl, gAdd_int, gSub_int, gC_int, gI_int, gAdd_str, gAdd_tup, gAdd_lst, gNeg_int, gIx_tup, gIx_lst, gLen_tup, gLen_lst, gLen_str, gInt_int, gInt_bl, gTuple_lst, gTuple_tup, gList_lst, gList_tup, gSl_tup, gSl_lst, gSl_fl, gSl_str, srcL_tup, srcL_lst, srcL_fl, srcL_str, srcR1_int, typN, startR, List.map_cons, List.map_nil, List.length_cons, List.length_nil, Nat.reduceAdd, Nat.reduceSub, Nat.zero_add, Nat.sub_self, Nat.sub_zero, List.replicate_zero, List.replicate_succ, List.cons_append, List.nil_append, List.append_nil, List.getElem?_cons_zero, List.getElem?_cons_succ, List.set_cons_zero, List.set_cons_succ, List.set_nil, List.getElem?_nil, Option.some.injEq, exists_eq_left', exists_eq_left, exists_eq_right, reduceCtorEq, false_and, and_false, true_and, and_true, exists_false, exists_const, wipeR, Nat.zero_le, String.reduceEq, D.int.injEq, D.str.injEq, D.bl.injEq, atI_0, atI_1, atI_2, atI_3, atI_4, beq_self_eq_true, not_true_eq_false, not_false_eq_true, Int.cast_ofNat_Int, Int.reduceEq, Int.reduceLE, Int.reduceLT, Int.reduceAdd, Int.reduceSub, Int.reduceMul, Int.reduceNeg, if_true, if_false, ite_true, ite_false, Bool.false_eq_true, if_neg, if_pos, decide_eq_true_eq, Bool.not_eq_true', decide_eq_false_iff_not, eq_self_iff_true, decide_true, decide_false, Bool.not_true, Bool.not_false]
    refine hT _ _ _ _ (by omega) d1 fun t S2 ht d2 => ?_
    have htr : tr (.tup [.str "push", t]) := by
      have := ht.tr
      simp only [DL.tr, D.lo, D.los, Bool.and_true, Bool.true_and] at this ⊢
      exact this
    exact ⟨small_line (by decide), fin_same d2.wf' htr (by rw [d2.len, h.len]) (hF _ _ (.inr ⟨t, rfl, ht⟩) d2)⟩
  · simp only [h3, wp_ok, wp_ret, wp_stuck, wp_bad, wp_bnd, wp_if, wp_fif, wps_ok_nx, wps_ok_rt, wps_ok_bk, wps_ok_ct, wps_ok_xc, wps_bad, wps_lft, wps_seq, wps_nil, wps_ret, wps_expr, wps_asg, wps_if, wp_run, wps_for, wps_while, wp_comp, wp_var, wp_C, wp_bin, wp_un, wp_T, wp_Tb, wp_asBl, wp_truthBl, wp_bAnd, wp_bOr, wp_bNot, wp_eIf, wp_eAnd, wp_eOr, wp_eNot, blCase_bl, wp_chain, wp_aNil, wp_aCons, wp_tup, wp_lst, wp_lstM, wp_call, wp_cl1, wp_cl2, wp_cl3, wp_cl4, wp_cl5, wp_meth, wp_isi, wp_oNone, wp_oSome, wp_sl, wp_it, wp_range1, wp_range2, wp_bYes, gEq_str, gNe_str, gEq_int, gNe_int, gEq_bl, gNe_bl, gIs_bl, gIsNot_bl, gAdd_int, gSub_int, gC_int, gI_int, gAdd_str, gAdd_tup, gAdd_lst, gNeg_int, gIx_tup, gIx_lst, gLen_tup, gLen_lst, gLen_str, gInt_int, gInt_bl, gTuple_lst, gTuple_tup, gList_lst, gList_tup, gSl_tup, gSl_lst, gSl_fl, gSl_str, srcL_tup, srcL_lst, srcL_fl, srcL_str, srcR1_int, typN, startR, List.map_cons, List.map_nil, List.length_cons, List.length_nil, Nat.reduceAdd, Nat.reduceSub, Nat.zero_add, Nat.sub_self, Nat.sub_zero, List.replicate_zero, List.replicate_succ, List.cons_append, List.nil_append, List.append_nil, List.getElem?_cons_zero, List.getElem?_cons_succ, List.set_cons_zero, List.set_cons_succ, List.set_nil, List.getElem?_nil, Option.some.injEq, exists_eq_left', exists_eq_left, exists_eq_right, reduceCtorEq, false_and, and_false, true_and, and_true, exists_false, exists_const, wipeR, Nat.zero_le, String.reduceEq, D.int.injEq, D.str.injEq, D.bl.injEq, atI_0, atI_1, atI_2, atI_3, atI_4, beq_self_eq_true, not_true_eq_false, not_false_eq_true, Int.cast_ofNat_Int, Int.reduceEq, Int.reduceLE, Int.reduceLT, Int.reduceAdd, Int.reduceSub, Int.reduceMul, Int.reduceNeg, if_true, if_false, ite_true, ite_false, Bool.false_eq_true, if_neg, if_pos, decide_eq_true_eq, Bool.not_eq_true', decide_eq_false_iff_not, eq_self_iff_true, decide_true, decide_false, Bool.not_true, Bool.not_false]
    by_cases h5 : v < 5
    · simp only [h5, wp_ok, wp_ret, wp_stuck, wp_bad, wp_bnd, wp_if, wp_fif, wps_ok_nx, wps_ok_rt, wps_ok_bk, wps_ok_ct, wps_ok_xc, wps_bad, wps_lft, wps_seq, wps_nil, wps_ret, wps_expr, wps_asg, wps_if, wp_run, wps_for, wps_while, wp_comp, wp_var, wp_C, wp_bin, wp_un, wp_T, wp_Tb, wp_asBl, wp_truthBl, wp_bAnd, wp_bOr, wp_bNot, wp_eIf, wp_eAnd, wp_eOr, wp_eNot, blCase_bl, wp_chain, wp_aNil, wp_aCons, wp_tup, wp_lst, wp_lstM, wp_call, wp_cl1, wp_cl2, wp_cl3, wp_cl4, wp_cl5, wp_meth, wp_isi, wp_oNone, wp_oSome, wp_sl, wp_it, wp_range1, wp_range2, wp_bYes, gEq_str, gNe_str, gEq_int, gNe_int, gEq_bl, gNe_bl, gIs_bl, gIsNot_bl, gAdd_int, gSub_int, gC_int, gI_int, gAdd_str, gAdd_tup, gAdd_lst, gNeg_int, gIx_tup, gIx_lst, gLen_tup, gLen_lst, gLen_str, gInt_int, gInt_bl, gTuple_lst, gTuple_tup, gList_lst, gList_tup, gSl_tup, gSl_lst, gSl_fl, gSl_str, srcL_tup, srcL_lst, srcL_fl, srcL_str, srcR1_int, typN, startR, List.map_cons, List.map_nil, List.length_cons, List.length_nil, Nat.reduceAdd, Nat.reduceSub, Nat.zero_add, Nat.sub_self, Nat.sub_zero, List.replicate_zero, List.replicate_succ, List.cons_append, List.nil_append, List.append_nil, List.getElem?_cons_zero, List.getElem?_cons_succ, List.set_cons_zero, List.set_cons_succ, List.set_nil, List.getElem?_nil, Option.some.injEq, exists_eq_left', exists_eq_left, exists_eq_right, reduceCtorEq, false_and, and_false, true_and, and_true, exists_false, exists_const, wipeR, Nat.zero_le, String.reduceEq, D.int.injEq, D.str.injEq, D.bl.injEq, atI_0, atI_1, atI_2, atI_3, atI_4, beq_self_eq_true, not_true_eq_false, not_false_eq_true, Int.cast_ofNat_Int, Int.reduceEq, Int.reduceLE, Int.reduceLT, Int.reduceAdd, Int.reduceSub, Int.reduceMul, Int.reduceNeg, if_true, if_false, ite_true, ite_false, Bool.false_eq_true, if_neg, if_pos, decide_eq_true_eq, Bool.not_eq_true', decide_eq_false_iff_not, eq_self_iff_true, decide_true, decide_false, Bool.not_true, Bool.not_false]
      refine ⟨small_line (by decide), draw_ok (by omega) d1 (by decide) (by decide) fun v2 S2 q0 q1 d2 => ?_⟩
      rw [gI_int]
      refine ⟨cDiv_of (by decide) (by decide), ?_⟩
      rw [gIx_lst]
      obtain ⟨x, hx, e⟩ := atI_mem (ds := [D.int 3, D.int 8]) (v := v2 / 7) (by omega) (by show v2 / 7 < 2; omega)
      refine ⟨x, e, ?_⟩
      have : ∃ i : Int, x = .int i ∧ 0 ≤ i ∧ i ≤ 8 := by
        simp only [List.mem_cons, List.not_mem_nil, or_false] at hx
        rcases hx with rfl | rfl
        · exact ⟨_, rfl, by decide, by decide⟩
        · exact ⟨_, rfl, by decide, by decide⟩
      obtain ⟨i, rfl, i0, i1⟩ := this
      refine shuffle_gen (by omega) i0 i1 d2 fun z S3 hz hs d3 => ?_
      exact fin_same d3.wf' rfl (by rw [d3.len, h.len]) (hF _ _ (.inl ⟨z, rfl, hz, .inr hs⟩) d3)
    · simp only [h5, wp_ok, wp_ret, wp_stuck, wp_bad, wp_bnd, wp_if, wp_fif, wps_ok_nx, wps_ok_rt, wps_ok_bk, wps_ok_ct, wps_ok_xc, wps_bad, wps_lft, wps_seq, wps_nil, wps_ret, wps_expr, wps_asg, wps_if, wp_run, wps_for, wps_while, wp_comp, wp_var, wp_C, wp_bin, wp_un, wp_T, wp_Tb, wp_asBl, wp_truthBl, wp_bAnd, wp_bOr, wp_bNot, wp_eIf, wp_eAnd, wp_eOr, wp_eNot, blCase_bl, wp_chain, wp_aNil, wp_aCons, wp_tup, wp_lst, wp_lstM, wp_call, wp_cl1, wp_cl2, wp_cl3, wp_cl4, wp_cl5, wp_meth, wp_isi, wp_oNone, wp_oSome, wp_sl, wp_it, wp_range1, wp_range2, wp_bYes, gEq_str, gNe_str, gEq_int, gNe_int, gEq_bl, gNe_bl, gIs_bl, gIsNot_bl, gAdd_int, gSub_int, gC_int, gI_int, gAdd_str, gAdd_tup, gAdd_lst, gNeg_int, gIx_tup, gIx_lst, gLen_tup, gLen_lst, gLen_str, gInt_int, gInt_bl, gTuple_lst, gTuple_tup, gList_lst, gList_tup, gSl_tup, gSl_lst, gSl_fl, gSl_str, srcL_tup, srcL_lst, srcL_fl, srcL_str, srcR1_int, typN, startR, List.map_cons, List.map_nil, List.length_cons, List.length_nil, Nat.reduceAdd, Nat.reduceSub, Nat.zero_add, Nat.sub_self, Nat.sub_zero, List.replicate_zero, List.replicate_succ, List.cons_append, List.nil_append, List.append_nil, List.getElem?_cons_zero, List.getElem?_cons_succ, List.set_cons_zero, List.set_cons_succ, List.set_nil, List.getElem?_nil, Option.some.injEq, exists_eq_left', exists_eq_left, exists_eq_right, reduceCtorEq, false_and, and_false, true_and, and_true, exists_false, exists_const, wipeR, Nat.zero_le, String.reduceEq, D.int.injEq, D.str.injEq, D.bl.injEq, atI_0, atI_1, atI_2, atI_3, atI_4, beq_self_eq_true, not_true_eq_false, not_false_eq_true, Int.cast_ofNat_Int, Int.reduceEq, Int.reduceLE, Int.reduceLT, Int.reduceAdd, Int.reduceSub, Int.reduceMul, Int.reduceNeg, if_true, if_false, ite_true, ite_false, Bool.false_eq_true, if_neg, if_pos, decide_eq_true_eq, Bool.not_eq_true', decide_eq_false_iff_not, eq_self_iff_true, decide_true, decide_false, Bool.not_true, Bool.not_false]
      refine ⟨small_line (by decide), small_line (by decide), draw_ok (by omega) d1 (by decide) (by decide) fun v2 S2 q0 q1 d2 => ?_⟩
      rw [gIx_lst]
      obtain ⟨x, hx, e⟩ := atI_mem (ds := basics.map D.str) q0 q1
      refine ⟨x, e, ?_⟩
      obtain ⟨z, hz, rfl⟩ := List.mem_map.mp hx
      have hl : ∀ z ∈ basics, z.length ≤ 100 := by decide +kernel
      exact fin_same d2.wf' rfl (by rw [d2.len, h.len]) (hF _ _ (.inl ⟨z, rfl, hl z hz, .inl hz⟩) d2)
theorem WdG.tr {j : Nat} {w : D} (h : WdG j w) : tr w := by
  rcases h with q | ⟨t, rfl, q⟩
  · exact q.tr
  · have := ThG.tr q
    simp only [DL.tr, D.lo, D.los, Bool.and_true, Bool.true_and] at this ⊢
    exact this
theorem thing_gen (hfu : 1000 ≤ fu) : ∀ (deep N : Nat) (S : Sto) (F : D → Sto → Prop) (E : Exc → Sto → Prop), 2 * deep + 8 ≤ N → DK k S0 S → (∀ t S', ThG deep t → DK k S0 S' → F t S') → wp (den fu N i_l_thing [.ref k, .int deep] S) F E := by
  intro deep
  induction deep with
  | zero =>
    intro N S F E hN h hF
    obtain ⟨N', rfl⟩ : ∃ N', N = N' + 1 := ⟨N - 1, by omega⟩
    show wp (runDef false 5 (b_l_thing fu (den fu N')) _ _) _ _
    simp only [b_l_thing, wp_ok, wp_ret, wp_stuck, wp_bad, wp_bnd, wp_if, wp_fif, wps_ok_nx, wps_ok_rt, wps_ok_bk, wps_ok_ct, wps_ok_xc, wps_bad, wps_lft, wps_seq, wps_nil, wps_ret, wps_expr, wps_asg, wps_if, wp_run, wps_for, wps_while, wp_comp, wp_var, wp_C, wp_bin, wp_un, wp_T, wp_Tb, wp_asBl, wp_truthBl, wp_bAnd, wp_bOr, wp_bNot, wp_eIf, wp_eAnd, wp_eOr, wp_eNot, blCase_bl, wp_chain, wp_aNil, wp_aCons, wp_tup, wp_lst, wp_lstM, wp_call, wp_cl1, wp_cl2, wp_cl3, wp_cl4, wp_cl5, wp_meth, wp_isi, wp_oNone, wp_oSome, wp_sl, wp_it, wp_range1, wp_range2, wp_bYes, gEq_str, gNe_str, gEq_int, gNe_int, gEq_bl, gNe_bl, gIs_bl, gIsNot_bl, gAdd_int, gSub_int, gC_int, gI_int, gAdd_str, gAdd_tup, gAdd_lst, gNeg_int, gIx_tup, gIx_lst, gLen_tup, gLen_lst, gLen_str, gInt_int, gInt_bl, gTuple_lst, gTuple_tup, gList_lst, gList_tup, gSl_tup, gSl_lst, gSl_fl, gSl_str, srcL_tup, srcL_lst, srcL_fl, srcL_str, srcR1_int, typN, startR, List.map_cons, List.map_nil, List.length_cons, List.length_nil, Nat.reduceAdd, Nat.reduceSub, Nat.zero_add, Nat.sub_self, Nat.sub_zero, List.replicate_zero, List.replicate_succ, List.cons_append, List.nil_append, List.append_nil, List.getElem?_cons_zero, List.getElem?_cons_succ, List.set_cons_zero, List.set_cons_succ, List.set_nil, List.getElem?_nil, Option.some.injEq, exists_eq_left', exists_eq_left, exists_eq_right, reduceCtorEq, false_and, and_false, true_and, and_true, exists_false, exists_const, wipeR, Nat.zero_le, String.reduceEq, D.int.injEq, D.str.injEq, D.bl.injEq, atI_0, atI_1, atI_2, atI_3, atI_4, beq_self_eq_true, not_true_eq_false, not_false_eq_true, Int.cast_ofNat_Int, Int.reduceEq, Int.reduceLE, Int.reduceLT, Int.reduceAdd, Int.reduceSub, Int.reduceMul, Int.reduceNeg, if_true, if_false, ite_true, ite_false, Bool.false_eq_true, if_neg, if_pos, decide_eq_true_eq, Bool.not_eq_true', decide_eq_false_iff_not, eq_self_iff_true, decide_true, decide_false, Bool.not_true, Bool.not_false]
    refine draw_ok (by omega) h (by decide) (by decide) fun v S1 hv0 hv1 d1 => ?_
    refine number_gen (by omega) d1 fun i S2 i0 i1 d2 => ?_
    exact ⟨small_line (by decide), fin_same d2.wf' rfl (by rw [d2.len, h.len]) (hF _ _ ⟨i, rfl, i0, i1⟩ d2)⟩
  | succ deep ih =>
    intro N S F E hN h hF
    obtain ⟨N', rfl⟩ : ∃ N', N = N' + 1 := ⟨N - 1, by omega⟩
    show wp (runDef false 5 (b_l_thing fu (den fu N')) _ _) _ _
    simp only [b_l_thing, wp_ok, wp_ret, wp_stuck, wp_bad, wp_bnd, wp_if, wp_fif, wps_ok_nx, wps_ok_rt, wps_ok_bk, wps_ok_ct, wps_ok_xc, wps_bad, wps_lft, wps_seq, wps_nil, wps_ret, wps_expr, wps_asg, wps_if, wp_run, wps_for, wps_while, wp_comp, wp_var, wp_C, wp_bin, wp_un, wp_T, wp_Tb, wp_asBl, wp_truthBl, wp_bAnd, wp_bOr, wp_bNot, wp_eIf, wp_eAnd, wp_eOr, wp_eNot, blCase_bl, wp_chain, wp_aNil, wp_aCons, wp_tup, wp_lst, wp_lstM, wp_call, wp_cl1, wp_cl2, wp_cl3, wp_cl4, wp_cl5, wp_meth, wp_isi, wp_oNone, wp_oSome, wp_sl, wp_it, wp_range1, wp_range2, wp_bYes, gEq_str, gNe_str, gEq_int, gNe_int, gEq_bl, gNe_bl, gIs_bl, gIsNot_bl, gAdd_int, gSub_int, gC_int, gI_int, gAdd_str, gAdd_tup, gAdd_lst, gNeg_int, gIx_tup, gIx_lst, gLen_tup, gLen_lst, gLen_str, gInt_int, gInt_bl, gTuple_lst, gTuple_tup, gList_lst, gList_tup, gSl_tup, gSl_lst, gSl_fl, gSl_str, srcL_tup, srcL_lst, srcL_fl, srcL_str, srcR1_int, typN, startR, List.map_cons, List.map_nil, List.length_cons, List.length_nil, Nat.reduceAdd, Nat.reduceSub, Nat.zero_add, Nat.sub_self, Nat.sub_zero, List.replicate_zero, List.replicate_succ, List.cons_append, List.nil_append, List.append_nil, List.getElem?_cons_zero, List.getElem?_cons_succ, List.set_cons_zero, List.set_cons_succ, List.set_nil, List.getElem?_nil, Option.some.injEq, exists_eq_left', exists_eq_left, exists_eq_right, reduceCtorEq, false_and, and_false, true_and, and_true, exists_false, exists_const, wipeR, Nat.zero_le, String.reduceEq, D.int.injEq, D.str.injEq, D.bl.injEq, atI_0, atI_1, atI_2, atI_3, atI_4, beq_self_eq_true, not_true_eq_false, not_false_eq_true, Int.cast_ofNat_Int, Int.reduceEq, Int.reduceLE, Int.reduceLT, Int.reduceAdd, Int.reduceSub, Int.reduceMul, Int.reduceNeg, if_true, if_false, ite_true, ite_false, Bool.false_eq_true, if_neg, if_pos, decide_eq_true_eq, Bool.not_eq_true', decide_eq_false_iff_not, eq_self_iff_true, decide_true, decide_false, Bool.not_true, Bool.not_false]
    refine draw_ok (by omega) h (by decide) (by decide) fun v S1 hv0 hv1 d1 => ?_
    have hne : ¬ ((deep + 1 : Nat) : Int) = 0 := by omega
    have hsub : ((deep + 1 : Nat) : Int) - 1 = (deep : Int) := by omega
    simp only [hne, wp_ok, wp_ret, wp_stuck, wp_bad, wp_bnd, wp_if, wp_fif, wps_ok_nx, wps_ok_rt, wps_ok_bk, wps_ok_ct, wps_ok_xc, wps_bad, wps_lft, wps_seq, wps_nil, wps_ret, wps_expr, wps_asg, wps_if, wp_run, wps_for, wps_while, wp_comp, wp_var, wp_C, wp_bin, wp_un, wp_T, wp_Tb, wp_asBl, wp_truthBl, wp_bAnd, wp_bOr, wp_bNot, wp_eIf, wp_eAnd, wp_eOr, wp_eNot, blCase_bl, wp_chain, wp_aNil, wp_aCons, wp_tup, wp_lst, wp_lstM, wp_call, wp_cl1, wp_cl2, wp_cl3, wp_cl4, wp_cl5, wp_meth, wp_isi, wp_oNone, wp_oSome, wp_sl, wp_it, wp_range1, wp_range2, wp_bYes, gEq_str, gNe_str, gEq_int, gNe_int, gEq_bl, gNe_bl, gIs_bl, gIsNot_bl, gAdd_int, gSub_int, gC_int, gI_int, gAdd_str, gAdd_tup, gAdd_lst, gNeg_int, gIx_tup, gIx_lst, gLen_tup, gLen_lst, gLen_str, gInt_int, gInt_bl, gTuple_lst, gTuple_tup, gList_lst, gList_tup, gSl_tup, gSl_lst, gSl_fl, gSl_str, srcL_tup, srcL_lst, srcL_fl, srcL_str, srcR1_int, typN, startR, List.map_cons, List.map_nil, List.length_cons, List.length_nil, Nat.reduceAdd, Nat.reduceSub, Nat.zero_add, Nat.sub_self, Nat.sub_zero, List.replicate_zero, List.replicate_succ, List.cons_append, List.nil_append, List.append_nil, List.getElem?_cons_zero, List.getElem?_cons_succ, List.set_cons_zero, List.set_cons_succ, List.set_nil, List.getElem?_nil, Option.some.injEq, exists_eq_left', exists_eq_left, exists_eq_right, reduceCtorEq, false_and, and_false, true_and, and_true, exists_false, exists_const, wipeR, Nat.zero_le, String.reduceEq, D.int.injEq, D.str.injEq, D.bl.injEq, atI_0, atI_1, atI_2, atI_3, atI_4, beq_self_eq_true, not_true_eq_false, not_false_eq_true, Int.cast_ofNat_Int, Int.reduceEq, Int.reduceLE, Int.reduceLT, Int.reduceAdd, Int.reduceSub, Int.reduceMul, Int.reduceNeg, if_true, if_false, ite_true, ite_false, Bool.false_eq_true, if_neg, if_pos, decide_eq_true_eq, Bool.not_eq_true', decide_eq_false_iff_not, eq_self_iff_true, decide_true, decide_false, Bool.not_true, Bool.not_false]
    by_cases h3 : v < 3
    · simp only [h3, wp_ok, wp_ret, wp_stuck, wp_bad, wp_bnd, wp_if, wp_fif, wps_ok_nx, wps_ok_rt, wps_ok_bk, wps_ok_ct, wps_ok_xc, wps_bad, wps_lft, wps_seq, wps_nil, wps_ret, wps_expr, wps_asg, wps_if, wp_run, wps_for, wps_while, wp_comp, wp_var, wp_C, wp_bin, wp_un, wp_T, wp_Tb, wp_asBl, wp_truthBl, wp_bAnd, wp_bOr, wp_bNot, wp_eIf, wp_eAnd, wp_eOr, wp_eNot, blCase_bl, wp_chain, wp_aNil, wp_aCons, wp_tup, wp_lst, wp_lstM, wp_call, wp_cl1, wp_cl2, wp_cl3, wp_cl4, wp_cl5, wp_meth, wp_isi, wp_oNone, wp_oSome, wp_sl, wp_it, wp_range1, wp_range2, wp_bYes, gEq_str, gNe_str, gEq_int, gNe_int, gEq_bl, gNe_bl, gIs_bl, gIsNot_bl, gAdd_int, gSub_int, gC_int, gI_int, gAdd_str, gAdd_tup, gAdd_lst, gNeg_int, gIx_tup, gIx_lst, gLen_tup, gLen_lst, gLen_str, gInt_int, gInt_bl, gTuple_lst, gTuple_tup, gList_lst, gList_tup, gSl_tup, gSl_lst, gSl_fl, gSl_str, srcL_tup, srcL_lst, srcL_fl, srcL_str, srcR1_int, typN, startR, List.map_cons, List.map_nil, List.length_cons, List.length_nil, Nat.reduceAdd, Nat.reduceSub, Nat.zero_add, Nat.sub_self, Nat.sub_zero, List.replicate_zero, List.replicate_succ, List.cons_append, List.nil_append, List.append_nil, List.getElem?_cons_zero, List.getElem?_cons_succ, List.set_cons_zero, List.set_cons_succ, List.set_nil, List.getElem?_nil, Option.some.injEq, exists_eq_left', exists_eq_left, exists_eq_right, reduceCtorEq, false_and, and_false, true_and, and_true, exists_false, exists_const, wipeR, Nat.zero_le, String.reduceEq, D.int.injEq, D.str.injEq, D.bl.injEq, atI_0, atI_1, atI_2, atI_3, atI_4, beq_self_eq_true, not_true_eq_false, not_false_eq_true, Int.cast_ofNat_Int, Int.reduceEq, Int.reduceLE, Int.reduceLT, Int.reduceAdd, Int.reduceSub, Int.reduceMul, Int.reduceNeg, if_true, if_false, ite_true, ite_false, Bool.false_eq_true, if_neg, if_pos, decide_eq_true_eq, Bool.not_eq_true', decide_eq_false_iff_not, eq_self_iff_true, decide_true, decide_false, Bool.not_true, Bool.not_false]
      refine number_gen (by omega) d1 fun i S2 i0 i1 d2 => ?_
      exact ⟨small_line (by decide), fin_same d2.wf' rfl (by rw [d2.len, h.len]) (hF _ _ (.inl ⟨i, rfl, i0, i1⟩) d2)⟩
    · simp only [h3, wp_ok, wp_ret, wp_stuck, wp_bad, wp_bnd, wp_if, wp_fif, wps_ok_nx, wps_ok_rt, wps_ok_bk, wps_ok_ct, wps_ok_xc, wps_bad, wps_lft, wps_seq, wps_nil, wps_ret, wps_expr, wps_asg, wps_if, wp_run, wps_for, wps_while, wp_comp, wp_var, wp_C, wp_bin, wp_un, wp_T, wp_Tb, wp_asBl, wp_truthBl, wp_bAnd, wp_bOr, wp_bNot, wp_eIf, wp_eAnd, wp_eOr, wp_eNot, blCase_bl, wp_chain, wp_aNil, wp_aCons, wp_tup, wp_lst, wp_lstM, wp_call, wp_cl1, wp_cl2, wp_cl3, wp_cl4, wp_cl5, wp_meth, wp_isi, wp_oNone, wp_oSome, wp_sl, wp_it, wp_range1, wp_range2, wp_bYes, gEq_str, gNe_str, gEq_int, gNe_int, gEq_bl, gNe_bl, gIs_bl, gIsNot_bl, gAdd_int, gSub_int, gC_int, gI_int, gAdd_str, gAdd_tup, gAdd_lst, gNeg_int, gIx_tup, gIx_lst, gLen_tup, gLen_lst, gLen_str, gInt_int, gInt_bl, gTuple_lst, gTuple_tup, gList_lst, gList_tup, gSl_tup, gSl_lst, gSl_fl, gSl_str, srcL_tup, srcL_lst, srcL_fl, srcL_str, srcR1_int, typN, startR, List.map_cons, List.map_nil, List.length_cons, List.length_nil, Nat.reduceAdd, Nat.reduceSub, Nat.zero_add, Nat.sub_self, Nat.sub_zero, List.replicate_zero, List.replicate_succ, List.cons_append, List.nil_append, List.append_nil, List.getElem?_cons_zero, List.getElem?_cons_succ, List.set_cons_zero, List.set_cons_succ, List.set_nil, List.getElem?_nil, Option.some.injEq, exists_eq_left', exists_eq_left, exists_eq_right, reduceCtorEq, false_and, and_false, true_and, and_true, exists_false, exists_const, wipeR, Nat.zero_le, String.reduceEq, D.int.injEq, D.str.injEq, D.bl.injEq, atI_0, atI_1, atI_2, atI_3, atI_4, beq_self_eq_true, not_true_eq_false, not_false_eq_true, Int.cast_ofNat_Int, Int.reduceEq, Int.reduceLE, Int.reduceLT, Int.reduceAdd, Int.reduceSub, Int.reduceMul, Int.reduceNeg, if_true, if_false, ite_true, ite_false, Bool.false_eq_true, if_neg, if_pos, decide_eq_true_eq, Bool.not_eq_true', decide_eq_false_iff_not, eq_self_iff_true, decide_true, decide_false, Bool.not_true, Bool.not_false]
      refine draw_ok (by omega) d1 (by decide) (by decide) fun v2 S2 a0 a1 d2 => ?_
      refine draw_ok (by omega) d2 (by decide) (by decide) fun v3 S3 b0 b1 d3 => ?_
      refine draw_ok (by omega) d3 (by decide) (by decide) fun v4 S4 c0 c1 d4 => ?_
      refine ⟨small_line (by decide), draw_ok (by omega) d4 (by decide) (by decide) fun v5 S5 e0 e1 d5 => ?_⟩
      obtain ⟨x, hx, e⟩ := atI_mem (ds := [D.int v2, D.int v3, D.int v4]) (v := v5) e0 e1
      rw [gIx_lst]
      refine ⟨x, e, ?_⟩
      have : ∃ i : Int, x = .int i ∧ 0 ≤ i ∧ i ≤ 8 := by
        simp only [List.mem_cons, List.not_mem_nil, or_false] at hx
        rcases hx with rfl | rfl | rfl
        · exact ⟨_, rfl, by omega, by omega⟩
        · exact ⟨_, rfl, by omega, by omega⟩
        · exact ⟨_, rfl, by omega, by omega⟩
      obtain ⟨i, rfl, i0, i1⟩ := this
      simp only [hsub, wp_ok, wp_ret, wp_stuck, wp_bad, wp_bnd, wp_if, wp_fif, wps_ok_nx, wps_ok_rt, wps_ok_bk, wps_ok_ct, wps_ok_xc, wps_bad, wps_lft, wps_seq, wps_nil, wps_ret, wps_expr, wps_asg, wps_if, wp_run, wps_for, wps_while, wp_comp, wp_var, wp_C, wp_bin, wp_un, wp_T, wp_Tb, wp_asBl, wp_truthBl, wp_bAnd, wp_bOr, wp_bNot, wp_eIf, wp_eAnd, wp_eOr, wp_eNot, blCase_bl, wp_chain, wp_aNil, wp_aCons, wp_tup, wp_lst, wp_lstM, wp_call, wp_cl1, wp_cl2, wp_cl3, wp_cl4, wp_cl5, wp_meth, wp_isi, wp_oNone, wp_oSome, wp_sl, wp_it, wp_range1, wp_range2, wp_bYes, gEq_str, gNe_str, gEq_int, gNe_int, gEq_bl, gNe_bl, gIs_bl, gIsNot_bl, gAdd_int, gSub_int, gC_int, gI_int, gAdd_str, gAdd_tup, gAdd_lst, gNeg_int, gIx_tup, gIx_lst, gLen_tup, gLen_lst, gLen_str, gInt_int, gInt_bl, gTuple_lst, gTuple_tup, gList_lst, gList_tup, gSl_tup, gSl_lst, gSl_fl, gSl_str, srcL_tup, srcL_lst, srcL_fl, srcL_str, srcR1_int, typN, startR, List.map_cons, List.map_nil, List.length_cons, List.length_nil, Nat.reduceAdd, Nat.reduceSub, Nat.zero_add, Nat.sub_self, Nat.sub_zero, List.replicate_zero, List.replicate_succ, List.cons_append, List.nil_append, List.append_nil, List.getElem?_cons_zero, List.getElem?_cons_succ, List.set_cons_zero, List.set_cons_succ, List.set_nil, List.getElem?_nil, Option.some.injEq, exists_eq_left', exists_eq_left, exists_eq_right, reduceCtorEq, false_and, and_false, true_and, and_true, exists_false, exists_const, wipeR, Nat.zero_le, String.reduceEq, D.int.injEq, D.str.injEq, D.bl.injEq, atI_0, atI_1, atI_2, atI_3, atI_4, beq_self_eq_true, not_true_eq_false, not_false_eq_true, Int.cast_ofNat_Int, Int.reduceEq, Int.reduceLE, Int.reduceLT, Int.reduceAdd, Int.reduceSub, Int.reduceMul, Int.reduceNeg, if_true, if_false, ite_true, ite_false, Bool.false_eq_true, if_neg, if_pos, decide_eq_true_eq, Bool.not_eq_true', decide_eq_false_iff_not, eq_self_iff_true, decide_true, decide_false, Bool.not_true, Bool.not_false]
      by_cases h5 : v < 5
      · simp only [h5, wp_ok, wp_ret, wp_stuck, wp_bad, wp_bnd, wp_if, wp_fif, wps_ok_nx, wps_ok_rt, wps_ok_bk, wps_ok_ct, wps_ok_xc, wps_bad, wps_lft, wps_seq, wps_nil, wps_ret, wps_expr, wps_asg, wps_if, wp_run, wps_for, wps_while, wp_comp, wp_var, wp_C, wp_bin, wp_un, wp_T, wp_Tb, wp_asBl, wp_truthBl, wp_bAnd, wp_bOr, wp_bNot, wp_eIf, wp_eAnd, wp_eOr, wp_eNot, blCase_bl, wp_chain, wp_aNil, wp_aCons, wp_tup, wp_lst, wp_lstM, wp_call, wp_cl1, wp_cl2, wp_cl3, wp_cl4, wp_cl5, wp_meth, wp_isi, wp_oNone, wp_oSome, wp_sl, wp_it, wp_range1, wp_range2, wp_bYes, gEq_str, gNe_str, gEq_int, gNe_int, gEq_bl, gNe_bl, gIs_bl, gIsNot_bl, gAdd_int, gSub_int, gC_int, gI_int, gAdd_str, gAdd_tup, gAdd_lst, gNeg_int, gIx_tup, gIx_lst, gLen_tup, gLen_lst, gLen_str, gInt_int, gInt_bl, gTuple_lst, gTuple_tup, gList_lst, gList_tup, gSl_tup, gSl_lst, gSl_fl, gSl_str, srcL_tup, srcL_lst, srcL_fl, srcL_str, srcR1_int, typN, startR, List.map_cons, List.map_nil, List.length_cons, List.length_nil, Nat.reduceAdd, Nat.reduceSub, Nat.zero_add, Nat.sub_self, Nat.sub_zero, List.replicate_zero, List.replicate_succ, List.cons_append, List.nil_append, List.append_nil, List.getElem?_cons_zero, List.getElem?_cons_succ, List.set_cons_zero, List.set_cons_succ, List.set_nil, List.getElem?_nil, Option.some.injEq, exists_eq_left', exists_eq_left, exists_eq_right, reduceCtorEq, false_and, and_false, true_and, and_true, exists_false, exists_const, wipeR, Nat.zero_le, String.reduceEq, D.int.injEq, D.str.injEq, D.bl.injEq, atI_0, atI_1, atI_2, atI_3, atI_4, beq_self_eq_true, not_true_eq_false, not_false_eq_true, Int.cast_ofNat_Int, Int.reduceEq, Int.reduceLE, Int.reduceLT, Int.reduceAdd, Int.reduceSub, Int.reduceMul, Int.reduceNeg, if_true, if_false, ite_true, ite_false, Bool.false_eq_true, if_neg, if_pos, decide_eq_true_eq, Bool.not_eq_true', decide_eq_false_iff_not, eq_self_iff_true, decide_true, decide_false, Bool.not_true, Bool.not_false]
        refine ⟨by simp [bnd62]; omega, by rw [rangeD_len]; exact small_line (by omega), ?_⟩
        refine comp_gen (WdG deep) d5 (fun d hd S' dd => ?_) (fun ys S6 hl hy d6 => ?_)
        · simp only [hsub, wp_ok, wp_ret, wp_stuck, wp_bad, wp_bnd, wp_if, wp_fif, wps_ok_nx, wps_ok_rt, wps_ok_bk, wps_ok_ct, wps_ok_xc, wps_bad, wps_lft, wps_seq, wps_nil, wps_ret, wps_expr, wps_asg, wps_if, wp_run, wps_for, wps_while, wp_comp, wp_var, wp_C, wp_bin, wp_un, wp_T, wp_Tb, wp_asBl, wp_truthBl, wp_bAnd, wp_bOr, wp_bNot, wp_eIf, wp_eAnd, wp_eOr, wp_eNot, blCase_bl, wp_chain, wp_aNil, wp_aCons, wp_tup, wp_lst, wp_lstM, wp_call, wp_cl1, wp_cl2, wp_cl3, wp_cl4, wp_cl5, wp_meth, wp_isi, wp_oNone, wp_oSome, wp_sl, wp_it, wp_range1, wp_range2, wp_bYes, gEq_str, gNe_str, gEq_int, gNe_int, gEq_bl, gNe_bl, gIs_bl, gIsNot_bl, gAdd_int, gSub_int, gC_int, gI_int, gAdd_str, gAdd_tup, gAdd_lst, gNeg_int, gIx_tup, gIx_lst, gLen_tup, gLen_lst, gLen_str, gInt_int, gInt_bl, gTuple_lst, gTuple_tup, gList_lst, gList_tup, gSl_tup, gSl_lst, gSl_fl, gSl_str, srcL_tup, srcL_lst, srcL_fl, srcL_str, srcR1_int, typN, startR, List.map_cons, List.map_nil, List.length_cons, List.length_nil, Nat.reduceAdd, Nat.reduceSub, Nat.zero_add, Nat.sub_self, Nat.sub_zero, List.replicate_zero, List.replicate_succ, List.cons_append, List.nil_append, List.append_nil, List.getElem?_cons_zero, List.getElem?_cons_succ, List.set_cons_zero, List.set_cons_succ, List.set_nil, List.getElem?_nil, Option.some.injEq, exists_eq_left', exists_eq_left, exists_eq_right, reduceCtorEq, false_and, and_false, true_and, and_true, exists_false, exists_const, wipeR, Nat.zero_le, String.reduceEq, D.int.injEq, D.str.injEq, D.bl.injEq, atI_0, atI_1, atI_2, atI_3, atI_4, beq_self_eq_true, not_true_eq_false, not_false_eq_true, Int.cast_ofNat_Int, Int.reduceEq, Int.reduceLE, Int.reduceLT, Int.reduceAdd, Int.reduceSub, Int.reduceMul, Int.reduceNeg, if_true, if_false, ite_true, ite_false, Bool.false_eq_true, if_neg, if_pos, decide_eq_true_eq, Bool.not_eq_true', decide_eq_false_iff_not, eq_self_iff_true, decide_true, decide_false, Bool.not_true, Bool.not_false]
          exact word_of ih (by omega) dd fun t S'' ht d7 => ⟨ht, d7⟩
        · rw [rangeD_len] at hl
          refine cut_ok (j := deep) (by omega) (by omega) (by omega) hy d6.wf' fun vs hvl hv => ?_
          have htr : tr (.tup [.str "row", .tup vs]) := by
            have : D.los 0 vs = true := los_iff vs |>.mpr fun w hw => (hv w hw).tr
            simp only [DL.tr, D.lo, D.los, Bool.and_true, Bool.true_and]
            exact this
          exact ⟨small_line (by decide), fin_same d6.wf' htr (by rw [d6.len, h.len]) (hF _ _ (.inr (.inl ⟨vs, rfl, hvl, hv⟩)) d6)⟩
      · simp only [h5, wp_ok, wp_ret, wp_stuck, wp_bad, wp_bnd, wp_if, wp_fif, wps_ok_nx, wps_ok_rt, wps_ok_bk, wps_ok_ct, wps_ok_xc, wps_bad, wps_lft, wps_seq, wps_nil, wps_ret, wps_expr, wps_asg, wps_if, wp_run, wps_for, wps_while, wp_comp, wp_var, wp_C, wp_bin, wp_un, wp_T, wp_Tb, wp_asBl, wp_truthBl, wp_bAnd, wp_bOr, wp_bNot, wp_eIf, wp_eAnd, wp_eOr, wp_eNot, blCase_bl, wp_chain, wp_aNil, wp_aCons, wp_tup, wp_lst, wp_lstM, wp_call, wp_cl1, wp_cl2, wp_cl3, wp_cl4, wp_cl5, wp_meth, wp_isi, wp_oNone, wp_oSome, wp_sl, wp_it, wp_range1, wp_range2, wp_bYes, gEq_str, gNe_str, gEq_int, gNe_int, gEq_bl, gNe_bl, gIs_bl, gIsNot_bl, gAdd_int, gSub_int, gC_int, gI_int, gAdd_str, gAdd_tup, gAdd_lst, gNeg_int, gIx_tup, gIx_lst, gLen_tup, gLen_lst, gLen_str, gInt_int, gInt_bl, gTuple_lst, gTuple_tup, gList_lst, gList_tup, gSl_tup, gSl_lst, gSl_fl, gSl_str, srcL_tup, srcL_lst, srcL_fl, srcL_str, srcR1_int, typN, startR, List.map_cons, List.map_nil, List.length_cons, List.length_nil, Nat.reduceAdd, Nat.reduceSub, Nat.zero_add, Nat.sub_self, Nat.sub_zero, List.replicate_zero, List.replicate_succ, List.cons_append, List.nil_append, List.append_nil, List.getElem?_cons_zero, List.getElem?_cons_succ, List.set_cons_zero, List.set_cons_succ, List.set_nil, List.getElem?_nil, Option.some.injEq, exists_eq_left', exists_eq_left, exists_eq_right, reduceCtorEq, false_and, and_false, true_and, and_true, exists_false, exists_const, wipeR, Nat.zero_le, String.reduceEq, D.int.injEq, D.str.injEq, D.bl.injEq, atI_0, atI_1, atI_2, atI_3, atI_4, beq_self_eq_true, not_true_eq_false, not_false_eq_true, Int.cast_ofNat_Int, Int.reduceEq, Int.reduceLE, Int.reduceLT, Int.reduceAdd, Int.reduceSub, Int.reduceMul, Int.reduceNeg, if_true, if_false, ite_true, ite_false, Bool.false_eq_true, if_neg, if_pos, decide_eq_true_eq, Bool.not_eq_true', decide_eq_false_iff_not, eq_self_iff_true, decide_true, decide_false, Bool.not_true, Bool.not_false]
        refine ⟨by simp [bnd62]; omega, by rw [rangeD_len]; exact small_line (by omega), ?_⟩
        refine comp_gen (ThG deep) d5 (fun d hd S' dd => ?_) (fun ys S6 hl hy d6 => ?_)
        · simp only [hsub, wp_ok, wp_ret, wp_stuck, wp_bad, wp_bnd, wp_if, wp_fif, wps_ok_nx, wps_ok_rt, wps_ok_bk, wps_ok_ct, wps_ok_xc, wps_bad, wps_lft, wps_seq, wps_nil, wps_ret, wps_expr, wps_asg, wps_if, wp_run, wps_for, wps_while, wp_comp, wp_var, wp_C, wp_bin, wp_un, wp_T, wp_Tb, wp_asBl, wp_truthBl, wp_bAnd, wp_bOr, wp_bNot, wp_eIf, wp_eAnd, wp_eOr, wp_eNot, blCase_bl, wp_chain, wp_aNil, wp_aCons, wp_tup, wp_lst, wp_lstM, wp_call, wp_cl1, wp_cl2, wp_cl3, wp_cl4, wp_cl5, wp_meth, wp_isi, wp_oNone, wp_oSome, wp_sl, wp_it, wp_range1, wp_range2, wp_bYes, gEq_str, gNe_str, gEq_int, gNe_int, gEq_bl, gNe_bl, gIs_bl, gIsNot_bl, gAdd_int, gSub_int, gC_int, gI_int, gAdd_str, gAdd_tup, gAdd_lst, gNeg_int, gIx_tup, gIx_lst, gLen_tup, gLen_lst, gLen_str, gInt_int, gInt_bl, gTuple_lst, gTuple_tup, gList_lst, gList_tup, gSl_tup, gSl_lst, gSl_fl, gSl_str, srcL_tup, srcL_lst, srcL_fl, srcL_str, srcR1_int, typN, startR, List.map_cons, List.map_nil, List.length_cons, List.length_nil, Nat.reduceAdd, Nat.reduceSub, Nat.zero_add, Nat.sub_self, Nat.sub_zero, List.replicate_zero, List.replicate_succ, List.cons_append, List.nil_append, List.append_nil, List.getElem?_cons_zero, List.getElem?_cons_succ, List.set_cons_zero, List.set_cons_succ, List.set_nil, List.getElem?_nil, Option.some.injEq, exists_eq_left', exists_eq_left, exists_eq_right, reduceCtorEq, false_and, and_false, true_and, and_true, exists_false, exists_const, wipeR, Nat.zero_le, String.reduceEq, D.int.injEq, D.str.injEq, D.bl.injEq, atI_0, atI_1, atI_2, atI_3, atI_4, beq_self_eq_true, not_true_eq_false, not_false_eq_true, Int.cast_ofNat_Int, Int.reduceEq, Int.reduceLE, Int.reduceLT, Int.reduceAdd, Int.reduceSub, Int.reduceMul, Int.reduceNeg, if_true, if_false, ite_true, ite_false, Bool.false_eq_true, if_neg, if_pos, decide_eq_true_eq, Bool.not_eq_true', decide_eq_false_iff_not, eq_self_iff_true, decide_true, decide_false, Bool.not_true, Bool.not_false]
          exact ih _ _ _ _ (by omega) dd fun t S'' ht d7 => ⟨ht, d7⟩
        · rw [rangeD_len] at hl
          have htr : tr (.tup [.str "list", .tup ys]) := by
            have : D.los 0 ys = true := los_iff ys |>.mpr fun w hw => (hy w hw).tr
            simp only [DL.tr, D.lo, D.los, Bool.and_true, Bool.true_and]
            exact this
          exact ⟨small_line (by decide), fin_same d6.wf' htr (by rw [d6.len, h.len]) (hF _ _ (.inr (.inr ⟨ys, rfl, by omega, hy⟩)) d6)⟩
end K63

namespace K63
open PySem L2 DL
variable {fu n k : Nat} {S S0 : Sto} {F : D → Sto → Prop} {E : Exc → Sto → Prop}
/-! codes at random -/
theorem gTuple_seq {x : D} {ds : List D} (h : iLst S x = some ds) : wp (gTuple [x] S) F E ↔ F (.tup ds) S := by
  unfold gTuple
  simp only [h]
  exact Iff.rfl
theorem atI_last {ds : List D} {x : D} : atI (ds ++ [x]) (-1) = some x := by
  have e : ixN (ds ++ [x]).length (-1) = some ds.length := by
    unfold ixN
    rw [if_neg (by decide), if_pos (by simp; omega)]
    congr 1; simp; omega
  unfold atI; rw [e]; simp
theorem ThG.mono : ∀ {j : Nat} {d : D}, ThG j d → ThG (j + 1) d
  | 0, d, h => .inl h
  | j + 1, d, h => by
    rcases h with h | ⟨ws, e, hl, h⟩ | ⟨ts, e, hl, h⟩
    · exact .inl h
    · refine .inr (.inl ⟨ws, e, hl, fun w hw => ?_⟩)
      rcases h w hw with q | ⟨t, e, q⟩
      · exact .inl q
      · exact .inr ⟨t, e, ThG.mono q⟩
    · exact .inr (.inr ⟨ts, e, hl, fun t ht => ThG.mono (h t ht)⟩)
theorem Reg.tr {m : Nat} {d : D} (h : Reg m d) : tr d := by obtain ⟨i, rfl, _⟩ := h; rfl
theorem trs {ds : List D} (h : ∀ d ∈ ds, tr d) : D.los 0 ds = true := los_iff ds |>.mpr h
theorem tr_tup {ds : List D} (h : ∀ d ∈ ds, tr d) : tr (.tup ds) := trs h
theorem OpG.tr {CG : Nat → Nat → D → Prop} (hC : ∀ t w c, CG t w c → DL.tr c) {m made : Nat} {op : D} (h : OpG CG m made op) : DL.tr op := by
  rcases h with ⟨_, t, rfl, h⟩ | ⟨_, a, rfl, h⟩ | ⟨_, w, a, b, rfl, _, h1, h2⟩ | ⟨one, args, side, other, rfl, h1, h2, _, _, h3, h4⟩
  all_goals refine tr_tup fun d hd => ?_
  all_goals simp only [List.mem_cons, List.not_mem_nil, or_false] at hd
  · rcases hd with rfl | rfl
    · rfl
    · exact h.tr
  · rcases hd with rfl | rfl
    · rfl
    · exact h.tr
  · rcases hd with rfl | rfl | rfl
    · rfl
    · exact h1.tr
    · exact h2.tr
  · rcases hd with rfl | rfl | rfl | rfl | rfl
    · rfl
    · exact h1.tr
    · exact tr_tup fun d hd => (h2 d hd).tr
    · exact hC _ _ _ h3
    · exact hC _ _ _ h4
theorem OpsG.all {CG : Nat → Nat → D → Prop} (hC : ∀ t w c, CG t w c → DL.tr c) : ∀ {ops : List D} {m e : Nat}, OpsG CG m ops e → ∀ d ∈ ops, DL.tr d
  | [], _, _, _, d, hd => (List.not_mem_nil hd).elim
  | op :: r, _, _, ⟨made, h1, h2⟩, d, hd => by
    rcases List.mem_cons.mp hd with rfl | hd
    · exact h1.tr hC
    · exact OpsG.all hC h2 d hd
theorem CodeG.tr : ∀ (j t w : Nat) (c : D), CodeG j t w c → DL.tr c
  | 0, _, _, _, h => h.elim
  | j + 1, t, w, c, ⟨ops, outs, e, hc, h1, h2, h3, h4, h5, h6, h7⟩ => by
    subst hc
    refine tr_tup fun d hd => ?_
    simp only [List.mem_cons, List.not_mem_nil, or_false] at hd
    rcases hd with rfl | rfl | rfl
    · rfl
    · exact tr_tup (h3.all (CodeG.tr j))
    · exact tr_tup fun d hd => (h6 d hd).tr
theorem lmade_ok {k many made : Nat} {op : D} (hS : WF S) (h : OpG (CodeG k) many made op) (hF : F (.int made) S) : wp (den fu (n + 1) i_l_made [op] S) F E := by
  show wp (runDef false 1 (b_l_made fu (den fu n)) _ _) _ _
  rcases h with ⟨rfl, t, rfl, _⟩ | ⟨rfl, a, rfl, _⟩ | ⟨rfl, w, a, b, rfl, hw, _⟩ | ⟨one, args, side, other, rfl, _, _, _, _, h1, h2⟩
  · simp only [b_l_made, fin_int hS, ofString_inj, wp_ok, wp_ret, wp_stuck, wp_bad, wp_bnd, wp_if, wp_fif, wps_ok_nx, wps_ok_rt, wps_ok_bk, wps_ok_ct, wps_ok_xc, wps_bad, wps_lft, wps_seq, wps_nil, wps_ret, wps_expr, wps_asg, wps_if, wp_run, wps_for, wps_while, wp_comp, wp_var, wp_C, wp_bin, wp_un, wp_T, wp_Tb, wp_asBl, wp_truthBl, wp_bAnd, wp_bOr, wp_bNot, wp_eIf, wp_eAnd, wp_eOr, wp_eNot, blCase_bl, wp_chain, wp_aNil, wp_aCons, wp_tup, wp_lst, wp_lstM, wp_call, wp_cl1, wp_cl2, wp_cl3, wp_cl4, wp_cl5, wp_meth, wp_isi, wp_oNone, wp_oSome, wp_sl, wp_it, wp_range1, wp_range2, wp_bYes, gEq_str, gNe_str, gEq_int, gNe_int, gEq_bl, gNe_bl, gIs_bl, gIsNot_bl, gAdd_int, gSub_int, gC_int, gI_int, gAdd_str, gAdd_tup, gAdd_lst, gNeg_int, gIx_tup, gIx_lst, gLen_tup, gLen_lst, gLen_str, gInt_int, gInt_bl, gTuple_lst, gTuple_tup, gList_lst, gList_tup, gSl_tup, gSl_lst, gSl_fl, gSl_str, srcL_tup, srcL_lst, srcL_fl, srcL_str, srcR1_int, typN, startR, List.map_cons, List.map_nil, List.length_cons, List.length_nil, Nat.reduceAdd, Nat.reduceSub, Nat.zero_add, Nat.sub_self, Nat.sub_zero, List.replicate_zero, List.replicate_succ, List.cons_append, List.nil_append, List.append_nil, List.getElem?_cons_zero, List.getElem?_cons_succ, List.set_cons_zero, List.set_cons_succ, List.set_nil, List.getElem?_nil, Option.some.injEq, exists_eq_left', exists_eq_left, exists_eq_right, reduceCtorEq, false_and, and_false, true_and, and_true, exists_false, exists_const, wipeR, Nat.zero_le, String.reduceEq, D.int.injEq, D.str.injEq, D.bl.injEq, atI_0, atI_1, atI_2, atI_3, atI_4, beq_self_eq_true, not_true_eq_false, not_false_eq_true, Int.cast_ofNat_Int, Int.reduceEq, Int.reduceLE, Int.reduceLT, Int.reduceAdd, Int.reduceSub, Int.reduceMul, Int.reduceNeg, if_true, if_false, ite_true, ite_false, Bool.false_eq_true, if_neg, if_pos, decide_eq_true_eq, Bool.not_eq_true', decide_eq_false_iff_not, eq_self_iff_true, decide_true, decide_false, Bool.not_true, Bool.not_false]; exact hF
  · simp only [b_l_made, fin_int hS, ofString_inj, wp_ok, wp_ret, wp_stuck, wp_bad, wp_bnd, wp_if, wp_fif, wps_ok_nx, wps_ok_rt, wps_ok_bk, wps_ok_ct, wps_ok_xc, wps_bad, wps_lft, wps_seq, wps_nil, wps_ret, wps_expr, wps_asg, wps_if, wp_run, wps_for, wps_while, wp_comp, wp_var, wp_C, wp_bin, wp_un, wp_T, wp_Tb, wp_asBl, wp_truthBl, wp_bAnd, wp_bOr, wp_bNot, wp_eIf, wp_eAnd, wp_eOr, wp_eNot, blCase_bl, wp_chain, wp_aNil, wp_aCons, wp_tup, wp_lst, wp_lstM, wp_call, wp_cl1, wp_cl2, wp_cl3, wp_cl4, wp_cl5, wp_meth, wp_isi, wp_oNone, wp_oSome, wp_sl, wp_it, wp_range1, wp_range2, wp_bYes, gEq_str, gNe_str, gEq_int, gNe_int, gEq_bl, gNe_bl, gIs_bl, gIsNot_bl, gAdd_int, gSub_int, gC_int, gI_int, gAdd_str, gAdd_tup, gAdd_lst, gNeg_int, gIx_tup, gIx_lst, gLen_tup, gLen_lst, gLen_str, gInt_int, gInt_bl, gTuple_lst, gTuple_tup, gList_lst, gList_tup, gSl_tup, gSl_lst, gSl_fl, gSl_str, srcL_tup, srcL_lst, srcL_fl, srcL_str, srcR1_int, typN, startR, List.map_cons, List.map_nil, List.length_cons, List.length_nil, Nat.reduceAdd, Nat.reduceSub, Nat.zero_add, Nat.sub_self, Nat.sub_zero, List.replicate_zero, List.replicate_succ, List.cons_append, List.nil_append, List.append_nil, List.getElem?_cons_zero, List.getElem?_cons_succ, List.set_cons_zero, List.set_cons_succ, List.set_nil, List.getElem?_nil, Option.some.injEq, exists_eq_left', exists_eq_left, exists_eq_right, reduceCtorEq, false_and, and_false, true_and, and_true, exists_false, exists_const, wipeR, Nat.zero_le, String.reduceEq, D.int.injEq, D.str.injEq, D.bl.injEq, atI_0, atI_1, atI_2, atI_3, atI_4, beq_self_eq_true, not_true_eq_false, not_false_eq_true, Int.cast_ofNat_Int, Int.reduceEq, Int.reduceLE, Int.reduceLT, Int.reduceAdd, Int.reduceSub, Int.reduceMul, Int.reduceNeg, if_true, if_false, ite_true, ite_false, Bool.false_eq_true, if_neg, if_pos, decide_eq_true_eq, Bool.not_eq_true', decide_eq_false_iff_not, eq_self_iff_true, decide_true, decide_false, Bool.not_true, Bool.not_false]; exact hF
  · have : ¬ w = Str.ofString "if" := fun e => by subst e; revert hw; decide +kernel
    simp only [b_l_made, fin_int hS, this, wp_ok, wp_ret, wp_stuck, wp_bad, wp_bnd, wp_if, wp_fif, wps_ok_nx, wps_ok_rt, wps_ok_bk, wps_ok_ct, wps_ok_xc, wps_bad, wps_lft, wps_seq, wps_nil, wps_ret, wps_expr, wps_asg, wps_if, wp_run, wps_for, wps_while, wp_comp, wp_var, wp_C, wp_bin, wp_un, wp_T, wp_Tb, wp_asBl, wp_truthBl, wp_bAnd, wp_bOr, wp_bNot, wp_eIf, wp_eAnd, wp_eOr, wp_eNot, blCase_bl, wp_chain, wp_aNil, wp_aCons, wp_tup, wp_lst, wp_lstM, wp_call, wp_cl1, wp_cl2, wp_cl3, wp_cl4, wp_cl5, wp_meth, wp_isi, wp_oNone, wp_oSome, wp_sl, wp_it, wp_range1, wp_range2, wp_bYes, gEq_str, gNe_str, gEq_int, gNe_int, gEq_bl, gNe_bl, gIs_bl, gIsNot_bl, gAdd_int, gSub_int, gC_int, gI_int, gAdd_str, gAdd_tup, gAdd_lst, gNeg_int, gIx_tup, gIx_lst, gLen_tup, gLen_lst, gLen_str, gInt_int, gInt_bl, gTuple_lst, gTuple_tup, gList_lst, gList_tup, gSl_tup, gSl_lst, gSl_fl, gSl_str, srcL_tup, srcL_lst, srcL_fl, srcL_str, srcR1_int, typN, startR, List.map_cons, List.map_nil, List.length_cons, List.length_nil, Nat.reduceAdd, Nat.reduceSub, Nat.zero_add, Nat.sub_self, Nat.sub_zero, List.replicate_zero, List.replicate_succ, List.cons_append, List.nil_append, List.append_nil, List.getElem?_cons_zero, List.getElem?_cons_succ, List.set_cons_zero, List.set_cons_succ, List.set_nil, List.getElem?_nil, Option.some.injEq, exists_eq_left', exists_eq_left, exists_eq_right, reduceCtorEq, false_and, and_false, true_and, and_true, exists_false, exists_const, wipeR, Nat.zero_le, String.reduceEq, D.int.injEq, D.str.injEq, D.bl.injEq, atI_0, atI_1, atI_2, atI_3, atI_4, beq_self_eq_true, not_true_eq_false, not_false_eq_true, Int.cast_ofNat_Int, Int.reduceEq, Int.reduceLE, Int.reduceLT, Int.reduceAdd, Int.reduceSub, Int.reduceMul, Int.reduceNeg, if_true, if_false, ite_true, ite_false, Bool.false_eq_true, if_neg, if_pos, decide_eq_true_eq, Bool.not_eq_true', decide_eq_false_iff_not, eq_self_iff_true, decide_true, decide_false, Bool.not_true, Bool.not_false]; exact hF
  · obtain ⟨ops, outs, e, rfl, hl, _⟩ := h1.shape
    simp only [b_l_made, fin_int hS, hl, wp_ok, wp_ret, wp_stuck, wp_bad, wp_bnd, wp_if, wp_fif, wps_ok_nx, wps_ok_rt, wps_ok_bk, wps_ok_ct, wps_ok_xc, wps_bad, wps_lft, wps_seq, wps_nil, wps_ret, wps_expr, wps_asg, wps_if, wp_run, wps_for, wps_while, wp_comp, wp_var, wp_C, wp_bin, wp_un, wp_T, wp_Tb, wp_asBl, wp_truthBl, wp_bAnd, wp_bOr, wp_bNot, wp_eIf, wp_eAnd, wp_eOr, wp_eNot, blCase_bl, wp_chain, wp_aNil, wp_aCons, wp_tup, wp_lst, wp_lstM, wp_call, wp_cl1, wp_cl2, wp_cl3, wp_cl4, wp_cl5, wp_meth, wp_isi, wp_oNone, wp_oSome, wp_sl, wp_it, wp_range1, wp_range2, wp_bYes, gEq_str, gNe_str, gEq_int, gNe_int, gEq_bl, gNe_bl, gIs_bl, gIsNot_bl, gAdd_int, gSub_int, gC_int, gI_int, gAdd_str, gAdd_tup, gAdd_lst, gNeg_int, gIx_tup, gIx_lst, gLen_tup, gLen_lst, gLen_str, gInt_int, gInt_bl, gTuple_lst, gTuple_tup, gList_lst, gList_tup, gSl_tup, gSl_lst, gSl_fl, gSl_str, srcL_tup, srcL_lst, srcL_fl, srcL_str, srcR1_int, typN, startR, List.map_cons, List.map_nil, List.length_cons, List.length_nil, Nat.reduceAdd, Nat.reduceSub, Nat.zero_add, Nat.sub_self, Nat.sub_zero, List.replicate_zero, List.replicate_succ, List.cons_append, List.nil_append, List.append_nil, List.getElem?_cons_zero, List.getElem?_cons_succ, List.set_cons_zero, List.set_cons_succ, List.set_nil, List.getElem?_nil, Option.some.injEq, exists_eq_left', exists_eq_left, exists_eq_right, reduceCtorEq, false_and, and_false, true_and, and_true, exists_false, exists_const, wipeR, Nat.zero_le, String.reduceEq, D.int.injEq, D.str.injEq, D.bl.injEq, atI_0, atI_1, atI_2, atI_3, atI_4, beq_self_eq_true, not_true_eq_false, not_false_eq_true, Int.cast_ofNat_Int, Int.reduceEq, Int.reduceLE, Int.reduceLT, Int.reduceAdd, Int.reduceSub, Int.reduceMul, Int.reduceNeg, if_true, if_false, ite_true, ite_false, Bool.false_eq_true, if_neg, if_pos, decide_eq_true_eq, Bool.not_eq_true', decide_eq_false_iff_not, eq_self_iff_true, decide_true, decide_false, Bool.not_true, Bool.not_false]; exact hF
/-- a draw of a register -/
theorem draw_reg {m : Nat} {N : Nat} (hN : 2 ≤ N) (h : DK k S0 S) (hm : 0 < m) (hm2 : m ≤ 1000) (hF : ∀ (v : D) (S' : Sto), Reg m v → DK k S0 S' → F v S') : wp (den fu N i_l_draw [.ref k, .int (m : Nat)] S) F E :=
  draw_ok hN h (by omega) (by omega) fun v S' h0 h1 d => hF _ _ ⟨v.toNat, by rw [Int.toNat_of_nonneg h0], by omega⟩ d
def opNames : List Str := ["push", "plus", "minus", "times", "less", "same", "put", "join", "wrap", "if", "if"]
theorem opNames_ok : ∀ z ∈ opNames, z = Str.ofString "push" ∨ z = Str.ofString "if" ∨ z = Str.ofString "wrap" ∨ (z ∈ pairs ∧ z ≠ Str.ofString "push" ∧ z ≠ Str.ofString "if" ∧ z ≠ Str.ofString "wrap") := by decide +kernel
/-- the end of an op that is not a choice; the choice is given -/
theorem op_gen (hfu : 1000 ≤ fu) (deep : Nat) (hC : ∀ (t w N : Nat) (S : Sto) (F : D → Sto → Prop) (E : Exc → Sto → Prop), 0 < deep → t ≤ 4 → w ≤ 5 → 12 + 2 * deep ≤ N → DK k S0 S → (∀ c S', CodeG deep t w c → DK k S0 S' → F c S') → wp (den fu N i_l_code [.ref k, .int t, .int w, .int ((deep : Int) - 1)] S) F E)
    {many N : Nat} (hm : many ≤ 100) (hN : 13 + 2 * deep ≤ N) (h : DK k S0 S) (hF : ∀ made op S', OpG (CodeG deep) many made op → DK k S0 S' → F op S') : wp (den fu N i_l_op [.ref k, .int many, .int deep] S) F E := by
  obtain ⟨N', rfl⟩ : ∃ N', N = N' + 1 := ⟨N - 1, by omega⟩
  show wp (runDef false 8 (b_l_op fu (den fu N')) _ _) _ _
  simp only [b_l_op, wp_ok, wp_ret, wp_stuck, wp_bad, wp_bnd, wp_if, wp_fif, wps_ok_nx, wps_ok_rt, wps_ok_bk, wps_ok_ct, wps_ok_xc, wps_bad, wps_lft, wps_seq, wps_nil, wps_ret, wps_expr, wps_asg, wps_if, wp_run, wps_for, wps_while, wp_comp, wp_var, wp_C, wp_bin, wp_un, wp_T, wp_Tb, wp_asBl, wp_truthBl, wp_bAnd, wp_bOr, wp_bNot, wp_eIf, wp_eAnd, wp_eOr, wp_eNot, blCase_bl, wp_chain, wp_aNil, wp_aCons, wp_tup, wp_lst, wp_lstM, wp_call, wp_cl1, wp_cl2, wp_cl3, wp_cl4, wp_cl5, wp_meth, wp_isi, wp_oNone, wp_oSome, wp_sl, wp_it, wp_range1, wp_range2, wp_bYes, gEq_str, gNe_str, gEq_int, gNe_int, gEq_bl, gNe_bl, gIs_bl, gIsNot_bl, gAdd_int, gSub_int, gC_int, gI_int, gAdd_str, gAdd_tup, gAdd_lst, gNeg_int, gIx_tup, gIx_lst, gLen_tup, gLen_lst, gLen_str, gInt_int, gInt_bl, gTuple_lst, gTuple_tup, gList_lst, gList_tup, gSl_tup, gSl_lst, gSl_fl, gSl_str, srcL_tup, srcL_lst, srcL_fl, srcL_str, srcR1_int, typN, startR, List.map_cons, List.map_nil, List.length_cons, List.length_nil, Nat.reduceAdd, Nat.reduceSub, Nat.zero_add, Nat.sub_self, Nat.sub_zero, List.replicate_zero, List.replicate_succ, List.cons_append, List.nil_append, List.append_nil, List.getElem?_cons_zero, List.getElem?_cons_succ, List.set_cons_zero, List.set_cons_succ, List.set_nil, List.getElem?_nil, Option.some.injEq, exists_eq_left', exists_eq_left, exists_eq_right, reduceCtorEq, false_and, and_false, true_and, and_true, exists_false, exists_const, wipeR, Nat.zero_le, String.reduceEq, D.int.injEq, D.str.injEq, D.bl.injEq, atI_0, atI_1, atI_2, atI_3, atI_4, beq_self_eq_true, not_true_eq_false, not_false_eq_true, Int.cast_ofNat_Int, Int.reduceEq, Int.reduceLE, Int.reduceLT, Int.reduceAdd, Int.reduceSub, Int.reduceMul, Int.reduceNeg, if_true, if_false, ite_true, ite_false, Bool.false_eq_true, if_neg, if_pos, decide_eq_true_eq, Bool.not_eq_true', decide_eq_false_iff_not, eq_self_iff_true, decide_true, decide_false, Bool.not_true, Bool.not_false]
  refine ⟨small_line (by decide), draw_ok (by omega) h (by decide) (by decide) fun v S1 hv0 hv1 d1 => ?_⟩
  rw [gIx_lst]
  obtain ⟨x, hx, e⟩ := atI_mem (ds := opNames.map D.str) hv0 hv1
  refine ⟨x, e, ?_⟩
  obtain ⟨z, hz, rfl⟩ := List.mem_map.mp hx
  have fin : ∀ (made : Nat) (op : D) (S' : Sto), OpG (CodeG deep) many made op → DK k S0 S' → wp (finD false S.length op S') F E := fun made op S' ho hd => fin_same hd.wf' (ho.tr (CodeG.tr deep)) (by rw [hd.len, h.len]) (hF made op S' ho hd)
  have push : ∀ S', DK k S0 S' → wp (den fu N' i_l_thing [.ref k, .int 2] S') (fun x S2 => 2 ≤ sizeLine ∧ wp (finD false S.length (.tup [.str "push", x]) S2) F E) (fun e S' => E e S') := fun S' hd =>
    thing_gen hfu 2 N' S' _ _ (by omega) hd fun t S2 ht d2 => ⟨small_line (by decide), fin 1 _ S2 (.inl ⟨rfl, t, rfl, ht⟩) d2⟩
  simp only [wp_ok, wp_ret, wp_stuck, wp_bad, wp_bnd, wp_if, wp_fif, wps_ok_nx, wps_ok_rt, wps_ok_bk, wps_ok_ct, wps_ok_xc, wps_bad, wps_lft, wps_seq, wps_nil, wps_ret, wps_expr, wps_asg, wps_if, wp_run, wps_for, wps_while, wp_comp, wp_var, wp_C, wp_bin, wp_un, wp_T, wp_Tb, wp_asBl, wp_truthBl, wp_bAnd, wp_bOr, wp_bNot, wp_eIf, wp_eAnd, wp_eOr, wp_eNot, blCase_bl, wp_chain, wp_aNil, wp_aCons, wp_tup, wp_lst, wp_lstM, wp_call, wp_cl1, wp_cl2, wp_cl3, wp_cl4, wp_cl5, wp_meth, wp_isi, wp_oNone, wp_oSome, wp_sl, wp_it, wp_range1, wp_range2, wp_bYes, gEq_str, gNe_str, gEq_int, gNe_int, gEq_bl, gNe_bl, gIs_bl, gIsNot_bl, gAdd_int, gSub_int, gC_int, gI_int, gAdd_str, gAdd_tup, gAdd_lst, gNeg_int, gIx_tup, gIx_lst, gLen_tup, gLen_lst, gLen_str, gInt_int, gInt_bl, gTuple_lst, gTuple_tup, gList_lst, gList_tup, gSl_tup, gSl_lst, gSl_fl, gSl_str, srcL_tup, srcL_lst, srcL_fl, srcL_str, srcR1_int, typN, startR, List.map_cons, List.map_nil, List.length_cons, List.length_nil, Nat.reduceAdd, Nat.reduceSub, Nat.zero_add, Nat.sub_self, Nat.sub_zero, List.replicate_zero, List.replicate_succ, List.cons_append, List.nil_append, List.append_nil, List.getElem?_cons_zero, List.getElem?_cons_succ, List.set_cons_zero, List.set_cons_succ, List.set_nil, List.getElem?_nil, Option.some.injEq, exists_eq_left', exists_eq_left, exists_eq_right, reduceCtorEq, false_and, and_false, true_and, and_true, exists_false, exists_const, wipeR, Nat.zero_le, String.reduceEq, D.int.injEq, D.str.injEq, D.bl.injEq, atI_0, atI_1, atI_2, atI_3, atI_4, beq_self_eq_true, not_true_eq_false, not_false_eq_true, Int.cast_ofNat_Int, Int.reduceEq, Int.reduceLE, Int.reduceLT, Int.reduceAdd, Int.reduceSub, Int.reduceMul, Int.reduceNeg, if_true, if_false, ite_true, ite_false, Bool.false_eq_true, if_neg, if_pos, decide_eq_true_eq, Bool.not_eq_true', decide_eq_false_iff_not, eq_self_iff_true, decide_true, decide_false, Bool.not_true, Bool.not_false]
  by_cases hm0 : (many : Int) = 0
  · simp only [hm0, wp_ok, wp_ret, wp_stuck, wp_bad, wp_bnd, wp_if, wp_fif, wps_ok_nx, wps_ok_rt, wps_ok_bk, wps_ok_ct, wps_ok_xc, wps_bad, wps_lft, wps_seq, wps_nil, wps_ret, wps_expr, wps_asg, wps_if, wp_run, wps_for, wps_while, wp_comp, wp_var, wp_C, wp_bin, wp_un, wp_T, wp_Tb, wp_asBl, wp_truthBl, wp_bAnd, wp_bOr, wp_bNot, wp_eIf, wp_eAnd, wp_eOr, wp_eNot, blCase_bl, wp_chain, wp_aNil, wp_aCons, wp_tup, wp_lst, wp_lstM, wp_call, wp_cl1, wp_cl2, wp_cl3, wp_cl4, wp_cl5, wp_meth, wp_isi, wp_oNone, wp_oSome, wp_sl, wp_it, wp_range1, wp_range2, wp_bYes, gEq_str, gNe_str, gEq_int, gNe_int, gEq_bl, gNe_bl, gIs_bl, gIsNot_bl, gAdd_int, gSub_int, gC_int, gI_int, gAdd_str, gAdd_tup, gAdd_lst, gNeg_int, gIx_tup, gIx_lst, gLen_tup, gLen_lst, gLen_str, gInt_int, gInt_bl, gTuple_lst, gTuple_tup, gList_lst, gList_tup, gSl_tup, gSl_lst, gSl_fl, gSl_str, srcL_tup, srcL_lst, srcL_fl, srcL_str, srcR1_int, typN, startR, List.map_cons, List.map_nil, List.length_cons, List.length_nil, Nat.reduceAdd, Nat.reduceSub, Nat.zero_add, Nat.sub_self, Nat.sub_zero, List.replicate_zero, List.replicate_succ, List.cons_append, List.nil_append, List.append_nil, List.getElem?_cons_zero, List.getElem?_cons_succ, List.set_cons_zero, List.set_cons_succ, List.set_nil, List.getElem?_nil, Option.some.injEq, exists_eq_left', exists_eq_left, exists_eq_right, reduceCtorEq, false_and, and_false, true_and, and_true, exists_false, exists_const, wipeR, Nat.zero_le, String.reduceEq, D.int.injEq, D.str.injEq, D.bl.injEq, atI_0, atI_1, atI_2, atI_3, atI_4, beq_self_eq_true, not_true_eq_false, not_false_eq_true, Int.cast_ofNat_Int, Int.reduceEq, Int.reduceLE, Int.reduceLT, Int.reduceAdd, Int.reduceSub, Int.reduceMul, Int.reduceNeg, if_true, if_false, ite_true, ite_false, Bool.false_eq_true, if_neg, if_pos, decide_eq_true_eq, Bool.not_eq_true', decide_eq_false_iff_not, eq_self_iff_true, decide_true, decide_false, Bool.not_true, Bool.not_false]
    exact push S1 d1
  · simp only [hm0, wp_ok, wp_ret, wp_stuck, wp_bad, wp_bnd, wp_if, wp_fif, wps_ok_nx, wps_ok_rt, wps_ok_bk, wps_ok_ct, wps_ok_xc, wps_bad, wps_lft, wps_seq, wps_nil, wps_ret, wps_expr, wps_asg, wps_if, wp_run, wps_for, wps_while, wp_comp, wp_var, wp_C, wp_bin, wp_un, wp_T, wp_Tb, wp_asBl, wp_truthBl, wp_bAnd, wp_bOr, wp_bNot, wp_eIf, wp_eAnd, wp_eOr, wp_eNot, blCase_bl, wp_chain, wp_aNil, wp_aCons, wp_tup, wp_lst, wp_lstM, wp_call, wp_cl1, wp_cl2, wp_cl3, wp_cl4, wp_cl5, wp_meth, wp_isi, wp_oNone, wp_oSome, wp_sl, wp_it, wp_range1, wp_range2, wp_bYes, gEq_str, gNe_str, gEq_int, gNe_int, gEq_bl, gNe_bl, gIs_bl, gIsNot_bl, gAdd_int, gSub_int, gC_int, gI_int, gAdd_str, gAdd_tup, gAdd_lst, gNeg_int, gIx_tup, gIx_lst, gLen_tup, gLen_lst, gLen_str, gInt_int, gInt_bl, gTuple_lst, gTuple_tup, gList_lst, gList_tup, gSl_tup, gSl_lst, gSl_fl, gSl_str, srcL_tup, srcL_lst, srcL_fl, srcL_str, srcR1_int, typN, startR, List.map_cons, List.map_nil, List.length_cons, List.length_nil, Nat.reduceAdd, Nat.reduceSub, Nat.zero_add, Nat.sub_self, Nat.sub_zero, List.replicate_zero, List.replicate_succ, List.cons_append, List.nil_append, List.append_nil, List.getElem?_cons_zero, List.getElem?_cons_succ, List.set_cons_zero, List.set_cons_succ, List.set_nil, List.getElem?_nil, Option.some.injEq, exists_eq_left', exists_eq_left, exists_eq_right, reduceCtorEq, false_and, and_false, true_and, and_true, exists_false, exists_const, wipeR, Nat.zero_le, String.reduceEq, D.int.injEq, D.str.injEq, D.bl.injEq, atI_0, atI_1, atI_2, atI_3, atI_4, beq_self_eq_true, not_true_eq_false, not_false_eq_true, Int.cast_ofNat_Int, Int.reduceEq, Int.reduceLE, Int.reduceLT, Int.reduceAdd, Int.reduceSub, Int.reduceMul, Int.reduceNeg, if_true, if_false, ite_true, ite_false, Bool.false_eq_true, if_neg, if_pos, decide_eq_true_eq, Bool.not_eq_true', decide_eq_false_iff_not, eq_self_iff_true, decide_true, decide_false, Bool.not_true, Bool.not_false]
    have hmp : 0 < many := by omega
    rcases opNames_ok z hz with rfl | rfl | rfl | ⟨hp, n1, n2, n3⟩
    · simp only [wp_ok, wp_ret, wp_stuck, wp_bad, wp_bnd, wp_if, wp_fif, wps_ok_nx, wps_ok_rt, wps_ok_bk, wps_ok_ct, wps_ok_xc, wps_bad, wps_lft, wps_seq, wps_nil, wps_ret, wps_expr, wps_asg, wps_if, wp_run, wps_for, wps_while, wp_comp, wp_var, wp_C, wp_bin, wp_un, wp_T, wp_Tb, wp_asBl, wp_truthBl, wp_bAnd, wp_bOr, wp_bNot, wp_eIf, wp_eAnd, wp_eOr, wp_eNot, blCase_bl, wp_chain, wp_aNil, wp_aCons, wp_tup, wp_lst, wp_lstM, wp_call, wp_cl1, wp_cl2, wp_cl3, wp_cl4, wp_cl5, wp_meth, wp_isi, wp_oNone, wp_oSome, wp_sl, wp_it, wp_range1, wp_range2, wp_bYes, gEq_str, gNe_str, gEq_int, gNe_int, gEq_bl, gNe_bl, gIs_bl, gIsNot_bl, gAdd_int, gSub_int, gC_int, gI_int, gAdd_str, gAdd_tup, gAdd_lst, gNeg_int, gIx_tup, gIx_lst, gLen_tup, gLen_lst, gLen_str, gInt_int, gInt_bl, gTuple_lst, gTuple_tup, gList_lst, gList_tup, gSl_tup, gSl_lst, gSl_fl, gSl_str, srcL_tup, srcL_lst, srcL_fl, srcL_str, srcR1_int, typN, startR, List.map_cons, List.map_nil, List.length_cons, List.length_nil, Nat.reduceAdd, Nat.reduceSub, Nat.zero_add, Nat.sub_self, Nat.sub_zero, List.replicate_zero, List.replicate_succ, List.cons_append, List.nil_append, List.append_nil, List.getElem?_cons_zero, List.getElem?_cons_succ, List.set_cons_zero, List.set_cons_succ, List.set_nil, List.getElem?_nil, Option.some.injEq, exists_eq_left', exists_eq_left, exists_eq_right, reduceCtorEq, false_and, and_false, true_and, and_true, exists_false, exists_const, wipeR, Nat.zero_le, String.reduceEq, D.int.injEq, D.str.injEq, D.bl.injEq, atI_0, atI_1, atI_2, atI_3, atI_4, beq_self_eq_true, not_true_eq_false, not_false_eq_true, Int.cast_ofNat_Int, Int.reduceEq, Int.reduceLE, Int.reduceLT, Int.reduceAdd, Int.reduceSub, Int.reduceMul, Int.reduceNeg, if_true, if_false, ite_true, ite_false, Bool.false_eq_true, if_neg, if_pos, decide_eq_true_eq, Bool.not_eq_true', decide_eq_false_iff_not, eq_self_iff_true, decide_true, decide_false, Bool.not_true, Bool.not_false]
      exact push S1 d1
    · simp only [ofString_inj, wp_ok, wp_ret, wp_stuck, wp_bad, wp_bnd, wp_if, wp_fif, wps_ok_nx, wps_ok_rt, wps_ok_bk, wps_ok_ct, wps_ok_xc, wps_bad, wps_lft, wps_seq, wps_nil, wps_ret, wps_expr, wps_asg, wps_if, wp_run, wps_for, wps_while, wp_comp, wp_var, wp_C, wp_bin, wp_un, wp_T, wp_Tb, wp_asBl, wp_truthBl, wp_bAnd, wp_bOr, wp_bNot, wp_eIf, wp_eAnd, wp_eOr, wp_eNot, blCase_bl, wp_chain, wp_aNil, wp_aCons, wp_tup, wp_lst, wp_lstM, wp_call, wp_cl1, wp_cl2, wp_cl3, wp_cl4, wp_cl5, wp_meth, wp_isi, wp_oNone, wp_oSome, wp_sl, wp_it, wp_range1, wp_range2, wp_bYes, gEq_str, gNe_str, gEq_int, gNe_int, gEq_bl, gNe_bl, gIs_bl, gIsNot_bl, gAdd_int, gSub_int, gC_int, gI_int, gAdd_str, gAdd_tup, gAdd_lst, gNeg_int, gIx_tup, gIx_lst, gLen_tup, gLen_lst, gLen_str, gInt_int, gInt_bl, gTuple_lst, gTuple_tup, gList_lst, gList_tup, gSl_tup, gSl_lst, gSl_fl, gSl_str, srcL_tup, srcL_lst, srcL_fl, srcL_str, srcR1_int, typN, startR, List.map_cons, List.map_nil, List.length_cons, List.length_nil, Nat.reduceAdd, Nat.reduceSub, Nat.zero_add, Nat.sub_self, Nat.sub_zero, List.replicate_zero, List.replicate_succ, List.cons_append, List.nil_append, List.append_nil, List.getElem?_cons_zero, List.getElem?_cons_succ, List.set_cons_zero, List.set_cons_succ, List.set_nil, List.getElem?_nil, Option.some.injEq, exists_eq_left', exists_eq_left, exists_eq_right, reduceCtorEq, false_and, and_false, true_and, and_true, exists_false, exists_const, wipeR, Nat.zero_le, String.reduceEq, D.int.injEq, D.str.injEq, D.bl.injEq, atI_0, atI_1, atI_2, atI_3, atI_4, beq_self_eq_true, not_true_eq_false, not_false_eq_true, Int.cast_ofNat_Int, Int.reduceEq, Int.reduceLE, Int.reduceLT, Int.reduceAdd, Int.reduceSub, Int.reduceMul, Int.reduceNeg, if_true, if_false, ite_true, ite_false, Bool.false_eq_true, if_neg, if_pos, decide_eq_true_eq, Bool.not_eq_true', decide_eq_false_iff_not, eq_self_iff_true, decide_true, decide_false, Bool.not_true, Bool.not_false]
      by_cases hd0 : (deep : Int) = 0
      · simp only [hd0, wp_ok, wp_ret, wp_stuck, wp_bad, wp_bnd, wp_if, wp_fif, wps_ok_nx, wps_ok_rt, wps_ok_bk, wps_ok_ct, wps_ok_xc, wps_bad, wps_lft, wps_seq, wps_nil, wps_ret, wps_expr, wps_asg, wps_if, wp_run, wps_for, wps_while, wp_comp, wp_var, wp_C, wp_bin, wp_un, wp_T, wp_Tb, wp_asBl, wp_truthBl, wp_bAnd, wp_bOr, wp_bNot, wp_eIf, wp_eAnd, wp_eOr, wp_eNot, blCase_bl, wp_chain, wp_aNil, wp_aCons, wp_tup, wp_lst, wp_lstM, wp_call, wp_cl1, wp_cl2, wp_cl3, wp_cl4, wp_cl5, wp_meth, wp_isi, wp_oNone, wp_oSome, wp_sl, wp_it, wp_range1, wp_range2, wp_bYes, gEq_str, gNe_str, gEq_int, gNe_int, gEq_bl, gNe_bl, gIs_bl, gIsNot_bl, gAdd_int, gSub_int, gC_int, gI_int, gAdd_str, gAdd_tup, gAdd_lst, gNeg_int, gIx_tup, gIx_lst, gLen_tup, gLen_lst, gLen_str, gInt_int, gInt_bl, gTuple_lst, gTuple_tup, gList_lst, gList_tup, gSl_tup, gSl_lst, gSl_fl, gSl_str, srcL_tup, srcL_lst, srcL_fl, srcL_str, srcR1_int, typN, startR, List.map_cons, List.map_nil, List.length_cons, List.length_nil, Nat.reduceAdd, Nat.reduceSub, Nat.zero_add, Nat.sub_self, Nat.sub_zero, List.replicate_zero, List.replicate_succ, List.cons_append, List.nil_append, List.append_nil, List.getElem?_cons_zero, List.getElem?_cons_succ, List.set_cons_zero, List.set_cons_succ, List.set_nil, List.getElem?_nil, Option.some.injEq, exists_eq_left', exists_eq_left, exists_eq_right, reduceCtorEq, false_and, and_false, true_and, and_true, exists_false, exists_const, wipeR, Nat.zero_le, String.reduceEq, D.int.injEq, D.str.injEq, D.bl.injEq, atI_0, atI_1, atI_2, atI_3, atI_4, beq_self_eq_true, not_true_eq_false, not_false_eq_true, Int.cast_ofNat_Int, Int.reduceEq, Int.reduceLE, Int.reduceLT, Int.reduceAdd, Int.reduceSub, Int.reduceMul, Int.reduceNeg, if_true, if_false, ite_true, ite_false, Bool.false_eq_true, if_neg, if_pos, decide_eq_true_eq, Bool.not_eq_true', decide_eq_false_iff_not, eq_self_iff_true, decide_true, decide_false, Bool.not_true, Bool.not_false]
        exact push S1 d1
      · simp only [hd0, wp_ok, wp_ret, wp_stuck, wp_bad, wp_bnd, wp_if, wp_fif, wps_ok_nx, wps_ok_rt, wps_ok_bk, wps_ok_ct, wps_ok_xc, wps_bad, wps_lft, wps_seq, wps_nil, wps_ret, wps_expr, wps_asg, wps_if, wp_run, wps_for, wps_while, wp_comp, wp_var, wp_C, wp_bin, wp_un, wp_T, wp_Tb, wp_asBl, wp_truthBl, wp_bAnd, wp_bOr, wp_bNot, wp_eIf, wp_eAnd, wp_eOr, wp_eNot, blCase_bl, wp_chain, wp_aNil, wp_aCons, wp_tup, wp_lst, wp_lstM, wp_call, wp_cl1, wp_cl2, wp_cl3, wp_cl4, wp_cl5, wp_meth, wp_isi, wp_oNone, wp_oSome, wp_sl, wp_it, wp_range1, wp_range2, wp_bYes, gEq_str, gNe_str, gEq_int, gNe_int, gEq_bl, gNe_bl, gIs_bl, gIsNot_bl, gAdd_int, gSub_int, gC_int, gI_int, gAdd_str, gAdd_tup, gAdd_lst, gNeg_int, gIx_tup, gIx_lst, gLen_tup, gLen_lst, gLen_str, gInt_int, gInt_bl, gTuple_lst, gTuple_tup, gList_lst, gList_tup, gSl_tup, gSl_lst, gSl_fl, gSl_str, srcL_tup, srcL_lst, srcL_fl, srcL_str, srcR1_int, typN, startR, List.map_cons, List.map_nil, List.length_cons, List.length_nil, Nat.reduceAdd, Nat.reduceSub, Nat.zero_add, Nat.sub_self, Nat.sub_zero, List.replicate_zero, List.replicate_succ, List.cons_append, List.nil_append, List.append_nil, List.getElem?_cons_zero, List.getElem?_cons_succ, List.set_cons_zero, List.set_cons_succ, List.set_nil, List.getElem?_nil, Option.some.injEq, exists_eq_left', exists_eq_left, exists_eq_right, reduceCtorEq, false_and, and_false, true_and, and_true, exists_false, exists_const, wipeR, Nat.zero_le, String.reduceEq, D.int.injEq, D.str.injEq, D.bl.injEq, atI_0, atI_1, atI_2, atI_3, atI_4, beq_self_eq_true, not_true_eq_false, not_false_eq_true, Int.cast_ofNat_Int, Int.reduceEq, Int.reduceLE, Int.reduceLT, Int.reduceAdd, Int.reduceSub, Int.reduceMul, Int.reduceNeg, if_true, if_false, ite_true, ite_false, Bool.false_eq_true, if_neg, if_pos, decide_eq_true_eq, Bool.not_eq_true', decide_eq_false_iff_not, eq_self_iff_true, decide_true, decide_false, Bool.not_true, Bool.not_false]
        have hdp : 0 < deep := by omega
        refine draw_ok (by omega) d1 (by decide) (by decide) fun v2 S2 q0 q1 d2 => ?_
        rw [srcR1_int]
        refine ⟨by simp [bnd62]; omega, by rw [rangeD_len]; exact small_line (by omega), ?_⟩
        refine comp_gen (Reg many) d2 (fun d hd S' dd => ?_) (fun args S3 hl hy d3 => ?_)
        · simp only [wp_ok, wp_ret, wp_stuck, wp_bad, wp_bnd, wp_if, wp_fif, wps_ok_nx, wps_ok_rt, wps_ok_bk, wps_ok_ct, wps_ok_xc, wps_bad, wps_lft, wps_seq, wps_nil, wps_ret, wps_expr, wps_asg, wps_if, wp_run, wps_for, wps_while, wp_comp, wp_var, wp_C, wp_bin, wp_un, wp_T, wp_Tb, wp_asBl, wp_truthBl, wp_bAnd, wp_bOr, wp_bNot, wp_eIf, wp_eAnd, wp_eOr, wp_eNot, blCase_bl, wp_chain, wp_aNil, wp_aCons, wp_tup, wp_lst, wp_lstM, wp_call, wp_cl1, wp_cl2, wp_cl3, wp_cl4, wp_cl5, wp_meth, wp_isi, wp_oNone, wp_oSome, wp_sl, wp_it, wp_range1, wp_range2, wp_bYes, gEq_str, gNe_str, gEq_int, gNe_int, gEq_bl, gNe_bl, gIs_bl, gIsNot_bl, gAdd_int, gSub_int, gC_int, gI_int, gAdd_str, gAdd_tup, gAdd_lst, gNeg_int, gIx_tup, gIx_lst, gLen_tup, gLen_lst, gLen_str, gInt_int, gInt_bl, gTuple_lst, gTuple_tup, gList_lst, gList_tup, gSl_tup, gSl_lst, gSl_fl, gSl_str, srcL_tup, srcL_lst, srcL_fl, srcL_str, srcR1_int, typN, startR, List.map_cons, List.map_nil, List.length_cons, List.length_nil, Nat.reduceAdd, Nat.reduceSub, Nat.zero_add, Nat.sub_self, Nat.sub_zero, List.replicate_zero, List.replicate_succ, List.cons_append, List.nil_append, List.append_nil, List.getElem?_cons_zero, List.getElem?_cons_succ, List.set_cons_zero, List.set_cons_succ, List.set_nil, List.getElem?_nil, Option.some.injEq, exists_eq_left', exists_eq_left, exists_eq_right, reduceCtorEq, false_and, and_false, true_and, and_true, exists_false, exists_const, wipeR, Nat.zero_le, String.reduceEq, D.int.injEq, D.str.injEq, D.bl.injEq, atI_0, atI_1, atI_2, atI_3, atI_4, beq_self_eq_true, not_true_eq_false, not_false_eq_true, Int.cast_ofNat_Int, Int.reduceEq, Int.reduceLE, Int.reduceLT, Int.reduceAdd, Int.reduceSub, Int.reduceMul, Int.reduceNeg, if_true, if_false, ite_true, ite_false, Bool.false_eq_true, if_neg, if_pos, decide_eq_true_eq, Bool.not_eq_true', decide_eq_false_iff_not, eq_self_iff_true, decide_true, decide_false, Bool.not_true, Bool.not_false]
          exact draw_reg (by omega) dd hmp (by omega) fun v S'' hv d4 => ⟨hv, d4⟩
        rw [rangeD_len] at hl
        refine draw_ok (by omega) d3 (by decide) (by decide) fun v4 S4 p0 p1 d4 => ?_
        obtain ⟨wide, rfl⟩ := Int.eq_ofNat_of_zero_le p0
        refine ⟨by decide, by rw [rangeD_len]; exact small_line (by decide), ?_⟩
        refine comp_gen (CodeG deep args.length wide) d4 (fun d hd S' dd => ?_) (fun ys S5 hl2 hy2 d5 => ?_)
        · simp only [wp_ok, wp_ret, wp_stuck, wp_bad, wp_bnd, wp_if, wp_fif, wps_ok_nx, wps_ok_rt, wps_ok_bk, wps_ok_ct, wps_ok_xc, wps_bad, wps_lft, wps_seq, wps_nil, wps_ret, wps_expr, wps_asg, wps_if, wp_run, wps_for, wps_while, wp_comp, wp_var, wp_C, wp_bin, wp_un, wp_T, wp_Tb, wp_asBl, wp_truthBl, wp_bAnd, wp_bOr, wp_bNot, wp_eIf, wp_eAnd, wp_eOr, wp_eNot, blCase_bl, wp_chain, wp_aNil, wp_aCons, wp_tup, wp_lst, wp_lstM, wp_call, wp_cl1, wp_cl2, wp_cl3, wp_cl4, wp_cl5, wp_meth, wp_isi, wp_oNone, wp_oSome, wp_sl, wp_it, wp_range1, wp_range2, wp_bYes, gEq_str, gNe_str, gEq_int, gNe_int, gEq_bl, gNe_bl, gIs_bl, gIsNot_bl, gAdd_int, gSub_int, gC_int, gI_int, gAdd_str, gAdd_tup, gAdd_lst, gNeg_int, gIx_tup, gIx_lst, gLen_tup, gLen_lst, gLen_str, gInt_int, gInt_bl, gTuple_lst, gTuple_tup, gList_lst, gList_tup, gSl_tup, gSl_lst, gSl_fl, gSl_str, srcL_tup, srcL_lst, srcL_fl, srcL_str, srcR1_int, typN, startR, List.map_cons, List.map_nil, List.length_cons, List.length_nil, Nat.reduceAdd, Nat.reduceSub, Nat.zero_add, Nat.sub_self, Nat.sub_zero, List.replicate_zero, List.replicate_succ, List.cons_append, List.nil_append, List.append_nil, List.getElem?_cons_zero, List.getElem?_cons_succ, List.set_cons_zero, List.set_cons_succ, List.set_nil, List.getElem?_nil, Option.some.injEq, exists_eq_left', exists_eq_left, exists_eq_right, reduceCtorEq, false_and, and_false, true_and, and_true, exists_false, exists_const, wipeR, Nat.zero_le, String.reduceEq, D.int.injEq, D.str.injEq, D.bl.injEq, atI_0, atI_1, atI_2, atI_3, atI_4, beq_self_eq_true, not_true_eq_false, not_false_eq_true, Int.cast_ofNat_Int, Int.reduceEq, Int.reduceLE, Int.reduceLT, Int.reduceAdd, Int.reduceSub, Int.reduceMul, Int.reduceNeg, if_true, if_false, ite_true, ite_false, Bool.false_eq_true, if_neg, if_pos, decide_eq_true_eq, Bool.not_eq_true', decide_eq_false_iff_not, eq_self_iff_true, decide_true, decide_false, Bool.not_true, Bool.not_false]
          exact hC _ _ _ _ _ _ hdp (by omega) (by omega) (by omega) dd fun c S'' hc d5 => ⟨hc, d5⟩
        rw [rangeD_len] at hl2
        obtain ⟨a, b, rfl⟩ : ∃ a b, ys = [a, b] := by
          match ys, hl2 with
          | [a, b], _ => exact ⟨a, b, rfl⟩
        refine draw_reg (by omega) d5 hmp (by omega) fun v5 S6 hv5 d6 => ?_
        refine ⟨a, atI_0, b, atI_1, small_line (by decide), ?_⟩
        exact fin wide _ S6 (.inr (.inr (.inr ⟨v5, args, a, b, rfl, hv5, hy, by omega, by omega, hy2 a (by simp), hy2 b (by simp)⟩))) d6
    · simp only [ofString_inj, wp_ok, wp_ret, wp_stuck, wp_bad, wp_bnd, wp_if, wp_fif, wps_ok_nx, wps_ok_rt, wps_ok_bk, wps_ok_ct, wps_ok_xc, wps_bad, wps_lft, wps_seq, wps_nil, wps_ret, wps_expr, wps_asg, wps_if, wp_run, wps_for, wps_while, wp_comp, wp_var, wp_C, wp_bin, wp_un, wp_T, wp_Tb, wp_asBl, wp_truthBl, wp_bAnd, wp_bOr, wp_bNot, wp_eIf, wp_eAnd, wp_eOr, wp_eNot, blCase_bl, wp_chain, wp_aNil, wp_aCons, wp_tup, wp_lst, wp_lstM, wp_call, wp_cl1, wp_cl2, wp_cl3, wp_cl4, wp_cl5, wp_meth, wp_isi, wp_oNone, wp_oSome, wp_sl, wp_it, wp_range1, wp_range2, wp_bYes, gEq_str, gNe_str, gEq_int, gNe_int, gEq_bl, gNe_bl, gIs_bl, gIsNot_bl, gAdd_int, gSub_int, gC_int, gI_int, gAdd_str, gAdd_tup, gAdd_lst, gNeg_int, gIx_tup, gIx_lst, gLen_tup, gLen_lst, gLen_str, gInt_int, gInt_bl, gTuple_lst, gTuple_tup, gList_lst, gList_tup, gSl_tup, gSl_lst, gSl_fl, gSl_str, srcL_tup, srcL_lst, srcL_fl, srcL_str, srcR1_int, typN, startR, List.map_cons, List.map_nil, List.length_cons, List.length_nil, Nat.reduceAdd, Nat.reduceSub, Nat.zero_add, Nat.sub_self, Nat.sub_zero, List.replicate_zero, List.replicate_succ, List.cons_append, List.nil_append, List.append_nil, List.getElem?_cons_zero, List.getElem?_cons_succ, List.set_cons_zero, List.set_cons_succ, List.set_nil, List.getElem?_nil, Option.some.injEq, exists_eq_left', exists_eq_left, exists_eq_right, reduceCtorEq, false_and, and_false, true_and, and_true, exists_false, exists_const, wipeR, Nat.zero_le, String.reduceEq, D.int.injEq, D.str.injEq, D.bl.injEq, atI_0, atI_1, atI_2, atI_3, atI_4, beq_self_eq_true, not_true_eq_false, not_false_eq_true, Int.cast_ofNat_Int, Int.reduceEq, Int.reduceLE, Int.reduceLT, Int.reduceAdd, Int.reduceSub, Int.reduceMul, Int.reduceNeg, if_true, if_false, ite_true, ite_false, Bool.false_eq_true, if_neg, if_pos, decide_eq_true_eq, Bool.not_eq_true', decide_eq_false_iff_not, eq_self_iff_true, decide_true, decide_false, Bool.not_true, Bool.not_false]
      refine draw_reg (by omega) d1 hmp (by omega) fun v2 S2 hv2 d2 => ?_
      exact ⟨small_line (by decide), fin 1 _ S2 (.inr (.inl ⟨rfl, v2, rfl, hv2⟩)) d2⟩
    · simp only [n1, n2, n3, wp_ok, wp_ret, wp_stuck, wp_bad, wp_bnd, wp_if, wp_fif, wps_ok_nx, wps_ok_rt, wps_ok_bk, wps_ok_ct, wps_ok_xc, wps_bad, wps_lft, wps_seq, wps_nil, wps_ret, wps_expr, wps_asg, wps_if, wp_run, wps_for, wps_while, wp_comp, wp_var, wp_C, wp_bin, wp_un, wp_T, wp_Tb, wp_asBl, wp_truthBl, wp_bAnd, wp_bOr, wp_bNot, wp_eIf, wp_eAnd, wp_eOr, wp_eNot, blCase_bl, wp_chain, wp_aNil, wp_aCons, wp_tup, wp_lst, wp_lstM, wp_call, wp_cl1, wp_cl2, wp_cl3, wp_cl4, wp_cl5, wp_meth, wp_isi, wp_oNone, wp_oSome, wp_sl, wp_it, wp_range1, wp_range2, wp_bYes, gEq_str, gNe_str, gEq_int, gNe_int, gEq_bl, gNe_bl, gIs_bl, gIsNot_bl, gAdd_int, gSub_int, gC_int, gI_int, gAdd_str, gAdd_tup, gAdd_lst, gNeg_int, gIx_tup, gIx_lst, gLen_tup, gLen_lst, gLen_str, gInt_int, gInt_bl, gTuple_lst, gTuple_tup, gList_lst, gList_tup, gSl_tup, gSl_lst, gSl_fl, gSl_str, srcL_tup, srcL_lst, srcL_fl, srcL_str, srcR1_int, typN, startR, List.map_cons, List.map_nil, List.length_cons, List.length_nil, Nat.reduceAdd, Nat.reduceSub, Nat.zero_add, Nat.sub_self, Nat.sub_zero, List.replicate_zero, List.replicate_succ, List.cons_append, List.nil_append, List.append_nil, List.getElem?_cons_zero, List.getElem?_cons_succ, List.set_cons_zero, List.set_cons_succ, List.set_nil, List.getElem?_nil, Option.some.injEq, exists_eq_left', exists_eq_left, exists_eq_right, reduceCtorEq, false_and, and_false, true_and, and_true, exists_false, exists_const, wipeR, Nat.zero_le, String.reduceEq, D.int.injEq, D.str.injEq, D.bl.injEq, atI_0, atI_1, atI_2, atI_3, atI_4, beq_self_eq_true, not_true_eq_false, not_false_eq_true, Int.cast_ofNat_Int, Int.reduceEq, Int.reduceLE, Int.reduceLT, Int.reduceAdd, Int.reduceSub, Int.reduceMul, Int.reduceNeg, if_true, if_false, ite_true, ite_false, Bool.false_eq_true, if_neg, if_pos, decide_eq_true_eq, Bool.not_eq_true', decide_eq_false_iff_not, eq_self_iff_true, decide_true, decide_false, Bool.not_true, Bool.not_false]
      refine draw_reg (by omega) d1 hmp (by omega) fun v2 S2 hv2 d2 => ?_
      refine draw_reg (by omega) d2 hmp (by omega) fun v3 S3 hv3 d3 => ?_
      exact ⟨small_line (by decide), fin 1 _ S3 (.inr (.inr (.inl ⟨rfl, z, v2, v3, rfl, hp, hv2, hv3⟩))) d3⟩
theorem code_step (hfu : 1000 ≤ fu) (deep : Nat) (hO : ∀ (many N : Nat) (S0 S : Sto) (F : D → Sto → Prop) (E : Exc → Sto → Prop), many ≤ 100 → 13 + 2 * deep ≤ N → DK k S0 S → (∀ made op S', OpG (CodeG deep) many made op → DK k S0 S' → F op S') → wp (den fu N i_l_op [.ref k, .int many, .int deep] S) F E)
    (t w N : Nat) (S0 S : Sto) (F : D → Sto → Prop) (E : Exc → Sto → Prop) (ht : t ≤ 4) (hw : w ≤ 5) (hN : 14 + 2 * deep ≤ N) (h : DK k S0 S) (hF : ∀ c S', CodeG (deep + 1) t w c → DK k S0 S' → F c S') : wp (den fu N i_l_code [.ref k, .int t, .int w, .int deep] S) F E := by
  obtain ⟨N', rfl⟩ : ∃ N', N = N' + 1 := ⟨N - 1, by omega⟩
  show wp (runDef false 7 (b_l_code fu (den fu N')) _ _) _ _
  have hSl : S.length = S0.length := h.len
  have hk : k < S0.length := h.lt
  have hat : ∀ {ops : List D} {S' : Sto}, DK k (S0 ++ [.lst ops]) S' → atL S' S0.length = some ops := fun hd => by unfold atL; rw [(hd.last hk).1]
  simp only [b_l_code, hSl, wp_ok, wp_ret, wp_stuck, wp_bad, wp_bnd, wp_if, wp_fif, wps_ok_nx, wps_ok_rt, wps_ok_bk, wps_ok_ct, wps_ok_xc, wps_bad, wps_lft, wps_seq, wps_nil, wps_ret, wps_expr, wps_asg, wps_if, wp_run, wps_for, wps_while, wp_comp, wp_var, wp_C, wp_bin, wp_un, wp_T, wp_Tb, wp_asBl, wp_truthBl, wp_bAnd, wp_bOr, wp_bNot, wp_eIf, wp_eAnd, wp_eOr, wp_eNot, blCase_bl, wp_chain, wp_aNil, wp_aCons, wp_tup, wp_lst, wp_lstM, wp_call, wp_cl1, wp_cl2, wp_cl3, wp_cl4, wp_cl5, wp_meth, wp_isi, wp_oNone, wp_oSome, wp_sl, wp_it, wp_range1, wp_range2, wp_bYes, gEq_str, gNe_str, gEq_int, gNe_int, gEq_bl, gNe_bl, gIs_bl, gIsNot_bl, gAdd_int, gSub_int, gC_int, gI_int, gAdd_str, gAdd_tup, gAdd_lst, gNeg_int, gIx_tup, gIx_lst, gLen_tup, gLen_lst, gLen_str, gInt_int, gInt_bl, gTuple_lst, gTuple_tup, gList_lst, gList_tup, gSl_tup, gSl_lst, gSl_fl, gSl_str, srcL_tup, srcL_lst, srcL_fl, srcL_str, srcR1_int, typN, startR, List.map_cons, List.map_nil, List.length_cons, List.length_nil, Nat.reduceAdd, Nat.reduceSub, Nat.zero_add, Nat.sub_self, Nat.sub_zero, List.replicate_zero, List.replicate_succ, List.cons_append, List.nil_append, List.append_nil, List.getElem?_cons_zero, List.getElem?_cons_succ, List.set_cons_zero, List.set_cons_succ, List.set_nil, List.getElem?_nil, Option.some.injEq, exists_eq_left', exists_eq_left, exists_eq_right, reduceCtorEq, false_and, and_false, true_and, and_true, exists_false, exists_const, wipeR, Nat.zero_le, String.reduceEq, D.int.injEq, D.str.injEq, D.bl.injEq, atI_0, atI_1, atI_2, atI_3, atI_4, beq_self_eq_true, not_true_eq_false, not_false_eq_true, Int.cast_ofNat_Int, Int.reduceEq, Int.reduceLE, Int.reduceLT, Int.reduceAdd, Int.reduceSub, Int.reduceMul, Int.reduceNeg, if_true, if_false, ite_true, ite_false, Bool.false_eq_true, if_neg, if_pos, decide_eq_true_eq, Bool.not_eq_true', decide_eq_false_iff_not, eq_self_iff_true, decide_true, decide_false, Bool.not_true, Bool.not_false]
  have d0 : DK k (S0 ++ [.lst []]) (S ++ [.lst []]) := h.push rfl
  refine draw_ok (by omega) d0 (by decide) (by decide) fun v S1 hv0 hv1 d1 => ?_
  rw [gAdd_int, srcR1_int]
  have hn : 0 ≤ v + (if (t : Int) = 0 then (1 : Int) else 0) ∧ v + (if (t : Int) = 0 then (1 : Int) else 0) ≤ 6 := by by_cases h : (t : Int) = 0 <;> simp only [h, if_true, if_false] <;> omega
  obtain ⟨r0, r1⟩ := hn
  generalize v + (if (t : Int) = 0 then (1 : Int) else 0) = r at r0 r1
  refine ⟨by simp [bnd62]; omega, ?_⟩
  -- the codes end
  have fin : ∀ (ops : List D) (e : Nat) (S' : Sto), ops.length ≤ 7 → OpsG (CodeG deep) t ops e → 0 < e → DK k (S0 ++ [.lst ops]) S' → bnd62 (w : Int) = true ∧ (rangeD 0 (w : Int).toNat).length ≤ sizeLine ∧ wp (compM none (rangeD 0 (w : Int).toNat) (gN 6) bYes (eCall (cl 2 (den fu N' i_l_draw)) (aCons (eVar 0) (aCons (eVar 5) aNil))) [some (.ref k), some (.int t), some (.int w), some (.int deep), some (.ref S0.length), some (.int e), none] (rangeD 0 (w : Int).toNat) S') (fun ys S3 => 3 ≤ sizeLine ∧ wp (finD false S0.length (.tup [.int t, .tup ops, .tup ys]) S3) F E) nx := by
    intro ops e S' hl ho he hd
    have hle := ho.le
    refine ⟨by simp [bnd62]; omega, by rw [rangeD_len]; exact small_line (by omega), ?_⟩
    refine comp_gen (Reg e) hd (fun d _ S'' dd => ?_) (fun ys S3 hyl hy d3 => ?_)
    · simp only [wp_ok, wp_ret, wp_stuck, wp_bad, wp_bnd, wp_if, wp_fif, wps_ok_nx, wps_ok_rt, wps_ok_bk, wps_ok_ct, wps_ok_xc, wps_bad, wps_lft, wps_seq, wps_nil, wps_ret, wps_expr, wps_asg, wps_if, wp_run, wps_for, wps_while, wp_comp, wp_var, wp_C, wp_bin, wp_un, wp_T, wp_Tb, wp_asBl, wp_truthBl, wp_bAnd, wp_bOr, wp_bNot, wp_eIf, wp_eAnd, wp_eOr, wp_eNot, blCase_bl, wp_chain, wp_aNil, wp_aCons, wp_tup, wp_lst, wp_lstM, wp_call, wp_cl1, wp_cl2, wp_cl3, wp_cl4, wp_cl5, wp_meth, wp_isi, wp_oNone, wp_oSome, wp_sl, wp_it, wp_range1, wp_range2, wp_bYes, gEq_str, gNe_str, gEq_int, gNe_int, gEq_bl, gNe_bl, gIs_bl, gIsNot_bl, gAdd_int, gSub_int, gC_int, gI_int, gAdd_str, gAdd_tup, gAdd_lst, gNeg_int, gIx_tup, gIx_lst, gLen_tup, gLen_lst, gLen_str, gInt_int, gInt_bl, gTuple_lst, gTuple_tup, gList_lst, gList_tup, gSl_tup, gSl_lst, gSl_fl, gSl_str, srcL_tup, srcL_lst, srcL_fl, srcL_str, srcR1_int, typN, startR, List.map_cons, List.map_nil, List.length_cons, List.length_nil, Nat.reduceAdd, Nat.reduceSub, Nat.zero_add, Nat.sub_self, Nat.sub_zero, List.replicate_zero, List.replicate_succ, List.cons_append, List.nil_append, List.append_nil, List.getElem?_cons_zero, List.getElem?_cons_succ, List.set_cons_zero, List.set_cons_succ, List.set_nil, List.getElem?_nil, Option.some.injEq, exists_eq_left', exists_eq_left, exists_eq_right, reduceCtorEq, false_and, and_false, true_and, and_true, exists_false, exists_const, wipeR, Nat.zero_le, String.reduceEq, D.int.injEq, D.str.injEq, D.bl.injEq, atI_0, atI_1, atI_2, atI_3, atI_4, beq_self_eq_true, not_true_eq_false, not_false_eq_true, Int.cast_ofNat_Int, Int.reduceEq, Int.reduceLE, Int.reduceLT, Int.reduceAdd, Int.reduceSub, Int.reduceMul, Int.reduceNeg, if_true, if_false, ite_true, ite_false, Bool.false_eq_true, if_neg, if_pos, decide_eq_true_eq, Bool.not_eq_true', decide_eq_false_iff_not, eq_self_iff_true, decide_true, decide_false, Bool.not_true, Bool.not_false]
      exact draw_reg (by omega) dd he (by omega) fun v S4 hv d4 => ⟨hv, d4⟩
    rw [rangeD_len] at hyl
    have hG : CodeG (deep + 1) t w (.tup [.int t, .tup ops, .tup ys]) := ⟨ops, ys, e, rfl, hl, ht, ho, by simpa using hyl, hw, hy, he⟩
    refine ⟨small_line (by decide), ?_⟩
    have d5 := d3.pop hk
    exact fin_cut (S1 := S0) d3.wf' (CodeG.tr _ _ _ _ hG) (hF _ _ hG d5)
  refine wps_forM (fun i ρ S' => i ≤ r.toNat → ∃ (ops : List D) (m : Nat) (o : Option D), ρ = [some (.ref k), some (.int t), some (.int w), some (.int deep), some (.ref S0.length), some (.int m), o] ∧ ops.length = i ∧ OpsG (CodeG deep) t ops m ∧ DK k (S0 ++ [.lst ops]) S') (fun _ _ _ _ => trivial) ?_ ?_ (fun _ => ⟨[], t, none, rfl, rfl, rfl, d1⟩)
  · intro i d ρ S' hd hI
    have hlt := (List.getElem?_eq_some_iff.mp hd).1
    rw [rangeD_len] at hlt
    obtain ⟨ops, m, o, rfl, hl, ho, hd2⟩ := hI (by omega)
    have hle := ho.le
    refine ⟨_, rfl, ?_⟩
    simp only [isTy_ref (hat hd2), wp_ok, wp_ret, wp_stuck, wp_bad, wp_bnd, wp_if, wp_fif, wps_ok_nx, wps_ok_rt, wps_ok_bk, wps_ok_ct, wps_ok_xc, wps_bad, wps_lft, wps_seq, wps_nil, wps_ret, wps_expr, wps_asg, wps_if, wp_run, wps_for, wps_while, wp_comp, wp_var, wp_C, wp_bin, wp_un, wp_T, wp_Tb, wp_asBl, wp_truthBl, wp_bAnd, wp_bOr, wp_bNot, wp_eIf, wp_eAnd, wp_eOr, wp_eNot, blCase_bl, wp_chain, wp_aNil, wp_aCons, wp_tup, wp_lst, wp_lstM, wp_call, wp_cl1, wp_cl2, wp_cl3, wp_cl4, wp_cl5, wp_meth, wp_isi, wp_oNone, wp_oSome, wp_sl, wp_it, wp_range1, wp_range2, wp_bYes, gEq_str, gNe_str, gEq_int, gNe_int, gEq_bl, gNe_bl, gIs_bl, gIsNot_bl, gAdd_int, gSub_int, gC_int, gI_int, gAdd_str, gAdd_tup, gAdd_lst, gNeg_int, gIx_tup, gIx_lst, gLen_tup, gLen_lst, gLen_str, gInt_int, gInt_bl, gTuple_lst, gTuple_tup, gList_lst, gList_tup, gSl_tup, gSl_lst, gSl_fl, gSl_str, srcL_tup, srcL_lst, srcL_fl, srcL_str, srcR1_int, typN, startR, List.map_cons, List.map_nil, List.length_cons, List.length_nil, Nat.reduceAdd, Nat.reduceSub, Nat.zero_add, Nat.sub_self, Nat.sub_zero, List.replicate_zero, List.replicate_succ, List.cons_append, List.nil_append, List.append_nil, List.getElem?_cons_zero, List.getElem?_cons_succ, List.set_cons_zero, List.set_cons_succ, List.set_nil, List.getElem?_nil, Option.some.injEq, exists_eq_left', exists_eq_left, exists_eq_right, reduceCtorEq, false_and, and_false, true_and, and_true, exists_false, exists_const, wipeR, Nat.zero_le, String.reduceEq, D.int.injEq, D.str.injEq, D.bl.injEq, atI_0, atI_1, atI_2, atI_3, atI_4, beq_self_eq_true, not_true_eq_false, not_false_eq_true, Int.cast_ofNat_Int, Int.reduceEq, Int.reduceLE, Int.reduceLT, Int.reduceAdd, Int.reduceSub, Int.reduceMul, Int.reduceNeg, if_true, if_false, ite_true, ite_false, Bool.false_eq_true, if_neg, if_pos, decide_eq_true_eq, Bool.not_eq_true', decide_eq_false_iff_not, eq_self_iff_true, decide_true, decide_false, Bool.not_true, Bool.not_false]
    refine hO m N' _ _ _ _ (by omega) (by omega) hd2 fun made op S2 hop hd3 => ?_
    have hoo : OpsG (CodeG deep) t (ops ++ [op]) (m + made) := ho.app ⟨made, hop, rfl⟩
    have hd4 := hd3.put hk (m' := .lst (ops ++ [op])) (trs (hoo.all (CodeG.tr deep)))
    rw [gAppend_ref (hat hd3)]
    refine ⟨by rw [sizeLine_eq]; omega, ?_⟩
    simp only [gIx_seq (show iLst _ (.ref S0.length) = some (ops ++ [op]) from hat hd4), atI_last, wp_ok, wp_ret, wp_stuck, wp_bad, wp_bnd, wp_if, wp_fif, wps_ok_nx, wps_ok_rt, wps_ok_bk, wps_ok_ct, wps_ok_xc, wps_bad, wps_lft, wps_seq, wps_nil, wps_ret, wps_expr, wps_asg, wps_if, wp_run, wps_for, wps_while, wp_comp, wp_var, wp_C, wp_bin, wp_un, wp_T, wp_Tb, wp_asBl, wp_truthBl, wp_bAnd, wp_bOr, wp_bNot, wp_eIf, wp_eAnd, wp_eOr, wp_eNot, blCase_bl, wp_chain, wp_aNil, wp_aCons, wp_tup, wp_lst, wp_lstM, wp_call, wp_cl1, wp_cl2, wp_cl3, wp_cl4, wp_cl5, wp_meth, wp_isi, wp_oNone, wp_oSome, wp_sl, wp_it, wp_range1, wp_range2, wp_bYes, gEq_str, gNe_str, gEq_int, gNe_int, gEq_bl, gNe_bl, gIs_bl, gIsNot_bl, gAdd_int, gSub_int, gC_int, gI_int, gAdd_str, gAdd_tup, gAdd_lst, gNeg_int, gIx_tup, gIx_lst, gLen_tup, gLen_lst, gLen_str, gInt_int, gInt_bl, gTuple_lst, gTuple_tup, gList_lst, gList_tup, gSl_tup, gSl_lst, gSl_fl, gSl_str, srcL_tup, srcL_lst, srcL_fl, srcL_str, srcR1_int, typN, startR, List.map_cons, List.map_nil, List.length_cons, List.length_nil, Nat.reduceAdd, Nat.reduceSub, Nat.zero_add, Nat.sub_self, Nat.sub_zero, List.replicate_zero, List.replicate_succ, List.cons_append, List.nil_append, List.append_nil, List.getElem?_cons_zero, List.getElem?_cons_succ, List.set_cons_zero, List.set_cons_succ, List.set_nil, List.getElem?_nil, Option.some.injEq, exists_eq_left', exists_eq_left, exists_eq_right, reduceCtorEq, false_and, and_false, true_and, and_true, exists_false, exists_const, wipeR, Nat.zero_le, String.reduceEq, D.int.injEq, D.str.injEq, D.bl.injEq, atI_0, atI_1, atI_2, atI_3, atI_4, beq_self_eq_true, not_true_eq_false, not_false_eq_true, Int.cast_ofNat_Int, Int.reduceEq, Int.reduceLE, Int.reduceLT, Int.reduceAdd, Int.reduceSub, Int.reduceMul, Int.reduceNeg, if_true, if_false, ite_true, ite_false, Bool.false_eq_true, if_neg, if_pos, decide_eq_true_eq, Bool.not_eq_true', decide_eq_false_iff_not, eq_self_iff_true, decide_true, decide_false, Bool.not_true, Bool.not_false]
    obtain ⟨N'', rfl⟩ : ∃ N'', N' = N'' + 1 := ⟨N' - 1, by omega⟩
    refine lmade_ok hd4.wf' hop ?_
    exact fun _ => ⟨ops ++ [op], m + made, some d, by simp, by simp [hl], hoo, hd4⟩
  · intro ρ S' hI
    rw [rangeD_len] at hI
    obtain ⟨ops, m, o, rfl, hl, ho, hd2⟩ := hI (Nat.le_refl _)
    have hle := ho.le
    simp only [wp_ok, wp_ret, wp_stuck, wp_bad, wp_bnd, wp_if, wp_fif, wps_ok_nx, wps_ok_rt, wps_ok_bk, wps_ok_ct, wps_ok_xc, wps_bad, wps_lft, wps_seq, wps_nil, wps_ret, wps_expr, wps_asg, wps_if, wp_run, wps_for, wps_while, wp_comp, wp_var, wp_C, wp_bin, wp_un, wp_T, wp_Tb, wp_asBl, wp_truthBl, wp_bAnd, wp_bOr, wp_bNot, wp_eIf, wp_eAnd, wp_eOr, wp_eNot, blCase_bl, wp_chain, wp_aNil, wp_aCons, wp_tup, wp_lst, wp_lstM, wp_call, wp_cl1, wp_cl2, wp_cl3, wp_cl4, wp_cl5, wp_meth, wp_isi, wp_oNone, wp_oSome, wp_sl, wp_it, wp_range1, wp_range2, wp_bYes, gEq_str, gNe_str, gEq_int, gNe_int, gEq_bl, gNe_bl, gIs_bl, gIsNot_bl, gAdd_int, gSub_int, gC_int, gI_int, gAdd_str, gAdd_tup, gAdd_lst, gNeg_int, gIx_tup, gIx_lst, gLen_tup, gLen_lst, gLen_str, gInt_int, gInt_bl, gTuple_lst, gTuple_tup, gList_lst, gList_tup, gSl_tup, gSl_lst, gSl_fl, gSl_str, srcL_tup, srcL_lst, srcL_fl, srcL_str, srcR1_int, typN, startR, List.map_cons, List.map_nil, List.length_cons, List.length_nil, Nat.reduceAdd, Nat.reduceSub, Nat.zero_add, Nat.sub_self, Nat.sub_zero, List.replicate_zero, List.replicate_succ, List.cons_append, List.nil_append, List.append_nil, List.getElem?_cons_zero, List.getElem?_cons_succ, List.set_cons_zero, List.set_cons_succ, List.set_nil, List.getElem?_nil, Option.some.injEq, exists_eq_left', exists_eq_left, exists_eq_right, reduceCtorEq, false_and, and_false, true_and, and_true, exists_false, exists_const, wipeR, Nat.zero_le, String.reduceEq, D.int.injEq, D.str.injEq, D.bl.injEq, atI_0, atI_1, atI_2, atI_3, atI_4, beq_self_eq_true, not_true_eq_false, not_false_eq_true, Int.cast_ofNat_Int, Int.reduceEq, Int.reduceLE, Int.reduceLT, Int.reduceAdd, Int.reduceSub, Int.reduceMul, Int.reduceNeg, if_true, if_false, ite_true, ite_false, Bool.false_eq_true, if_neg, if_pos, decide_eq_true_eq, Bool.not_eq_true', decide_eq_false_iff_not, eq_self_iff_true, decide_true, decide_false, Bool.not_true, Bool.not_false]
    by_cases hm0 : (m : Int) = 0
    · simp only [hm0, isTy_ref (hat hd2), wp_ok, wp_ret, wp_stuck, wp_bad, wp_bnd, wp_if, wp_fif, wps_ok_nx, wps_ok_rt, wps_ok_bk, wps_ok_ct, wps_ok_xc, wps_bad, wps_lft, wps_seq, wps_nil, wps_ret, wps_expr, wps_asg, wps_if, wp_run, wps_for, wps_while, wp_comp, wp_var, wp_C, wp_bin, wp_un, wp_T, wp_Tb, wp_asBl, wp_truthBl, wp_bAnd, wp_bOr, wp_bNot, wp_eIf, wp_eAnd, wp_eOr, wp_eNot, blCase_bl, wp_chain, wp_aNil, wp_aCons, wp_tup, wp_lst, wp_lstM, wp_call, wp_cl1, wp_cl2, wp_cl3, wp_cl4, wp_cl5, wp_meth, wp_isi, wp_oNone, wp_oSome, wp_sl, wp_it, wp_range1, wp_range2, wp_bYes, gEq_str, gNe_str, gEq_int, gNe_int, gEq_bl, gNe_bl, gIs_bl, gIsNot_bl, gAdd_int, gSub_int, gC_int, gI_int, gAdd_str, gAdd_tup, gAdd_lst, gNeg_int, gIx_tup, gIx_lst, gLen_tup, gLen_lst, gLen_str, gInt_int, gInt_bl, gTuple_lst, gTuple_tup, gList_lst, gList_tup, gSl_tup, gSl_lst, gSl_fl, gSl_str, srcL_tup, srcL_lst, srcL_fl, srcL_str, srcR1_int, typN, startR, List.map_cons, List.map_nil, List.length_cons, List.length_nil, Nat.reduceAdd, Nat.reduceSub, Nat.zero_add, Nat.sub_self, Nat.sub_zero, List.replicate_zero, List.replicate_succ, List.cons_append, List.nil_append, List.append_nil, List.getElem?_cons_zero, List.getElem?_cons_succ, List.set_cons_zero, List.set_cons_succ, List.set_nil, List.getElem?_nil, Option.some.injEq, exists_eq_left', exists_eq_left, exists_eq_right, reduceCtorEq, false_and, and_false, true_and, and_true, exists_false, exists_const, wipeR, Nat.zero_le, String.reduceEq, D.int.injEq, D.str.injEq, D.bl.injEq, atI_0, atI_1, atI_2, atI_3, atI_4, beq_self_eq_true, not_true_eq_false, not_false_eq_true, Int.cast_ofNat_Int, Int.reduceEq, Int.reduceLE, Int.reduceLT, Int.reduceAdd, Int.reduceSub, Int.reduceMul, Int.reduceNeg, if_true, if_false, ite_true, ite_false, Bool.false_eq_true, if_neg, if_pos, decide_eq_true_eq, Bool.not_eq_true', decide_eq_false_iff_not, eq_self_iff_true, decide_true, decide_false, Bool.not_true, Bool.not_false]
      refine thing_gen hfu 1 N' _ _ _ (by omega) hd2 fun x S2 hx hd3 => ⟨small_line (by decide), ?_⟩
      have hoo : OpsG (CodeG deep) t (ops ++ [.tup [.str "push", x]]) 1 := ho.app ⟨1, .inl ⟨rfl, x, rfl, hx.mono⟩, by show 1 = m + 1; omega⟩
      have hd4 := hd3.put hk (m' := .lst (ops ++ [.tup [.str "push", x]])) (trs (hoo.all (CodeG.tr deep)))
      rw [gAppend_ref (hat hd3)]
      refine ⟨by rw [sizeLine_eq]; omega, ?_⟩
      rw [gTuple_seq (show iLst _ (.ref S0.length) = some (ops ++ [.tup [.str "push", x]]) from hat hd4)]
      exact fin _ 1 _ (by simp; omega) hoo (by decide) hd4
    · simp only [hm0, wp_ok, wp_ret, wp_stuck, wp_bad, wp_bnd, wp_if, wp_fif, wps_ok_nx, wps_ok_rt, wps_ok_bk, wps_ok_ct, wps_ok_xc, wps_bad, wps_lft, wps_seq, wps_nil, wps_ret, wps_expr, wps_asg, wps_if, wp_run, wps_for, wps_while, wp_comp, wp_var, wp_C, wp_bin, wp_un, wp_T, wp_Tb, wp_asBl, wp_truthBl, wp_bAnd, wp_bOr, wp_bNot, wp_eIf, wp_eAnd, wp_eOr, wp_eNot, blCase_bl, wp_chain, wp_aNil, wp_aCons, wp_tup, wp_lst, wp_lstM, wp_call, wp_cl1, wp_cl2, wp_cl3, wp_cl4, wp_cl5, wp_meth, wp_isi, wp_oNone, wp_oSome, wp_sl, wp_it, wp_range1, wp_range2, wp_bYes, gEq_str, gNe_str, gEq_int, gNe_int, gEq_bl, gNe_bl, gIs_bl, gIsNot_bl, gAdd_int, gSub_int, gC_int, gI_int, gAdd_str, gAdd_tup, gAdd_lst, gNeg_int, gIx_tup, gIx_lst, gLen_tup, gLen_lst, gLen_str, gInt_int, gInt_bl, gTuple_lst, gTuple_tup, gList_lst, gList_tup, gSl_tup, gSl_lst, gSl_fl, gSl_str, srcL_tup, srcL_lst, srcL_fl, srcL_str, srcR1_int, typN, startR, List.map_cons, List.map_nil, List.length_cons, List.length_nil, Nat.reduceAdd, Nat.reduceSub, Nat.zero_add, Nat.sub_self, Nat.sub_zero, List.replicate_zero, List.replicate_succ, List.cons_append, List.nil_append, List.append_nil, List.getElem?_cons_zero, List.getElem?_cons_succ, List.set_cons_zero, List.set_cons_succ, List.set_nil, List.getElem?_nil, Option.some.injEq, exists_eq_left', exists_eq_left, exists_eq_right, reduceCtorEq, false_and, and_false, true_and, and_true, exists_false, exists_const, wipeR, Nat.zero_le, String.reduceEq, D.int.injEq, D.str.injEq, D.bl.injEq, atI_0, atI_1, atI_2, atI_3, atI_4, beq_self_eq_true, not_true_eq_false, not_false_eq_true, Int.cast_ofNat_Int, Int.reduceEq, Int.reduceLE, Int.reduceLT, Int.reduceAdd, Int.reduceSub, Int.reduceMul, Int.reduceNeg, if_true, if_false, ite_true, ite_false, Bool.false_eq_true, if_neg, if_pos, decide_eq_true_eq, Bool.not_eq_true', decide_eq_false_iff_not, eq_self_iff_true, decide_true, decide_false, Bool.not_true, Bool.not_false]
      rw [gTuple_seq (show iLst _ (.ref S0.length) = some ops from hat hd2)]
      exact fin ops m S' (by omega) ho (by omega) hd2
theorem code_gen (hfu : 1000 ≤ fu) : ∀ (deep t w N : Nat) (S0 S : Sto) (F : D → Sto → Prop) (E : Exc → Sto → Prop), t ≤ 4 → w ≤ 5 → 14 + 2 * deep ≤ N → DK k S0 S → (∀ c S', CodeG (deep + 1) t w c → DK k S0 S' → F c S') → wp (den fu N i_l_code [.ref k, .int t, .int w, .int deep] S) F E
  | 0 => code_step hfu 0 fun many N S0 S F E hm hN h hF => op_gen hfu 0 (fun _ _ _ _ _ _ h => absurd h (by decide)) hm hN h hF
  | deep + 1 => code_step hfu (deep + 1) fun many N S0 S F E hm hN h hF => op_gen hfu (deep + 1) (fun t w N S F E _ ht hw hN h hF => by
      rw [show ((deep + 1 : Nat) : Int) - 1 = (deep : Int) by omega]
      exact code_gen hfu deep t w N S0 S F E ht hw (by omega) h hF) hm hN h hF
end K63

namespace K63
open PySem L2 DL
variable {fu n k : Nat} {S S0 : Sto} {F : D → Sto → Prop} {E : Exc → Sto → Prop} {many : Int}
/-! what is no op -/
theorem den_op {m : Nat} : den fu (m + 1) i_is_op = runDef false 2 (b_is_op fu (den fu m)) := rfl
theorem den_thing {m : Nat} : den fu (m + 1) i_is_thing = runDef false 1 (b_is_thing fu (den fu m)) := rfl
theorem den_row {m : Nat} : den fu (m + 1) i_is_row = runDef false 2 (b_is_row fu (den fu m)) := rfl
theorem ov_flat {d : D} (hd : plain d = true) (hn : ∀ ds, d ≠ .tup ds) : OV 1 fu d many false := by
  intro n S F E hN hS hF
  obtain ⟨m, rfl⟩ : ∃ m, n = m + 1 := ⟨n - 1, by omega⟩
  rw [den_op]
  cases d with
  | tup ds => exact absurd rfl (hn ds)
  | ref j => cases hd
  | int i => simp only [b_is_op, isiN_it, fin_bl hS, wp_ok, wp_ret, wp_stuck, wp_bad, wp_bnd, wp_if, wp_fif, wps_ok_nx, wps_ok_rt, wps_ok_bk, wps_ok_ct, wps_ok_xc, wps_bad, wps_lft, wps_seq, wps_nil, wps_ret, wps_expr, wps_asg, wps_if, wp_run, wps_for, wps_while, wp_comp, wp_var, wp_C, wp_bin, wp_un, wp_T, wp_Tb, wp_asBl, wp_truthBl, wp_bAnd, wp_bOr, wp_bNot, wp_eIf, wp_eAnd, wp_eOr, wp_eNot, blCase_bl, wp_chain, wp_aNil, wp_aCons, wp_tup, wp_lst, wp_lstM, wp_call, wp_cl1, wp_cl2, wp_cl3, wp_cl4, wp_cl5, wp_meth, wp_isi, wp_oNone, wp_oSome, wp_sl, wp_it, wp_range1, wp_range2, wp_bYes, gEq_str, gNe_str, gEq_int, gNe_int, gEq_bl, gNe_bl, gIs_bl, gIsNot_bl, gAdd_int, gSub_int, gC_int, gI_int, gAdd_str, gAdd_tup, gAdd_lst, gNeg_int, gIx_tup, gIx_lst, gLen_tup, gLen_lst, gLen_str, gInt_int, gInt_bl, gTuple_lst, gTuple_tup, gList_lst, gList_tup, gSl_tup, gSl_lst, gSl_fl, gSl_str, srcL_tup, srcL_lst, srcL_fl, srcL_str, srcR1_int, typN, startR, List.map_cons, List.map_nil, List.length_cons, List.length_nil, Nat.reduceAdd, Nat.reduceSub, Nat.zero_add, Nat.sub_self, Nat.sub_zero, List.replicate_zero, List.replicate_succ, List.cons_append, List.nil_append, List.append_nil, List.getElem?_cons_zero, List.getElem?_cons_succ, List.set_cons_zero, List.set_cons_succ, List.set_nil, List.getElem?_nil, Option.some.injEq, exists_eq_left', exists_eq_left, exists_eq_right, reduceCtorEq, false_and, and_false, true_and, and_true, exists_false, exists_const, wipeR, Nat.zero_le, String.reduceEq, D.int.injEq, D.str.injEq, D.bl.injEq, atI_0, atI_1, atI_2, atI_3, atI_4, beq_self_eq_true, not_true_eq_false, not_false_eq_true, Int.cast_ofNat_Int, Int.reduceEq, Int.reduceLE, Int.reduceLT, Int.reduceAdd, Int.reduceSub, Int.reduceMul, Int.reduceNeg, if_true, if_false, ite_true, ite_false, Bool.false_eq_true, if_neg, if_pos, decide_eq_true_eq, Bool.not_eq_true', decide_eq_false_iff_not, eq_self_iff_true, decide_true, decide_false, Bool.not_true, Bool.not_false]; exact hF
  | bl i => simp only [b_is_op, isiN_bt, fin_bl hS, wp_ok, wp_ret, wp_stuck, wp_bad, wp_bnd, wp_if, wp_fif, wps_ok_nx, wps_ok_rt, wps_ok_bk, wps_ok_ct, wps_ok_xc, wps_bad, wps_lft, wps_seq, wps_nil, wps_ret, wps_expr, wps_asg, wps_if, wp_run, wps_for, wps_while, wp_comp, wp_var, wp_C, wp_bin, wp_un, wp_T, wp_Tb, wp_asBl, wp_truthBl, wp_bAnd, wp_bOr, wp_bNot, wp_eIf, wp_eAnd, wp_eOr, wp_eNot, blCase_bl, wp_chain, wp_aNil, wp_aCons, wp_tup, wp_lst, wp_lstM, wp_call, wp_cl1, wp_cl2, wp_cl3, wp_cl4, wp_cl5, wp_meth, wp_isi, wp_oNone, wp_oSome, wp_sl, wp_it, wp_range1, wp_range2, wp_bYes, gEq_str, gNe_str, gEq_int, gNe_int, gEq_bl, gNe_bl, gIs_bl, gIsNot_bl, gAdd_int, gSub_int, gC_int, gI_int, gAdd_str, gAdd_tup, gAdd_lst, gNeg_int, gIx_tup, gIx_lst, gLen_tup, gLen_lst, gLen_str, gInt_int, gInt_bl, gTuple_lst, gTuple_tup, gList_lst, gList_tup, gSl_tup, gSl_lst, gSl_fl, gSl_str, srcL_tup, srcL_lst, srcL_fl, srcL_str, srcR1_int, typN, startR, List.map_cons, List.map_nil, List.length_cons, List.length_nil, Nat.reduceAdd, Nat.reduceSub, Nat.zero_add, Nat.sub_self, Nat.sub_zero, List.replicate_zero, List.replicate_succ, List.cons_append, List.nil_append, List.append_nil, List.getElem?_cons_zero, List.getElem?_cons_succ, List.set_cons_zero, List.set_cons_succ, List.set_nil, List.getElem?_nil, Option.some.injEq, exists_eq_left', exists_eq_left, exists_eq_right, reduceCtorEq, false_and, and_false, true_and, and_true, exists_false, exists_const, wipeR, Nat.zero_le, String.reduceEq, D.int.injEq, D.str.injEq, D.bl.injEq, atI_0, atI_1, atI_2, atI_3, atI_4, beq_self_eq_true, not_true_eq_false, not_false_eq_true, Int.cast_ofNat_Int, Int.reduceEq, Int.reduceLE, Int.reduceLT, Int.reduceAdd, Int.reduceSub, Int.reduceMul, Int.reduceNeg, if_true, if_false, ite_true, ite_false, Bool.false_eq_true, if_neg, if_pos, decide_eq_true_eq, Bool.not_eq_true', decide_eq_false_iff_not, eq_self_iff_true, decide_true, decide_false, Bool.not_true, Bool.not_false]; exact hF
  | str i => simp only [b_is_op, isiN_st, fin_bl hS, wp_ok, wp_ret, wp_stuck, wp_bad, wp_bnd, wp_if, wp_fif, wps_ok_nx, wps_ok_rt, wps_ok_bk, wps_ok_ct, wps_ok_xc, wps_bad, wps_lft, wps_seq, wps_nil, wps_ret, wps_expr, wps_asg, wps_if, wp_run, wps_for, wps_while, wp_comp, wp_var, wp_C, wp_bin, wp_un, wp_T, wp_Tb, wp_asBl, wp_truthBl, wp_bAnd, wp_bOr, wp_bNot, wp_eIf, wp_eAnd, wp_eOr, wp_eNot, blCase_bl, wp_chain, wp_aNil, wp_aCons, wp_tup, wp_lst, wp_lstM, wp_call, wp_cl1, wp_cl2, wp_cl3, wp_cl4, wp_cl5, wp_meth, wp_isi, wp_oNone, wp_oSome, wp_sl, wp_it, wp_range1, wp_range2, wp_bYes, gEq_str, gNe_str, gEq_int, gNe_int, gEq_bl, gNe_bl, gIs_bl, gIsNot_bl, gAdd_int, gSub_int, gC_int, gI_int, gAdd_str, gAdd_tup, gAdd_lst, gNeg_int, gIx_tup, gIx_lst, gLen_tup, gLen_lst, gLen_str, gInt_int, gInt_bl, gTuple_lst, gTuple_tup, gList_lst, gList_tup, gSl_tup, gSl_lst, gSl_fl, gSl_str, srcL_tup, srcL_lst, srcL_fl, srcL_str, srcR1_int, typN, startR, List.map_cons, List.map_nil, List.length_cons, List.length_nil, Nat.reduceAdd, Nat.reduceSub, Nat.zero_add, Nat.sub_self, Nat.sub_zero, List.replicate_zero, List.replicate_succ, List.cons_append, List.nil_append, List.append_nil, List.getElem?_cons_zero, List.getElem?_cons_succ, List.set_cons_zero, List.set_cons_succ, List.set_nil, List.getElem?_nil, Option.some.injEq, exists_eq_left', exists_eq_left, exists_eq_right, reduceCtorEq, false_and, and_false, true_and, and_true, exists_false, exists_const, wipeR, Nat.zero_le, String.reduceEq, D.int.injEq, D.str.injEq, D.bl.injEq, atI_0, atI_1, atI_2, atI_3, atI_4, beq_self_eq_true, not_true_eq_false, not_false_eq_true, Int.cast_ofNat_Int, Int.reduceEq, Int.reduceLE, Int.reduceLT, Int.reduceAdd, Int.reduceSub, Int.reduceMul, Int.reduceNeg, if_true, if_false, ite_true, ite_false, Bool.false_eq_true, if_neg, if_pos, decide_eq_true_eq, Bool.not_eq_true', decide_eq_false_iff_not, eq_self_iff_true, decide_true, decide_false, Bool.not_true, Bool.not_false]; exact hF
  | non => simp only [b_is_op, isiN_nt, fin_bl hS, wp_ok, wp_ret, wp_stuck, wp_bad, wp_bnd, wp_if, wp_fif, wps_ok_nx, wps_ok_rt, wps_ok_bk, wps_ok_ct, wps_ok_xc, wps_bad, wps_lft, wps_seq, wps_nil, wps_ret, wps_expr, wps_asg, wps_if, wp_run, wps_for, wps_while, wp_comp, wp_var, wp_C, wp_bin, wp_un, wp_T, wp_Tb, wp_asBl, wp_truthBl, wp_bAnd, wp_bOr, wp_bNot, wp_eIf, wp_eAnd, wp_eOr, wp_eNot, blCase_bl, wp_chain, wp_aNil, wp_aCons, wp_tup, wp_lst, wp_lstM, wp_call, wp_cl1, wp_cl2, wp_cl3, wp_cl4, wp_cl5, wp_meth, wp_isi, wp_oNone, wp_oSome, wp_sl, wp_it, wp_range1, wp_range2, wp_bYes, gEq_str, gNe_str, gEq_int, gNe_int, gEq_bl, gNe_bl, gIs_bl, gIsNot_bl, gAdd_int, gSub_int, gC_int, gI_int, gAdd_str, gAdd_tup, gAdd_lst, gNeg_int, gIx_tup, gIx_lst, gLen_tup, gLen_lst, gLen_str, gInt_int, gInt_bl, gTuple_lst, gTuple_tup, gList_lst, gList_tup, gSl_tup, gSl_lst, gSl_fl, gSl_str, srcL_tup, srcL_lst, srcL_fl, srcL_str, srcR1_int, typN, startR, List.map_cons, List.map_nil, List.length_cons, List.length_nil, Nat.reduceAdd, Nat.reduceSub, Nat.zero_add, Nat.sub_self, Nat.sub_zero, List.replicate_zero, List.replicate_succ, List.cons_append, List.nil_append, List.append_nil, List.getElem?_cons_zero, List.getElem?_cons_succ, List.set_cons_zero, List.set_cons_succ, List.set_nil, List.getElem?_nil, Option.some.injEq, exists_eq_left', exists_eq_left, exists_eq_right, reduceCtorEq, false_and, and_false, true_and, and_true, exists_false, exists_const, wipeR, Nat.zero_le, String.reduceEq, D.int.injEq, D.str.injEq, D.bl.injEq, atI_0, atI_1, atI_2, atI_3, atI_4, beq_self_eq_true, not_true_eq_false, not_false_eq_true, Int.cast_ofNat_Int, Int.reduceEq, Int.reduceLE, Int.reduceLT, Int.reduceAdd, Int.reduceSub, Int.reduceMul, Int.reduceNeg, if_true, if_false, ite_true, ite_false, Bool.false_eq_true, if_neg, if_pos, decide_eq_true_eq, Bool.not_eq_true', decide_eq_false_iff_not, eq_self_iff_true, decide_true, decide_false, Bool.not_true, Bool.not_false]; exact hF
  | lst i => simp only [b_is_op, isiN_lt, fin_bl hS, wp_ok, wp_ret, wp_stuck, wp_bad, wp_bnd, wp_if, wp_fif, wps_ok_nx, wps_ok_rt, wps_ok_bk, wps_ok_ct, wps_ok_xc, wps_bad, wps_lft, wps_seq, wps_nil, wps_ret, wps_expr, wps_asg, wps_if, wp_run, wps_for, wps_while, wp_comp, wp_var, wp_C, wp_bin, wp_un, wp_T, wp_Tb, wp_asBl, wp_truthBl, wp_bAnd, wp_bOr, wp_bNot, wp_eIf, wp_eAnd, wp_eOr, wp_eNot, blCase_bl, wp_chain, wp_aNil, wp_aCons, wp_tup, wp_lst, wp_lstM, wp_call, wp_cl1, wp_cl2, wp_cl3, wp_cl4, wp_cl5, wp_meth, wp_isi, wp_oNone, wp_oSome, wp_sl, wp_it, wp_range1, wp_range2, wp_bYes, gEq_str, gNe_str, gEq_int, gNe_int, gEq_bl, gNe_bl, gIs_bl, gIsNot_bl, gAdd_int, gSub_int, gC_int, gI_int, gAdd_str, gAdd_tup, gAdd_lst, gNeg_int, gIx_tup, gIx_lst, gLen_tup, gLen_lst, gLen_str, gInt_int, gInt_bl, gTuple_lst, gTuple_tup, gList_lst, gList_tup, gSl_tup, gSl_lst, gSl_fl, gSl_str, srcL_tup, srcL_lst, srcL_fl, srcL_str, srcR1_int, typN, startR, List.map_cons, List.map_nil, List.length_cons, List.length_nil, Nat.reduceAdd, Nat.reduceSub, Nat.zero_add, Nat.sub_self, Nat.sub_zero, List.replicate_zero, List.replicate_succ, List.cons_append, List.nil_append, List.append_nil, List.getElem?_cons_zero, List.getElem?_cons_succ, List.set_cons_zero, List.set_cons_succ, List.set_nil, List.getElem?_nil, Option.some.injEq, exists_eq_left', exists_eq_left, exists_eq_right, reduceCtorEq, false_and, and_false, true_and, and_true, exists_false, exists_const, wipeR, Nat.zero_le, String.reduceEq, D.int.injEq, D.str.injEq, D.bl.injEq, atI_0, atI_1, atI_2, atI_3, atI_4, beq_self_eq_true, not_true_eq_false, not_false_eq_true, Int.cast_ofNat_Int, Int.reduceEq, Int.reduceLE, Int.reduceLT, Int.reduceAdd, Int.reduceSub, Int.reduceMul, Int.reduceNeg, if_true, if_false, ite_true, ite_false, Bool.false_eq_true, if_neg, if_pos, decide_eq_true_eq, Bool.not_eq_true', decide_eq_false_iff_not, eq_self_iff_true, decide_true, decide_false, Bool.not_true, Bool.not_false]; exact hF
  | fl i => simp only [b_is_op, isiN_lt, fin_bl hS, wp_ok, wp_ret, wp_stuck, wp_bad, wp_bnd, wp_if, wp_fif, wps_ok_nx, wps_ok_rt, wps_ok_bk, wps_ok_ct, wps_ok_xc, wps_bad, wps_lft, wps_seq, wps_nil, wps_ret, wps_expr, wps_asg, wps_if, wp_run, wps_for, wps_while, wp_comp, wp_var, wp_C, wp_bin, wp_un, wp_T, wp_Tb, wp_asBl, wp_truthBl, wp_bAnd, wp_bOr, wp_bNot, wp_eIf, wp_eAnd, wp_eOr, wp_eNot, blCase_bl, wp_chain, wp_aNil, wp_aCons, wp_tup, wp_lst, wp_lstM, wp_call, wp_cl1, wp_cl2, wp_cl3, wp_cl4, wp_cl5, wp_meth, wp_isi, wp_oNone, wp_oSome, wp_sl, wp_it, wp_range1, wp_range2, wp_bYes, gEq_str, gNe_str, gEq_int, gNe_int, gEq_bl, gNe_bl, gIs_bl, gIsNot_bl, gAdd_int, gSub_int, gC_int, gI_int, gAdd_str, gAdd_tup, gAdd_lst, gNeg_int, gIx_tup, gIx_lst, gLen_tup, gLen_lst, gLen_str, gInt_int, gInt_bl, gTuple_lst, gTuple_tup, gList_lst, gList_tup, gSl_tup, gSl_lst, gSl_fl, gSl_str, srcL_tup, srcL_lst, srcL_fl, srcL_str, srcR1_int, typN, startR, List.map_cons, List.map_nil, List.length_cons, List.length_nil, Nat.reduceAdd, Nat.reduceSub, Nat.zero_add, Nat.sub_self, Nat.sub_zero, List.replicate_zero, List.replicate_succ, List.cons_append, List.nil_append, List.append_nil, List.getElem?_cons_zero, List.getElem?_cons_succ, List.set_cons_zero, List.set_cons_succ, List.set_nil, List.getElem?_nil, Option.some.injEq, exists_eq_left', exists_eq_left, exists_eq_right, reduceCtorEq, false_and, and_false, true_and, and_true, exists_false, exists_const, wipeR, Nat.zero_le, String.reduceEq, D.int.injEq, D.str.injEq, D.bl.injEq, atI_0, atI_1, atI_2, atI_3, atI_4, beq_self_eq_true, not_true_eq_false, not_false_eq_true, Int.cast_ofNat_Int, Int.reduceEq, Int.reduceLE, Int.reduceLT, Int.reduceAdd, Int.reduceSub, Int.reduceMul, Int.reduceNeg, if_true, if_false, ite_true, ite_false, Bool.false_eq_true, if_neg, if_pos, decide_eq_true_eq, Bool.not_eq_true', decide_eq_false_iff_not, eq_self_iff_true, decide_true, decide_false, Bool.not_true, Bool.not_false]; exact hF
theorem ov_nil : OV 1 fu (.tup []) many false := by
  intro n S F E hN hS hF
  obtain ⟨m, rfl⟩ : ∃ m, n = m + 1 := ⟨n - 1, by omega⟩
  rw [den_op]
  simp only [b_is_op, isiN_tt, fin_bl hS, show ((0 : Nat) : Int) = 0 from rfl, wp_ok, wp_ret, wp_stuck, wp_bad, wp_bnd, wp_if, wp_fif, wps_ok_nx, wps_ok_rt, wps_ok_bk, wps_ok_ct, wps_ok_xc, wps_bad, wps_lft, wps_seq, wps_nil, wps_ret, wps_expr, wps_asg, wps_if, wp_run, wps_for, wps_while, wp_comp, wp_var, wp_C, wp_bin, wp_un, wp_T, wp_Tb, wp_asBl, wp_truthBl, wp_bAnd, wp_bOr, wp_bNot, wp_eIf, wp_eAnd, wp_eOr, wp_eNot, blCase_bl, wp_chain, wp_aNil, wp_aCons, wp_tup, wp_lst, wp_lstM, wp_call, wp_cl1, wp_cl2, wp_cl3, wp_cl4, wp_cl5, wp_meth, wp_isi, wp_oNone, wp_oSome, wp_sl, wp_it, wp_range1, wp_range2, wp_bYes, gEq_str, gNe_str, gEq_int, gNe_int, gEq_bl, gNe_bl, gIs_bl, gIsNot_bl, gAdd_int, gSub_int, gC_int, gI_int, gAdd_str, gAdd_tup, gAdd_lst, gNeg_int, gIx_tup, gIx_lst, gLen_tup, gLen_lst, gLen_str, gInt_int, gInt_bl, gTuple_lst, gTuple_tup, gList_lst, gList_tup, gSl_tup, gSl_lst, gSl_fl, gSl_str, srcL_tup, srcL_lst, srcL_fl, srcL_str, srcR1_int, typN, startR, List.map_cons, List.map_nil, List.length_cons, List.length_nil, Nat.reduceAdd, Nat.reduceSub, Nat.zero_add, Nat.sub_self, Nat.sub_zero, List.replicate_zero, List.replicate_succ, List.cons_append, List.nil_append, List.append_nil, List.getElem?_cons_zero, List.getElem?_cons_succ, List.set_cons_zero, List.set_cons_succ, List.set_nil, List.getElem?_nil, Option.some.injEq, exists_eq_left', exists_eq_left, exists_eq_right, reduceCtorEq, false_and, and_false, true_and, and_true, exists_false, exists_const, wipeR, Nat.zero_le, String.reduceEq, D.int.injEq, D.str.injEq, D.bl.injEq, atI_0, atI_1, atI_2, atI_3, atI_4, beq_self_eq_true, not_true_eq_false, not_false_eq_true, Int.cast_ofNat_Int, Int.reduceEq, Int.reduceLE, Int.reduceLT, Int.reduceAdd, Int.reduceSub, Int.reduceMul, Int.reduceNeg, if_true, if_false, ite_true, ite_false, Bool.false_eq_true, if_neg, if_pos, decide_eq_true_eq, Bool.not_eq_true', decide_eq_false_iff_not, eq_self_iff_true, decide_true, decide_false, Bool.not_true, Bool.not_false]; exact hF
theorem ov_one {x : D} : OV 1 fu (.tup [x]) many false := by
  intro n S F E hN hS hF
  obtain ⟨m, rfl⟩ : ∃ m, n = m + 1 := ⟨n - 1, by omega⟩
  rw [den_op]
  simp only [b_is_op, isiN_tt, fin_bl hS, show ((1 : Nat) : Int) = 1 from rfl, wp_ok, wp_ret, wp_stuck, wp_bad, wp_bnd, wp_if, wp_fif, wps_ok_nx, wps_ok_rt, wps_ok_bk, wps_ok_ct, wps_ok_xc, wps_bad, wps_lft, wps_seq, wps_nil, wps_ret, wps_expr, wps_asg, wps_if, wp_run, wps_for, wps_while, wp_comp, wp_var, wp_C, wp_bin, wp_un, wp_T, wp_Tb, wp_asBl, wp_truthBl, wp_bAnd, wp_bOr, wp_bNot, wp_eIf, wp_eAnd, wp_eOr, wp_eNot, blCase_bl, wp_chain, wp_aNil, wp_aCons, wp_tup, wp_lst, wp_lstM, wp_call, wp_cl1, wp_cl2, wp_cl3, wp_cl4, wp_cl5, wp_meth, wp_isi, wp_oNone, wp_oSome, wp_sl, wp_it, wp_range1, wp_range2, wp_bYes, gEq_str, gNe_str, gEq_int, gNe_int, gEq_bl, gNe_bl, gIs_bl, gIsNot_bl, gAdd_int, gSub_int, gC_int, gI_int, gAdd_str, gAdd_tup, gAdd_lst, gNeg_int, gIx_tup, gIx_lst, gLen_tup, gLen_lst, gLen_str, gInt_int, gInt_bl, gTuple_lst, gTuple_tup, gList_lst, gList_tup, gSl_tup, gSl_lst, gSl_fl, gSl_str, srcL_tup, srcL_lst, srcL_fl, srcL_str, srcR1_int, typN, startR, List.map_cons, List.map_nil, List.length_cons, List.length_nil, Nat.reduceAdd, Nat.reduceSub, Nat.zero_add, Nat.sub_self, Nat.sub_zero, List.replicate_zero, List.replicate_succ, List.cons_append, List.nil_append, List.append_nil, List.getElem?_cons_zero, List.getElem?_cons_succ, List.set_cons_zero, List.set_cons_succ, List.set_nil, List.getElem?_nil, Option.some.injEq, exists_eq_left', exists_eq_left, exists_eq_right, reduceCtorEq, false_and, and_false, true_and, and_true, exists_false, exists_const, wipeR, Nat.zero_le, String.reduceEq, D.int.injEq, D.str.injEq, D.bl.injEq, atI_0, atI_1, atI_2, atI_3, atI_4, beq_self_eq_true, not_true_eq_false, not_false_eq_true, Int.cast_ofNat_Int, Int.reduceEq, Int.reduceLE, Int.reduceLT, Int.reduceAdd, Int.reduceSub, Int.reduceMul, Int.reduceNeg, if_true, if_false, ite_true, ite_false, Bool.false_eq_true, if_neg, if_pos, decide_eq_true_eq, Bool.not_eq_true', decide_eq_false_iff_not, eq_self_iff_true, decide_true, decide_false, Bool.not_true, Bool.not_false]; exact hF
theorem ov_none {x : D} {r : List D} : OV 1 fu (.tup (.non :: x :: r)) many false := by
  intro n S F E hN hS hF
  obtain ⟨m, rfl⟩ : ∃ m, n = m + 1 := ⟨n - 1, by omega⟩
  rw [den_op]
  simp only [b_is_op, isiN_tt, isiN_ns, fin_bl hS, show ¬ ((r.length + 1 + 1 : Nat) : Int) < 2 by omega, wp_ok, wp_ret, wp_stuck, wp_bad, wp_bnd, wp_if, wp_fif, wps_ok_nx, wps_ok_rt, wps_ok_bk, wps_ok_ct, wps_ok_xc, wps_bad, wps_lft, wps_seq, wps_nil, wps_ret, wps_expr, wps_asg, wps_if, wp_run, wps_for, wps_while, wp_comp, wp_var, wp_C, wp_bin, wp_un, wp_T, wp_Tb, wp_asBl, wp_truthBl, wp_bAnd, wp_bOr, wp_bNot, wp_eIf, wp_eAnd, wp_eOr, wp_eNot, blCase_bl, wp_chain, wp_aNil, wp_aCons, wp_tup, wp_lst, wp_lstM, wp_call, wp_cl1, wp_cl2, wp_cl3, wp_cl4, wp_cl5, wp_meth, wp_isi, wp_oNone, wp_oSome, wp_sl, wp_it, wp_range1, wp_range2, wp_bYes, gEq_str, gNe_str, gEq_int, gNe_int, gEq_bl, gNe_bl, gIs_bl, gIsNot_bl, gAdd_int, gSub_int, gC_int, gI_int, gAdd_str, gAdd_tup, gAdd_lst, gNeg_int, gIx_tup, gIx_lst, gLen_tup, gLen_lst, gLen_str, gInt_int, gInt_bl, gTuple_lst, gTuple_tup, gList_lst, gList_tup, gSl_tup, gSl_lst, gSl_fl, gSl_str, srcL_tup, srcL_lst, srcL_fl, srcL_str, srcR1_int, typN, startR, List.map_cons, List.map_nil, List.length_cons, List.length_nil, Nat.reduceAdd, Nat.reduceSub, Nat.zero_add, Nat.sub_self, Nat.sub_zero, List.replicate_zero, List.replicate_succ, List.cons_append, List.nil_append, List.append_nil, List.getElem?_cons_zero, List.getElem?_cons_succ, List.set_cons_zero, List.set_cons_succ, List.set_nil, List.getElem?_nil, Option.some.injEq, exists_eq_left', exists_eq_left, exists_eq_right, reduceCtorEq, false_and, and_false, true_and, and_true, exists_false, exists_const, wipeR, Nat.zero_le, String.reduceEq, D.int.injEq, D.str.injEq, D.bl.injEq, atI_0, atI_1, atI_2, atI_3, atI_4, beq_self_eq_true, not_true_eq_false, not_false_eq_true, Int.cast_ofNat_Int, Int.reduceEq, Int.reduceLE, Int.reduceLT, Int.reduceAdd, Int.reduceSub, Int.reduceMul, Int.reduceNeg, if_true, if_false, ite_true, ite_false, Bool.false_eq_true, if_neg, if_pos, decide_eq_true_eq, Bool.not_eq_true', decide_eq_false_iff_not, eq_self_iff_true, decide_true, decide_false, Bool.not_true, Bool.not_false]; exact hF
theorem nopairs {w : Str} (h : w = Str.ofString "pushes" ∨ w = Str.ofString "push" ∨ w = Str.ofString "wrap" ∨ w = Str.ofString "if") : ¬ w ∈ pairs := by
  rcases h with rfl | rfl | rfl | rfl <;> decide +kernel
theorem gIn_pairs {w : Str} {S : Sto} {F : D → Sto → Prop} {E : Exc → Sto → Prop} : wp (gIn (.str w) (.tup (pairs.map .str)) S) F E ↔ F (.bl (decide (w ∈ pairs))) S := gIn_strs rfl
theorem ov_pushes {x : D} {r : List D} : OV 1 fu (.tup (.str "pushes" :: x :: r)) many false := by
  intro n S F E hN hS hF
  obtain ⟨m, rfl⟩ : ∃ m, n = m + 1 := ⟨n - 1, by omega⟩
  rw [den_op]
  simp only [b_is_op, isiN_tt, isiN_ss, fin_bl hS, k_PAIRS_eq, gIn_pairs, nopairs (.inl rfl), ofString_inj, show ¬ ((r.length + 1 + 1 : Nat) : Int) < 2 by omega, wp_ok, wp_ret, wp_stuck, wp_bad, wp_bnd, wp_if, wp_fif, wps_ok_nx, wps_ok_rt, wps_ok_bk, wps_ok_ct, wps_ok_xc, wps_bad, wps_lft, wps_seq, wps_nil, wps_ret, wps_expr, wps_asg, wps_if, wp_run, wps_for, wps_while, wp_comp, wp_var, wp_C, wp_bin, wp_un, wp_T, wp_Tb, wp_asBl, wp_truthBl, wp_bAnd, wp_bOr, wp_bNot, wp_eIf, wp_eAnd, wp_eOr, wp_eNot, blCase_bl, wp_chain, wp_aNil, wp_aCons, wp_tup, wp_lst, wp_lstM, wp_call, wp_cl1, wp_cl2, wp_cl3, wp_cl4, wp_cl5, wp_meth, wp_isi, wp_oNone, wp_oSome, wp_sl, wp_it, wp_range1, wp_range2, wp_bYes, gEq_str, gNe_str, gEq_int, gNe_int, gEq_bl, gNe_bl, gIs_bl, gIsNot_bl, gAdd_int, gSub_int, gC_int, gI_int, gAdd_str, gAdd_tup, gAdd_lst, gNeg_int, gIx_tup, gIx_lst, gLen_tup, gLen_lst, gLen_str, gInt_int, gInt_bl, gTuple_lst, gTuple_tup, gList_lst, gList_tup, gSl_tup, gSl_lst, gSl_fl, gSl_str, srcL_tup, srcL_lst, srcL_fl, srcL_str, srcR1_int, typN, startR, List.map_cons, List.map_nil, List.length_cons, List.length_nil, Nat.reduceAdd, Nat.reduceSub, Nat.zero_add, Nat.sub_self, Nat.sub_zero, List.replicate_zero, List.replicate_succ, List.cons_append, List.nil_append, List.append_nil, List.getElem?_cons_zero, List.getElem?_cons_succ, List.set_cons_zero, List.set_cons_succ, List.set_nil, List.getElem?_nil, Option.some.injEq, exists_eq_left', exists_eq_left, exists_eq_right, reduceCtorEq, false_and, and_false, true_and, and_true, exists_false, exists_const, wipeR, Nat.zero_le, String.reduceEq, D.int.injEq, D.str.injEq, D.bl.injEq, atI_0, atI_1, atI_2, atI_3, atI_4, beq_self_eq_true, not_true_eq_false, not_false_eq_true, Int.cast_ofNat_Int, Int.reduceEq, Int.reduceLE, Int.reduceLT, Int.reduceAdd, Int.reduceSub, Int.reduceMul, Int.reduceNeg, if_true, if_false, ite_true, ite_false, Bool.false_eq_true, if_neg, if_pos, decide_eq_true_eq, Bool.not_eq_true', decide_eq_false_iff_not, eq_self_iff_true, decide_true, decide_false, Bool.not_true, Bool.not_false]; exact hF
theorem ov_push3 {x y : D} {r : List D} : OV 1 fu (.tup (.str "push" :: x :: y :: r)) many false := by
  intro n S F E hN hS hF
  obtain ⟨m, rfl⟩ : ∃ m, n = m + 1 := ⟨n - 1, by omega⟩
  rw [den_op]
  simp only [b_is_op, isiN_tt, isiN_ss, fin_bl hS, ofString_inj, show ¬ ((r.length + 1 + 1 + 1 : Nat) : Int) < 2 by omega, show ¬ ((r.length + 1 + 1 + 1 : Nat) : Int) = 2 by omega, wp_ok, wp_ret, wp_stuck, wp_bad, wp_bnd, wp_if, wp_fif, wps_ok_nx, wps_ok_rt, wps_ok_bk, wps_ok_ct, wps_ok_xc, wps_bad, wps_lft, wps_seq, wps_nil, wps_ret, wps_expr, wps_asg, wps_if, wp_run, wps_for, wps_while, wp_comp, wp_var, wp_C, wp_bin, wp_un, wp_T, wp_Tb, wp_asBl, wp_truthBl, wp_bAnd, wp_bOr, wp_bNot, wp_eIf, wp_eAnd, wp_eOr, wp_eNot, blCase_bl, wp_chain, wp_aNil, wp_aCons, wp_tup, wp_lst, wp_lstM, wp_call, wp_cl1, wp_cl2, wp_cl3, wp_cl4, wp_cl5, wp_meth, wp_isi, wp_oNone, wp_oSome, wp_sl, wp_it, wp_range1, wp_range2, wp_bYes, gEq_str, gNe_str, gEq_int, gNe_int, gEq_bl, gNe_bl, gIs_bl, gIsNot_bl, gAdd_int, gSub_int, gC_int, gI_int, gAdd_str, gAdd_tup, gAdd_lst, gNeg_int, gIx_tup, gIx_lst, gLen_tup, gLen_lst, gLen_str, gInt_int, gInt_bl, gTuple_lst, gTuple_tup, gList_lst, gList_tup, gSl_tup, gSl_lst, gSl_fl, gSl_str, srcL_tup, srcL_lst, srcL_fl, srcL_str, srcR1_int, typN, startR, List.map_cons, List.map_nil, List.length_cons, List.length_nil, Nat.reduceAdd, Nat.reduceSub, Nat.zero_add, Nat.sub_self, Nat.sub_zero, List.replicate_zero, List.replicate_succ, List.cons_append, List.nil_append, List.append_nil, List.getElem?_cons_zero, List.getElem?_cons_succ, List.set_cons_zero, List.set_cons_succ, List.set_nil, List.getElem?_nil, Option.some.injEq, exists_eq_left', exists_eq_left, exists_eq_right, reduceCtorEq, false_and, and_false, true_and, and_true, exists_false, exists_const, wipeR, Nat.zero_le, String.reduceEq, D.int.injEq, D.str.injEq, D.bl.injEq, atI_0, atI_1, atI_2, atI_3, atI_4, beq_self_eq_true, not_true_eq_false, not_false_eq_true, Int.cast_ofNat_Int, Int.reduceEq, Int.reduceLE, Int.reduceLT, Int.reduceAdd, Int.reduceSub, Int.reduceMul, Int.reduceNeg, if_true, if_false, ite_true, ite_false, Bool.false_eq_true, if_neg, if_pos, decide_eq_true_eq, Bool.not_eq_true', decide_eq_false_iff_not, eq_self_iff_true, decide_true, decide_false, Bool.not_true, Bool.not_false]; exact hF
theorem ov_wrap3 {x y : D} {r : List D} : OV 1 fu (.tup (.str "wrap" :: x :: y :: r)) many false := by
  intro n S F E hN hS hF
  obtain ⟨m, rfl⟩ : ∃ m, n = m + 1 := ⟨n - 1, by omega⟩
  rw [den_op]
  simp only [b_is_op, isiN_tt, isiN_ss, fin_bl hS, ofString_inj, show ¬ ((r.length + 1 + 1 + 1 : Nat) : Int) < 2 by omega, show ¬ ((r.length + 1 + 1 + 1 : Nat) : Int) = 2 by omega, wp_ok, wp_ret, wp_stuck, wp_bad, wp_bnd, wp_if, wp_fif, wps_ok_nx, wps_ok_rt, wps_ok_bk, wps_ok_ct, wps_ok_xc, wps_bad, wps_lft, wps_seq, wps_nil, wps_ret, wps_expr, wps_asg, wps_if, wp_run, wps_for, wps_while, wp_comp, wp_var, wp_C, wp_bin, wp_un, wp_T, wp_Tb, wp_asBl, wp_truthBl, wp_bAnd, wp_bOr, wp_bNot, wp_eIf, wp_eAnd, wp_eOr, wp_eNot, blCase_bl, wp_chain, wp_aNil, wp_aCons, wp_tup, wp_lst, wp_lstM, wp_call, wp_cl1, wp_cl2, wp_cl3, wp_cl4, wp_cl5, wp_meth, wp_isi, wp_oNone, wp_oSome, wp_sl, wp_it, wp_range1, wp_range2, wp_bYes, gEq_str, gNe_str, gEq_int, gNe_int, gEq_bl, gNe_bl, gIs_bl, gIsNot_bl, gAdd_int, gSub_int, gC_int, gI_int, gAdd_str, gAdd_tup, gAdd_lst, gNeg_int, gIx_tup, gIx_lst, gLen_tup, gLen_lst, gLen_str, gInt_int, gInt_bl, gTuple_lst, gTuple_tup, gList_lst, gList_tup, gSl_tup, gSl_lst, gSl_fl, gSl_str, srcL_tup, srcL_lst, srcL_fl, srcL_str, srcR1_int, typN, startR, List.map_cons, List.map_nil, List.length_cons, List.length_nil, Nat.reduceAdd, Nat.reduceSub, Nat.zero_add, Nat.sub_self, Nat.sub_zero, List.replicate_zero, List.replicate_succ, List.cons_append, List.nil_append, List.append_nil, List.getElem?_cons_zero, List.getElem?_cons_succ, List.set_cons_zero, List.set_cons_succ, List.set_nil, List.getElem?_nil, Option.some.injEq, exists_eq_left', exists_eq_left, exists_eq_right, reduceCtorEq, false_and, and_false, true_and, and_true, exists_false, exists_const, wipeR, Nat.zero_le, String.reduceEq, D.int.injEq, D.str.injEq, D.bl.injEq, atI_0, atI_1, atI_2, atI_3, atI_4, beq_self_eq_true, not_true_eq_false, not_false_eq_true, Int.cast_ofNat_Int, Int.reduceEq, Int.reduceLE, Int.reduceLT, Int.reduceAdd, Int.reduceSub, Int.reduceMul, Int.reduceNeg, if_true, if_false, ite_true, ite_false, Bool.false_eq_true, if_neg, if_pos, decide_eq_true_eq, Bool.not_eq_true', decide_eq_false_iff_not, eq_self_iff_true, decide_true, decide_false, Bool.not_true, Bool.not_false]; exact hF
theorem ov_pairlen {w : Str} {x : D} {r : List D} (hw : w ∈ pairs) (hr : r.length ≠ 1) : OV 1 fu (.tup (.str w :: x :: r)) many false := by
  intro n S F E hN hS hF
  obtain ⟨m, rfl⟩ : ∃ m, n = m + 1 := ⟨n - 1, by omega⟩
  rw [den_op]
  have n1 : ¬ w = Str.ofString "push" := fun e => by subst e; revert hw; decide +kernel
  have n2 : ¬ w = Str.ofString "wrap" := fun e => by subst e; revert hw; decide +kernel
  simp only [b_is_op, isiN_tt, isiN_ss, fin_bl hS, k_PAIRS_eq, gIn_pairs, hw, n1, n2, show ¬ ((r.length + 1 + 1 : Nat) : Int) < 2 by omega, show ¬ ((r.length + 1 + 1 : Nat) : Int) = 3 by omega, wp_ok, wp_ret, wp_stuck, wp_bad, wp_bnd, wp_if, wp_fif, wps_ok_nx, wps_ok_rt, wps_ok_bk, wps_ok_ct, wps_ok_xc, wps_bad, wps_lft, wps_seq, wps_nil, wps_ret, wps_expr, wps_asg, wps_if, wp_run, wps_for, wps_while, wp_comp, wp_var, wp_C, wp_bin, wp_un, wp_T, wp_Tb, wp_asBl, wp_truthBl, wp_bAnd, wp_bOr, wp_bNot, wp_eIf, wp_eAnd, wp_eOr, wp_eNot, blCase_bl, wp_chain, wp_aNil, wp_aCons, wp_tup, wp_lst, wp_lstM, wp_call, wp_cl1, wp_cl2, wp_cl3, wp_cl4, wp_cl5, wp_meth, wp_isi, wp_oNone, wp_oSome, wp_sl, wp_it, wp_range1, wp_range2, wp_bYes, gEq_str, gNe_str, gEq_int, gNe_int, gEq_bl, gNe_bl, gIs_bl, gIsNot_bl, gAdd_int, gSub_int, gC_int, gI_int, gAdd_str, gAdd_tup, gAdd_lst, gNeg_int, gIx_tup, gIx_lst, gLen_tup, gLen_lst, gLen_str, gInt_int, gInt_bl, gTuple_lst, gTuple_tup, gList_lst, gList_tup, gSl_tup, gSl_lst, gSl_fl, gSl_str, srcL_tup, srcL_lst, srcL_fl, srcL_str, srcR1_int, typN, startR, List.map_cons, List.map_nil, List.length_cons, List.length_nil, Nat.reduceAdd, Nat.reduceSub, Nat.zero_add, Nat.sub_self, Nat.sub_zero, List.replicate_zero, List.replicate_succ, List.cons_append, List.nil_append, List.append_nil, List.getElem?_cons_zero, List.getElem?_cons_succ, List.set_cons_zero, List.set_cons_succ, List.set_nil, List.getElem?_nil, Option.some.injEq, exists_eq_left', exists_eq_left, exists_eq_right, reduceCtorEq, false_and, and_false, true_and, and_true, exists_false, exists_const, wipeR, Nat.zero_le, String.reduceEq, D.int.injEq, D.str.injEq, D.bl.injEq, atI_0, atI_1, atI_2, atI_3, atI_4, beq_self_eq_true, not_true_eq_false, not_false_eq_true, Int.cast_ofNat_Int, Int.reduceEq, Int.reduceLE, Int.reduceLT, Int.reduceAdd, Int.reduceSub, Int.reduceMul, Int.reduceNeg, if_true, if_false, ite_true, ite_false, Bool.false_eq_true, if_neg, if_pos, decide_eq_true_eq, Bool.not_eq_true', decide_eq_false_iff_not, eq_self_iff_true, decide_true, decide_false, Bool.not_true, Bool.not_false]; exact hF
theorem ov_iflen {x : D} {r : List D} (hr : r.length ≠ 3) : OV 1 fu (.tup (.str "if" :: x :: r)) many false := by
  intro n S F E hN hS hF
  obtain ⟨m, rfl⟩ : ∃ m, n = m + 1 := ⟨n - 1, by omega⟩
  rw [den_op]
  simp only [b_is_op, isiN_tt, isiN_ss, fin_bl hS, k_PAIRS_eq, gIn_pairs, nopairs (.inr (.inr (.inr rfl))), ofString_inj, show ¬ ((r.length + 1 + 1 : Nat) : Int) < 2 by omega, show ¬ ((r.length + 1 + 1 : Nat) : Int) = 5 by omega, wp_ok, wp_ret, wp_stuck, wp_bad, wp_bnd, wp_if, wp_fif, wps_ok_nx, wps_ok_rt, wps_ok_bk, wps_ok_ct, wps_ok_xc, wps_bad, wps_lft, wps_seq, wps_nil, wps_ret, wps_expr, wps_asg, wps_if, wp_run, wps_for, wps_while, wp_comp, wp_var, wp_C, wp_bin, wp_un, wp_T, wp_Tb, wp_asBl, wp_truthBl, wp_bAnd, wp_bOr, wp_bNot, wp_eIf, wp_eAnd, wp_eOr, wp_eNot, blCase_bl, wp_chain, wp_aNil, wp_aCons, wp_tup, wp_lst, wp_lstM, wp_call, wp_cl1, wp_cl2, wp_cl3, wp_cl4, wp_cl5, wp_meth, wp_isi, wp_oNone, wp_oSome, wp_sl, wp_it, wp_range1, wp_range2, wp_bYes, gEq_str, gNe_str, gEq_int, gNe_int, gEq_bl, gNe_bl, gIs_bl, gIsNot_bl, gAdd_int, gSub_int, gC_int, gI_int, gAdd_str, gAdd_tup, gAdd_lst, gNeg_int, gIx_tup, gIx_lst, gLen_tup, gLen_lst, gLen_str, gInt_int, gInt_bl, gTuple_lst, gTuple_tup, gList_lst, gList_tup, gSl_tup, gSl_lst, gSl_fl, gSl_str, srcL_tup, srcL_lst, srcL_fl, srcL_str, srcR1_int, typN, startR, List.map_cons, List.map_nil, List.length_cons, List.length_nil, Nat.reduceAdd, Nat.reduceSub, Nat.zero_add, Nat.sub_self, Nat.sub_zero, List.replicate_zero, List.replicate_succ, List.cons_append, List.nil_append, List.append_nil, List.getElem?_cons_zero, List.getElem?_cons_succ, List.set_cons_zero, List.set_cons_succ, List.set_nil, List.getElem?_nil, Option.some.injEq, exists_eq_left', exists_eq_left, exists_eq_right, reduceCtorEq, false_and, and_false, true_and, and_true, exists_false, exists_const, wipeR, Nat.zero_le, String.reduceEq, D.int.injEq, D.str.injEq, D.bl.injEq, atI_0, atI_1, atI_2, atI_3, atI_4, beq_self_eq_true, not_true_eq_false, not_false_eq_true, Int.cast_ofNat_Int, Int.reduceEq, Int.reduceLE, Int.reduceLT, Int.reduceAdd, Int.reduceSub, Int.reduceMul, Int.reduceNeg, if_true, if_false, ite_true, ite_false, Bool.false_eq_true, if_neg, if_pos, decide_eq_true_eq, Bool.not_eq_true', decide_eq_false_iff_not, eq_self_iff_true, decide_true, decide_false, Bool.not_true, Bool.not_false]; exact hF
/-- what is_thing lets not by -/
def TV (fu : Nat) (t : D) : Prop := ∀ (n : Nat) (S : Sto) (F : D → Sto → Prop) (E : Exc → Sto → Prop), 3 ≤ n → WF S → F (.bl false) S → wp (den fu n i_is_thing [t] S) F E
theorem tv_number {i : Int} (h : ¬ (0 ≤ i ∧ i < 1000000000000)) : TV fu (.tup [.str "number", .int i]) := by
  intro n S F E hN hS hF
  obtain ⟨m, rfl⟩ : ∃ m, n = m + 2 := ⟨n - 2, by omega⟩
  rw [den_thing]
  simp only [b_is_thing, isiN_ss, isiN_tt, fin_bl hS, ofString_inj, wp_ok, wp_ret, wp_stuck, wp_bad, wp_bnd, wp_if, wp_fif, wps_ok_nx, wps_ok_rt, wps_ok_bk, wps_ok_ct, wps_ok_xc, wps_bad, wps_lft, wps_seq, wps_nil, wps_ret, wps_expr, wps_asg, wps_if, wp_run, wps_for, wps_while, wp_comp, wp_var, wp_C, wp_bin, wp_un, wp_T, wp_Tb, wp_asBl, wp_truthBl, wp_bAnd, wp_bOr, wp_bNot, wp_eIf, wp_eAnd, wp_eOr, wp_eNot, blCase_bl, wp_chain, wp_aNil, wp_aCons, wp_tup, wp_lst, wp_lstM, wp_call, wp_cl1, wp_cl2, wp_cl3, wp_cl4, wp_cl5, wp_meth, wp_isi, wp_oNone, wp_oSome, wp_sl, wp_it, wp_range1, wp_range2, wp_bYes, gEq_str, gNe_str, gEq_int, gNe_int, gEq_bl, gNe_bl, gIs_bl, gIsNot_bl, gAdd_int, gSub_int, gC_int, gI_int, gAdd_str, gAdd_tup, gAdd_lst, gNeg_int, gIx_tup, gIx_lst, gLen_tup, gLen_lst, gLen_str, gInt_int, gInt_bl, gTuple_lst, gTuple_tup, gList_lst, gList_tup, gSl_tup, gSl_lst, gSl_fl, gSl_str, srcL_tup, srcL_lst, srcL_fl, srcL_str, srcR1_int, typN, startR, List.map_cons, List.map_nil, List.length_cons, List.length_nil, Nat.reduceAdd, Nat.reduceSub, Nat.zero_add, Nat.sub_self, Nat.sub_zero, List.replicate_zero, List.replicate_succ, List.cons_append, List.nil_append, List.append_nil, List.getElem?_cons_zero, List.getElem?_cons_succ, List.set_cons_zero, List.set_cons_succ, List.set_nil, List.getElem?_nil, Option.some.injEq, exists_eq_left', exists_eq_left, exists_eq_right, reduceCtorEq, false_and, and_false, true_and, and_true, exists_false, exists_const, wipeR, Nat.zero_le, String.reduceEq, D.int.injEq, D.str.injEq, D.bl.injEq, atI_0, atI_1, atI_2, atI_3, atI_4, beq_self_eq_true, not_true_eq_false, not_false_eq_true, Int.cast_ofNat_Int, Int.reduceEq, Int.reduceLE, Int.reduceLT, Int.reduceAdd, Int.reduceSub, Int.reduceMul, Int.reduceNeg, if_true, if_false, ite_true, ite_false, Bool.false_eq_true, if_neg, if_pos, decide_eq_true_eq, Bool.not_eq_true', decide_eq_false_iff_not, eq_self_iff_true, decide_true, decide_false, Bool.not_true, Bool.not_false]
  refine number_ok hS ?_
  rw [decide_eq_false h]
  exact (fin_bl hS).mpr hF
theorem tv_int {i : Int} : TV fu (.int i) := by
  intro n S F E hN hS hF
  obtain ⟨m, rfl⟩ : ∃ m, n = m + 2 := ⟨n - 2, by omega⟩
  rw [den_thing]
  simp only [b_is_thing, isiN_it, fin_bl hS, wp_ok, wp_ret, wp_stuck, wp_bad, wp_bnd, wp_if, wp_fif, wps_ok_nx, wps_ok_rt, wps_ok_bk, wps_ok_ct, wps_ok_xc, wps_bad, wps_lft, wps_seq, wps_nil, wps_ret, wps_expr, wps_asg, wps_if, wp_run, wps_for, wps_while, wp_comp, wp_var, wp_C, wp_bin, wp_un, wp_T, wp_Tb, wp_asBl, wp_truthBl, wp_bAnd, wp_bOr, wp_bNot, wp_eIf, wp_eAnd, wp_eOr, wp_eNot, blCase_bl, wp_chain, wp_aNil, wp_aCons, wp_tup, wp_lst, wp_lstM, wp_call, wp_cl1, wp_cl2, wp_cl3, wp_cl4, wp_cl5, wp_meth, wp_isi, wp_oNone, wp_oSome, wp_sl, wp_it, wp_range1, wp_range2, wp_bYes, gEq_str, gNe_str, gEq_int, gNe_int, gEq_bl, gNe_bl, gIs_bl, gIsNot_bl, gAdd_int, gSub_int, gC_int, gI_int, gAdd_str, gAdd_tup, gAdd_lst, gNeg_int, gIx_tup, gIx_lst, gLen_tup, gLen_lst, gLen_str, gInt_int, gInt_bl, gTuple_lst, gTuple_tup, gList_lst, gList_tup, gSl_tup, gSl_lst, gSl_fl, gSl_str, srcL_tup, srcL_lst, srcL_fl, srcL_str, srcR1_int, typN, startR, List.map_cons, List.map_nil, List.length_cons, List.length_nil, Nat.reduceAdd, Nat.reduceSub, Nat.zero_add, Nat.sub_self, Nat.sub_zero, List.replicate_zero, List.replicate_succ, List.cons_append, List.nil_append, List.append_nil, List.getElem?_cons_zero, List.getElem?_cons_succ, List.set_cons_zero, List.set_cons_succ, List.set_nil, List.getElem?_nil, Option.some.injEq, exists_eq_left', exists_eq_left, exists_eq_right, reduceCtorEq, false_and, and_false, true_and, and_true, exists_false, exists_const, wipeR, Nat.zero_le, String.reduceEq, D.int.injEq, D.str.injEq, D.bl.injEq, atI_0, atI_1, atI_2, atI_3, atI_4, beq_self_eq_true, not_true_eq_false, not_false_eq_true, Int.cast_ofNat_Int, Int.reduceEq, Int.reduceLE, Int.reduceLT, Int.reduceAdd, Int.reduceSub, Int.reduceMul, Int.reduceNeg, if_true, if_false, ite_true, ite_false, Bool.false_eq_true, if_neg, if_pos, decide_eq_true_eq, Bool.not_eq_true', decide_eq_false_iff_not, eq_self_iff_true, decide_true, decide_false, Bool.not_true, Bool.not_false]
  exact hF
theorem tv_row {l : List D} : TV fu (.tup [.str "row", .lst l]) := by
  intro n S F E hN hS hF
  obtain ⟨m, rfl⟩ : ∃ m, n = m + 2 := ⟨n - 2, by omega⟩
  rw [den_thing]
  simp only [b_is_thing, isiN_ss, isiN_tt, fin_bl hS, ofString_inj, wp_ok, wp_ret, wp_stuck, wp_bad, wp_bnd, wp_if, wp_fif, wps_ok_nx, wps_ok_rt, wps_ok_bk, wps_ok_ct, wps_ok_xc, wps_bad, wps_lft, wps_seq, wps_nil, wps_ret, wps_expr, wps_asg, wps_if, wp_run, wps_for, wps_while, wp_comp, wp_var, wp_C, wp_bin, wp_un, wp_T, wp_Tb, wp_asBl, wp_truthBl, wp_bAnd, wp_bOr, wp_bNot, wp_eIf, wp_eAnd, wp_eOr, wp_eNot, blCase_bl, wp_chain, wp_aNil, wp_aCons, wp_tup, wp_lst, wp_lstM, wp_call, wp_cl1, wp_cl2, wp_cl3, wp_cl4, wp_cl5, wp_meth, wp_isi, wp_oNone, wp_oSome, wp_sl, wp_it, wp_range1, wp_range2, wp_bYes, gEq_str, gNe_str, gEq_int, gNe_int, gEq_bl, gNe_bl, gIs_bl, gIsNot_bl, gAdd_int, gSub_int, gC_int, gI_int, gAdd_str, gAdd_tup, gAdd_lst, gNeg_int, gIx_tup, gIx_lst, gLen_tup, gLen_lst, gLen_str, gInt_int, gInt_bl, gTuple_lst, gTuple_tup, gList_lst, gList_tup, gSl_tup, gSl_lst, gSl_fl, gSl_str, srcL_tup, srcL_lst, srcL_fl, srcL_str, srcR1_int, typN, startR, List.map_cons, List.map_nil, List.length_cons, List.length_nil, Nat.reduceAdd, Nat.reduceSub, Nat.zero_add, Nat.sub_self, Nat.sub_zero, List.replicate_zero, List.replicate_succ, List.cons_append, List.nil_append, List.append_nil, List.getElem?_cons_zero, List.getElem?_cons_succ, List.set_cons_zero, List.set_cons_succ, List.set_nil, List.getElem?_nil, Option.some.injEq, exists_eq_left', exists_eq_left, exists_eq_right, reduceCtorEq, false_and, and_false, true_and, and_true, exists_false, exists_const, wipeR, Nat.zero_le, String.reduceEq, D.int.injEq, D.str.injEq, D.bl.injEq, atI_0, atI_1, atI_2, atI_3, atI_4, beq_self_eq_true, not_true_eq_false, not_false_eq_true, Int.cast_ofNat_Int, Int.reduceEq, Int.reduceLE, Int.reduceLT, Int.reduceAdd, Int.reduceSub, Int.reduceMul, Int.reduceNeg, if_true, if_false, ite_true, ite_false, Bool.false_eq_true, if_neg, if_pos, decide_eq_true_eq, Bool.not_eq_true', decide_eq_false_iff_not, eq_self_iff_true, decide_true, decide_false, Bool.not_true, Bool.not_false]
  rw [den_row]
  simp only [b_is_row, isiN_lt, fin_bl hS, wp_ok, wp_ret, wp_stuck, wp_bad, wp_bnd, wp_if, wp_fif, wps_ok_nx, wps_ok_rt, wps_ok_bk, wps_ok_ct, wps_ok_xc, wps_bad, wps_lft, wps_seq, wps_nil, wps_ret, wps_expr, wps_asg, wps_if, wp_run, wps_for, wps_while, wp_comp, wp_var, wp_C, wp_bin, wp_un, wp_T, wp_Tb, wp_asBl, wp_truthBl, wp_bAnd, wp_bOr, wp_bNot, wp_eIf, wp_eAnd, wp_eOr, wp_eNot, blCase_bl, wp_chain, wp_aNil, wp_aCons, wp_tup, wp_lst, wp_lstM, wp_call, wp_cl1, wp_cl2, wp_cl3, wp_cl4, wp_cl5, wp_meth, wp_isi, wp_oNone, wp_oSome, wp_sl, wp_it, wp_range1, wp_range2, wp_bYes, gEq_str, gNe_str, gEq_int, gNe_int, gEq_bl, gNe_bl, gIs_bl, gIsNot_bl, gAdd_int, gSub_int, gC_int, gI_int, gAdd_str, gAdd_tup, gAdd_lst, gNeg_int, gIx_tup, gIx_lst, gLen_tup, gLen_lst, gLen_str, gInt_int, gInt_bl, gTuple_lst, gTuple_tup, gList_lst, gList_tup, gSl_tup, gSl_lst, gSl_fl, gSl_str, srcL_tup, srcL_lst, srcL_fl, srcL_str, srcR1_int, typN, startR, List.map_cons, List.map_nil, List.length_cons, List.length_nil, Nat.reduceAdd, Nat.reduceSub, Nat.zero_add, Nat.sub_self, Nat.sub_zero, List.replicate_zero, List.replicate_succ, List.cons_append, List.nil_append, List.append_nil, List.getElem?_cons_zero, List.getElem?_cons_succ, List.set_cons_zero, List.set_cons_succ, List.set_nil, List.getElem?_nil, Option.some.injEq, exists_eq_left', exists_eq_left, exists_eq_right, reduceCtorEq, false_and, and_false, true_and, and_true, exists_false, exists_const, wipeR, Nat.zero_le, String.reduceEq, D.int.injEq, D.str.injEq, D.bl.injEq, atI_0, atI_1, atI_2, atI_3, atI_4, beq_self_eq_true, not_true_eq_false, not_false_eq_true, Int.cast_ofNat_Int, Int.reduceEq, Int.reduceLE, Int.reduceLT, Int.reduceAdd, Int.reduceSub, Int.reduceMul, Int.reduceNeg, if_true, if_false, ite_true, ite_false, Bool.false_eq_true, if_neg, if_pos, decide_eq_true_eq, Bool.not_eq_true', decide_eq_false_iff_not, eq_self_iff_true, decide_true, decide_false, Bool.not_true, Bool.not_false]
  exact hF
theorem ov_thing {t : D} (ht : TV fu t) : OV 4 fu (.tup [.str "push", t]) many false := by
  intro n S F E hN hS hF
  obtain ⟨m, rfl⟩ : ∃ m, n = m + 1 := ⟨n - 1, by omega⟩
  rw [den_op]
  simp only [b_is_op, isiN_tt, isiN_ss, fin_bl hS, ofString_inj, show ((2 : Nat) : Int) = 2 from rfl, wp_ok, wp_ret, wp_stuck, wp_bad, wp_bnd, wp_if, wp_fif, wps_ok_nx, wps_ok_rt, wps_ok_bk, wps_ok_ct, wps_ok_xc, wps_bad, wps_lft, wps_seq, wps_nil, wps_ret, wps_expr, wps_asg, wps_if, wp_run, wps_for, wps_while, wp_comp, wp_var, wp_C, wp_bin, wp_un, wp_T, wp_Tb, wp_asBl, wp_truthBl, wp_bAnd, wp_bOr, wp_bNot, wp_eIf, wp_eAnd, wp_eOr, wp_eNot, blCase_bl, wp_chain, wp_aNil, wp_aCons, wp_tup, wp_lst, wp_lstM, wp_call, wp_cl1, wp_cl2, wp_cl3, wp_cl4, wp_cl5, wp_meth, wp_isi, wp_oNone, wp_oSome, wp_sl, wp_it, wp_range1, wp_range2, wp_bYes, gEq_str, gNe_str, gEq_int, gNe_int, gEq_bl, gNe_bl, gIs_bl, gIsNot_bl, gAdd_int, gSub_int, gC_int, gI_int, gAdd_str, gAdd_tup, gAdd_lst, gNeg_int, gIx_tup, gIx_lst, gLen_tup, gLen_lst, gLen_str, gInt_int, gInt_bl, gTuple_lst, gTuple_tup, gList_lst, gList_tup, gSl_tup, gSl_lst, gSl_fl, gSl_str, srcL_tup, srcL_lst, srcL_fl, srcL_str, srcR1_int, typN, startR, List.map_cons, List.map_nil, List.length_cons, List.length_nil, Nat.reduceAdd, Nat.reduceSub, Nat.zero_add, Nat.sub_self, Nat.sub_zero, List.replicate_zero, List.replicate_succ, List.cons_append, List.nil_append, List.append_nil, List.getElem?_cons_zero, List.getElem?_cons_succ, List.set_cons_zero, List.set_cons_succ, List.set_nil, List.getElem?_nil, Option.some.injEq, exists_eq_left', exists_eq_left, exists_eq_right, reduceCtorEq, false_and, and_false, true_and, and_true, exists_false, exists_const, wipeR, Nat.zero_le, String.reduceEq, D.int.injEq, D.str.injEq, D.bl.injEq, atI_0, atI_1, atI_2, atI_3, atI_4, beq_self_eq_true, not_true_eq_false, not_false_eq_true, Int.cast_ofNat_Int, Int.reduceEq, Int.reduceLE, Int.reduceLT, Int.reduceAdd, Int.reduceSub, Int.reduceMul, Int.reduceNeg, if_true, if_false, ite_true, ite_false, Bool.false_eq_true, if_neg, if_pos, decide_eq_true_eq, Bool.not_eq_true', decide_eq_false_iff_not, eq_self_iff_true, decide_true, decide_false, Bool.not_true, Bool.not_false]
  exact ht _ _ _ _ (by omega) hS ((fin_bl hS).mpr hF)
theorem ov_wrap {a : D} (ha : plain a = true) (hb : regB many a = false) : OV 4 fu (.tup [.str "wrap", a]) many false := by
  intro n S F E hN hS hF
  obtain ⟨m, rfl⟩ : ∃ m, n = m + 1 := ⟨n - 1, by omega⟩
  rw [den_op]
  have cut : cutD [D.str (Str.ofString "wrap"), a] (some 1) none = [a] := rfl
  simp only [b_is_op, isiN_tt, isiN_ss, fin_bl hS, ofString_inj, cut, wp_ok, wp_ret, wp_stuck, wp_bad, wp_bnd, wp_if, wp_fif, wps_ok_nx, wps_ok_rt, wps_ok_bk, wps_ok_ct, wps_ok_xc, wps_bad, wps_lft, wps_seq, wps_nil, wps_ret, wps_expr, wps_asg, wps_if, wp_run, wps_for, wps_while, wp_comp, wp_var, wp_C, wp_bin, wp_un, wp_T, wp_Tb, wp_asBl, wp_truthBl, wp_bAnd, wp_bOr, wp_bNot, wp_eIf, wp_eAnd, wp_eOr, wp_eNot, blCase_bl, wp_chain, wp_aNil, wp_aCons, wp_tup, wp_lst, wp_lstM, wp_call, wp_cl1, wp_cl2, wp_cl3, wp_cl4, wp_cl5, wp_meth, wp_isi, wp_oNone, wp_oSome, wp_sl, wp_it, wp_range1, wp_range2, wp_bYes, gEq_str, gNe_str, gEq_int, gNe_int, gEq_bl, gNe_bl, gIs_bl, gIsNot_bl, gAdd_int, gSub_int, gC_int, gI_int, gAdd_str, gAdd_tup, gAdd_lst, gNeg_int, gIx_tup, gIx_lst, gLen_tup, gLen_lst, gLen_str, gInt_int, gInt_bl, gTuple_lst, gTuple_tup, gList_lst, gList_tup, gSl_tup, gSl_lst, gSl_fl, gSl_str, srcL_tup, srcL_lst, srcL_fl, srcL_str, srcR1_int, typN, startR, List.map_cons, List.map_nil, List.length_cons, List.length_nil, Nat.reduceAdd, Nat.reduceSub, Nat.zero_add, Nat.sub_self, Nat.sub_zero, List.replicate_zero, List.replicate_succ, List.cons_append, List.nil_append, List.append_nil, List.getElem?_cons_zero, List.getElem?_cons_succ, List.set_cons_zero, List.set_cons_succ, List.set_nil, List.getElem?_nil, Option.some.injEq, exists_eq_left', exists_eq_left, exists_eq_right, reduceCtorEq, false_and, and_false, true_and, and_true, exists_false, exists_const, wipeR, Nat.zero_le, String.reduceEq, D.int.injEq, D.str.injEq, D.bl.injEq, atI_0, atI_1, atI_2, atI_3, atI_4, beq_self_eq_true, not_true_eq_false, not_false_eq_true, Int.cast_ofNat_Int, Int.reduceEq, Int.reduceLE, Int.reduceLT, Int.reduceAdd, Int.reduceSub, Int.reduceMul, Int.reduceNeg, if_true, if_false, ite_true, ite_false, Bool.false_eq_true, if_neg, if_pos, decide_eq_true_eq, Bool.not_eq_true', decide_eq_false_iff_not, eq_self_iff_true, decide_true, decide_false, Bool.not_true, Bool.not_false]
  refine regs_ok (by omega) rfl (fun ds h => by cases h; exact ⟨by simp, fun d hd => by simp only [List.mem_singleton] at hd; rw [hd]; exact ha⟩) hS ?_
  have : regsB many (.tup [a]) = false := by simp [regsB, hb]
  rw [this]; exact (fin_bl hS).mpr hF
theorem ov_pair {w : Str} {a b : D} (hw : w ∈ pairs) (ha : plain a = true) (hb : plain b = true) (hr : (regB many a && regB many b) = false) : OV 4 fu (.tup [.str w, a, b]) many false := by
  intro n S F E hN hS hF
  obtain ⟨m, rfl⟩ : ∃ m, n = m + 1 := ⟨n - 1, by omega⟩
  rw [den_op]
  have n1 : ¬ w = Str.ofString "push" := fun e => by subst e; revert hw; decide +kernel
  have n2 : ¬ w = Str.ofString "wrap" := fun e => by subst e; revert hw; decide +kernel
  have cut : cutD [D.str w, a, b] (some 1) none = [a, b] := rfl
  simp only [b_is_op, isiN_tt, isiN_ss, fin_bl hS, n1, n2, k_PAIRS_eq, gIn_pairs, hw, cut, wp_ok, wp_ret, wp_stuck, wp_bad, wp_bnd, wp_if, wp_fif, wps_ok_nx, wps_ok_rt, wps_ok_bk, wps_ok_ct, wps_ok_xc, wps_bad, wps_lft, wps_seq, wps_nil, wps_ret, wps_expr, wps_asg, wps_if, wp_run, wps_for, wps_while, wp_comp, wp_var, wp_C, wp_bin, wp_un, wp_T, wp_Tb, wp_asBl, wp_truthBl, wp_bAnd, wp_bOr, wp_bNot, wp_eIf, wp_eAnd, wp_eOr, wp_eNot, blCase_bl, wp_chain, wp_aNil, wp_aCons, wp_tup, wp_lst, wp_lstM, wp_call, wp_cl1, wp_cl2, wp_cl3, wp_cl4, wp_cl5, wp_meth, wp_isi, wp_oNone, wp_oSome, wp_sl, wp_it, wp_range1, wp_range2, wp_bYes, gEq_str, gNe_str, gEq_int, gNe_int, gEq_bl, gNe_bl, gIs_bl, gIsNot_bl, gAdd_int, gSub_int, gC_int, gI_int, gAdd_str, gAdd_tup, gAdd_lst, gNeg_int, gIx_tup, gIx_lst, gLen_tup, gLen_lst, gLen_str, gInt_int, gInt_bl, gTuple_lst, gTuple_tup, gList_lst, gList_tup, gSl_tup, gSl_lst, gSl_fl, gSl_str, srcL_tup, srcL_lst, srcL_fl, srcL_str, srcR1_int, typN, startR, List.map_cons, List.map_nil, List.length_cons, List.length_nil, Nat.reduceAdd, Nat.reduceSub, Nat.zero_add, Nat.sub_self, Nat.sub_zero, List.replicate_zero, List.replicate_succ, List.cons_append, List.nil_append, List.append_nil, List.getElem?_cons_zero, List.getElem?_cons_succ, List.set_cons_zero, List.set_cons_succ, List.set_nil, List.getElem?_nil, Option.some.injEq, exists_eq_left', exists_eq_left, exists_eq_right, reduceCtorEq, false_and, and_false, true_and, and_true, exists_false, exists_const, wipeR, Nat.zero_le, String.reduceEq, D.int.injEq, D.str.injEq, D.bl.injEq, atI_0, atI_1, atI_2, atI_3, atI_4, beq_self_eq_true, not_true_eq_false, not_false_eq_true, Int.cast_ofNat_Int, Int.reduceEq, Int.reduceLE, Int.reduceLT, Int.reduceAdd, Int.reduceSub, Int.reduceMul, Int.reduceNeg, if_true, if_false, ite_true, ite_false, Bool.false_eq_true, if_neg, if_pos, decide_eq_true_eq, Bool.not_eq_true', decide_eq_false_iff_not, eq_self_iff_true, decide_true, decide_false, Bool.not_true, Bool.not_false]
  refine regs_ok (by omega) rfl (fun ds h => by cases h; exact ⟨by simp, fun d hd => by simp only [List.mem_cons, List.not_mem_nil, or_false] at hd; rcases hd with rfl | rfl <;> assumption⟩) hS ?_
  have : regsB many (.tup [a, b]) = false := by simp [regsB] at hr ⊢; exact hr
  rw [this]; exact (fin_bl hS).mpr hF
theorem ov_if {one args side other : D} {b1 b2 : Bool} {M : Nat} (h1p : plain one = true) (h2p : plain args = true) (h2q : ∀ ds, args = .tup ds → ds.length ≤ 1000 ∧ ∀ d ∈ ds, plain d = true) (hc1 : CV M fu side b1) (hc2 : CV M fu other b2)
    (sh1 : regB many one = true → regsB many args = true → b1 = true → b2 = true → ∃ t1 o1 u1 t2 o2 u2 as, side = .tup [.int t1, .tup o1, .tup u1] ∧ other = .tup [.int t2, .tup o2, .tup u2] ∧ args = .tup as ∧ (decide (t1 = as.length) && decide (t2 = as.length) && decide (u1.length = u2.length)) = false) :
    OV (M + 4) fu (.tup [.str "if", one, args, side, other]) many false := by
  intro n S F E hN hS hF
  obtain ⟨m, rfl⟩ : ∃ m, n = m + 1 := ⟨n - 1, by omega⟩
  rw [den_op]
  simp only [b_is_op, isiN_tt, isiN_ss, fin_bl hS, ofString_inj, k_PAIRS_eq, gIn_pairs, nopairs (.inr (.inr (.inr rfl))), wp_ok, wp_ret, wp_stuck, wp_bad, wp_bnd, wp_if, wp_fif, wps_ok_nx, wps_ok_rt, wps_ok_bk, wps_ok_ct, wps_ok_xc, wps_bad, wps_lft, wps_seq, wps_nil, wps_ret, wps_expr, wps_asg, wps_if, wp_run, wps_for, wps_while, wp_comp, wp_var, wp_C, wp_bin, wp_un, wp_T, wp_Tb, wp_asBl, wp_truthBl, wp_bAnd, wp_bOr, wp_bNot, wp_eIf, wp_eAnd, wp_eOr, wp_eNot, blCase_bl, wp_chain, wp_aNil, wp_aCons, wp_tup, wp_lst, wp_lstM, wp_call, wp_cl1, wp_cl2, wp_cl3, wp_cl4, wp_cl5, wp_meth, wp_isi, wp_oNone, wp_oSome, wp_sl, wp_it, wp_range1, wp_range2, wp_bYes, gEq_str, gNe_str, gEq_int, gNe_int, gEq_bl, gNe_bl, gIs_bl, gIsNot_bl, gAdd_int, gSub_int, gC_int, gI_int, gAdd_str, gAdd_tup, gAdd_lst, gNeg_int, gIx_tup, gIx_lst, gLen_tup, gLen_lst, gLen_str, gInt_int, gInt_bl, gTuple_lst, gTuple_tup, gList_lst, gList_tup, gSl_tup, gSl_lst, gSl_fl, gSl_str, srcL_tup, srcL_lst, srcL_fl, srcL_str, srcR1_int, typN, startR, List.map_cons, List.map_nil, List.length_cons, List.length_nil, Nat.reduceAdd, Nat.reduceSub, Nat.zero_add, Nat.sub_self, Nat.sub_zero, List.replicate_zero, List.replicate_succ, List.cons_append, List.nil_append, List.append_nil, List.getElem?_cons_zero, List.getElem?_cons_succ, List.set_cons_zero, List.set_cons_succ, List.set_nil, List.getElem?_nil, Option.some.injEq, exists_eq_left', exists_eq_left, exists_eq_right, reduceCtorEq, false_and, and_false, true_and, and_true, exists_false, exists_const, wipeR, Nat.zero_le, String.reduceEq, D.int.injEq, D.str.injEq, D.bl.injEq, atI_0, atI_1, atI_2, atI_3, atI_4, beq_self_eq_true, not_true_eq_false, not_false_eq_true, Int.cast_ofNat_Int, Int.reduceEq, Int.reduceLE, Int.reduceLT, Int.reduceAdd, Int.reduceSub, Int.reduceMul, Int.reduceNeg, if_true, if_false, ite_true, ite_false, Bool.false_eq_true, if_neg, if_pos, decide_eq_true_eq, Bool.not_eq_true', decide_eq_false_iff_not, eq_self_iff_true, decide_true, decide_false, Bool.not_true, Bool.not_false]
  refine choice_ok (b1 := b1) (b2 := b2) (M := M) (by omega) h1p h2p h2q hc1 hc2 hS (fun p q r s => ?_) (fun _ => (fin_bl hS).mpr hF)
  obtain ⟨t1, o1, u1, t2, o2, u2, as, e1, e2, e3, hh⟩ := sh1 p q r s
  exact ⟨t1, o1, u1, t2, o2, u2, as, e1, e2, e3, by rw [hh]; exact (fin_bl hS).mpr hF⟩
/-! codes turned bad, or otherwise -/
theorem cv_plus {j t : Nat} {ops outs : List D} {e : Nat} (ho : OpsG (CodeG j) t ops e) (hl : ops.length ≤ 7) (hw : outs.length ≤ 5) (hr : ∀ o ∈ outs, Reg e o) : CV (13 * (j + 1)) fu (.tup [.int ((t : Int) + 1), .tup ops, .tup outs]) true := fun n S F E hN hS hF => by
  refine code_eval (k := j) (M := 13 * j) (takes := t + 1) (e := e + 1) (fun t w c => code_ok j t w c) (by omega) (by omega) (ho.mono 1) rfl (fun ds h => by cases h; exact ⟨by omega, fun d hd => (hr d hd).plain⟩) hS ?_
  have : regsB ((e + 1 : Nat) : Int) (.tup outs) = true := by
    simp only [regsB, List.all_eq_true]; exact fun o h => ((hr o h).mono (Nat.le_succ e)).b
  rw [this]; exact hF
theorem cv_outs {j t : Nat} {ops outs : List D} {e : Nat} {b : Bool} (ho : OpsG (CodeG j) t ops e) (hl : ops.length ≤ 7) (hw : outs.length ≤ 6) (hp : ∀ o ∈ outs, plain o = true) (hb : outs.all (regB e) = b) : CV (13 * (j + 1)) fu (.tup [.int t, .tup ops, .tup outs]) b := fun n S F E hN hS hF => by
  refine code_eval (k := j) (M := 13 * j) (takes := t) (e := e) (fun t w c => code_ok j t w c) (by omega) (by omega) ho rfl (fun ds h => by cases h; exact ⟨by omega, hp⟩) hS ?_
  have : regsB (e : Int) (.tup outs) = b := hb
  rw [this]; exact hF
theorem cv_wrap {j t : Nat} {ops : List D} {x : D} {e : Nat} (ho : OpsG (CodeG j) t ops e) (hl : ops.length ≤ 7) (ht : t ≤ 4) : CV (13 * (j + 1)) fu (.tup [.int t, .tup (ops ++ [.tup [.str "wrap", .int 99]]), x]) false := fun n S F E hN hS hF => by
  have hle := ho.le
  have : regB (e : Int) (.int 99) = false := by simp [regB]; omega
  refine code_badop (k := j) (M := 13 * j) (takes := t) (e := e) (fun t w c => code_ok j t w c) (by omega) (by simp; omega) ho ((ov_wrap rfl this).mono (by omega)) hS hF
theorem cv_non : CV 1 fu .non false := fun n S F E hN hS hF => code_notup hN hS rfl (fun _ h => by cases h) hF
end K63

namespace K63
open PySem L2 DL
variable {fu n k : Nat} {S S0 : Sto} {F : D → Sto → Prop} {E : Exc → Sto → Prop}
theorem comp1 {all ds : List D} {d : D} {i : Nat} {el : EvD} {ρ : Rho} {FF : List D → Sto → Prop} : wp (compM none all (gN i) bYes el ρ (d :: ds) S) FF nx ↔ wp (el (ρ.set i (some d)) S) (fun y S1 => wp (compM none all (gN i) bYes el ρ ds S1) (fun ys S2 => FF (y :: ys) S2) nx) nx := by
  have e : compM none all (gN i) bYes el ρ (d :: ds) S = bnd (bYes (ρ.set i (some d))) (fun b => if b = true then bnd (el (ρ.set i (some d))) (fun y => bnd (compM none all (gN i) bYes el ρ ds) fun ys => ret (y :: ys)) else compM none all (gN i) bYes el ρ ds) S := by
    conv => lhs; unfold compM
    rw [if_pos (show liveOk none all S from trivial)]; rfl
  rw [e]
  simp only [wp_ok, wp_ret, wp_stuck, wp_bad, wp_bnd, wp_if, wp_fif, wps_ok_nx, wps_ok_rt, wps_ok_bk, wps_ok_ct, wps_ok_xc, wps_bad, wps_lft, wps_seq, wps_nil, wps_ret, wps_expr, wps_asg, wps_if, wp_run, wps_for, wps_while, wp_comp, wp_var, wp_C, wp_bin, wp_un, wp_T, wp_Tb, wp_asBl, wp_truthBl, wp_bAnd, wp_bOr, wp_bNot, wp_eIf, wp_eAnd, wp_eOr, wp_eNot, blCase_bl, wp_chain, wp_aNil, wp_aCons, wp_tup, wp_lst, wp_lstM, wp_call, wp_cl1, wp_cl2, wp_cl3, wp_cl4, wp_cl5, wp_meth, wp_isi, wp_oNone, wp_oSome, wp_sl, wp_it, wp_range1, wp_range2, wp_bYes, gEq_str, gNe_str, gEq_int, gNe_int, gEq_bl, gNe_bl, gIs_bl, gIsNot_bl, gAdd_int, gSub_int, gC_int, gI_int, gAdd_str, gAdd_tup, gAdd_lst, gNeg_int, gIx_tup, gIx_lst, gLen_tup, gLen_lst, gLen_str, gInt_int, gInt_bl, gTuple_lst, gTuple_tup, gList_lst, gList_tup, gSl_tup, gSl_lst, gSl_fl, gSl_str, srcL_tup, srcL_lst, srcL_fl, srcL_str, srcR1_int, typN, startR, List.map_cons, List.map_nil, List.length_cons, List.length_nil, Nat.reduceAdd, Nat.reduceSub, Nat.zero_add, Nat.sub_self, Nat.sub_zero, List.replicate_zero, List.replicate_succ, List.cons_append, List.nil_append, List.append_nil, List.getElem?_cons_zero, List.getElem?_cons_succ, List.set_cons_zero, List.set_cons_succ, List.set_nil, List.getElem?_nil, Option.some.injEq, exists_eq_left', exists_eq_left, exists_eq_right, reduceCtorEq, false_and, and_false, true_and, and_true, exists_false, exists_const, wipeR, Nat.zero_le, String.reduceEq, D.int.injEq, D.str.injEq, D.bl.injEq, atI_0, atI_1, atI_2, atI_3, atI_4, beq_self_eq_true, not_true_eq_false, not_false_eq_true, Int.cast_ofNat_Int, Int.reduceEq, Int.reduceLE, Int.reduceLT, Int.reduceAdd, Int.reduceSub, Int.reduceMul, Int.reduceNeg, if_true, if_false, ite_true, ite_false, Bool.false_eq_true, if_neg, if_pos, decide_eq_true_eq, Bool.not_eq_true', decide_eq_false_iff_not, eq_self_iff_true, decide_true, decide_false, Bool.not_true, Bool.not_false]
theorem comp0 {all : List D} {i : Nat} {el : EvD} {ρ : Rho} {FF : List D → Sto → Prop} : wp (compM none all (gN i) bYes el ρ [] S) FF nx ↔ FF [] S := by
  have e : compM none all (gN i) bYes el ρ [] S = .ok [] S := by
    unfold compM
    rw [if_pos (show liveOk none all S from trivial)]
  rw [e]; exact Iff.rfl
theorem comp2 {a b : D} {i : Nat} {el : EvD} {ρ : Rho} {FF : List D → Sto → Prop} : wp (compM none [a, b] (gN i) bYes el ρ [a, b] S) FF nx ↔ wp (el (ρ.set i (some a)) S) (fun y S1 => wp (el (ρ.set i (some b)) S1) (fun z S2 => FF [y, z] S2) nx) nx := by
  rw [comp1]
  simp only [comp1, comp0]
theorem los_app {m : Nat} (a b : List D) : D.los m (a ++ b) = (D.los m a && D.los m b) := by
  induction a with
  | nil => simp [D.los]
  | cons x a ih => simp [D.los, ih, Bool.and_assoc]
theorem sl {n : Nat} (h : n ≤ 100) : n ≤ sizeLine := small_line (by omega)
theorem cut2a {a b : D} : cutD [a, b] none (some (-1)) = [a] := rfl
theorem cut2b {a b : D} : cutD [a, b] (some 1) none = [b] := rfl
theorem cut2c {a b : D} : cutD [a, b] none (some 1) = [a] := rfl
theorem cut2d {a b : D} : cutD [a, b] (some 2) none = [] := rfl
theorem cut3a {a b c : D} : cutD [a, b, c] none (some (-1)) = [a, b] := rfl
theorem cut3b {a b c : D} : cutD [a, b, c] (some 1) none = [b, c] := rfl
theorem cut3c {a b c : D} : cutD [a, b, c] none (some 2) = [a, b] := rfl
theorem cut3d {a b c : D} : cutD [a, b, c] none (some 1) = [a] := rfl
theorem cut3e {a b c : D} : cutD [a, b, c] (some 2) none = [c] := rfl
theorem cut3f {a b c : D} : cutD [a, b, c] (some 3) none = [] := rfl
theorem cut5a {a b c d e : D} : cutD [a, b, c, d, e] none (some (-1)) = [a, b, c, d] := rfl
theorem cut5b {a b c d e : D} : cutD [a, b, c, d, e] (some 1) none = [b, c, d, e] := rfl
theorem gNs_cons {i : Nat} {t : TgL} {d : D} {ds : List D} {ρ : Rho} : gNs i t (d :: ds) ρ = t ds (ρ.set i (some d)) := rfl
theorem gN0_nil {ρ : Rho} : gN0 [] ρ = some ρ := rfl
theorem gTp_tup {m : Nat} {t : TgL} {ds : List D} {ρ : Rho} (h : ds.length = m) : gTp m t (.tup ds) ρ = t ds ρ := by unfold gTp; simp only [h, if_true]
theorem wps_asgT {tgt : D → Rho → Option Rho} {e : EvD} {ρ : Rho} {N B C : Rho → Sto → Prop} {T : D → Sto → Prop} {X : Exc → Rho → Sto → Prop} : wps (sAsg tgt e ρ S) N T B C X ↔ wp (e ρ S) (fun d S' => ∃ ρ', tgt d ρ = some ρ' ∧ N ρ' S') (fun e S' => X e ρ S') := by
  unfold sAsg; rw [wps_lft]
  constructor <;> intro h <;> refine wp_mono h (fun d S' h => ?_) (fun _ _ h => h)
  · cases e : tgt d ρ with
    | some ρ' => simp only [e] at h; exact ⟨ρ', rfl, h⟩
    | none => simp only [e] at h; exact h.elim
  · obtain ⟨ρ', e, h⟩ := h
    simp only [e]; exact h
theorem wps_asgTp {m : Nat} {t : TgL} {e : EvD} {ρ : Rho} {N B C : Rho → Sto → Prop} {T : D → Sto → Prop} {X : Exc → Rho → Sto → Prop} : wps (sAsg (gTp m t) e ρ S) N T B C X ↔ wp (e ρ S) (fun d S' => ∃ ρ', gTp m t d ρ = some ρ' ∧ N ρ' S') (fun e S' => X e ρ S') := wps_asgT
theorem gTp5 {t : TgL} {a b c d e : D} {ρ : Rho} : gTp 5 t (.tup [a, b, c, d, e]) ρ = t [a, b, c, d, e] ρ := rfl
theorem gTp3 {t : TgL} {a b c : D} {ρ : Rho} : gTp 3 t (.tup [a, b, c]) ρ = t [a, b, c] ρ := rfl
/-- one of a list, whichever -/
theorem pick {L : List D} {v : Int} (h0 : 0 ≤ v) (h1 : v < (L.length : Int)) (P : D → Prop) (hP : ∀ r ∈ L, P r) (hF : ∀ r, P r → F r S) : wp (gIx (.lst L) (.int v) S) F E := by
  rw [gIx_lst]
  obtain ⟨d, hd, e⟩ := atI_mem h0 h1
  exact ⟨d, e, hF d (hP d hd)⟩
def Odd (many : Nat) (r : D) : Prop := tr r ∧ plain r = true ∧ regB many r = false
def Bad (M fu many : Nat) (r : D) : Prop := tr r ∧ OV M fu r many false
theorem odd_ok {many : Nat} {v : Int} (hv : 0 ≤ v) : ∀ r ∈ [D.int (many : Nat), .int ((many : Nat) + v), .int (-1), .bl true, .non, .str "0", .tup [.int 0]], Odd many r := by
  intro r hr
  simp only [List.mem_cons, List.not_mem_nil, or_false] at hr
  rcases hr with rfl | rfl | rfl | rfl | rfl | rfl | rfl
  · exact ⟨rfl, rfl, by simp [regB]⟩
  · exact ⟨rfl, rfl, by simp [regB]; omega⟩
  · exact ⟨rfl, rfl, by simp [regB]⟩
  all_goals exact ⟨rfl, rfl, rfl⟩
theorem badop_ok {deep many made : Nat} {op : D} {N : Nat} (hN : 3 ≤ N) (hm : many ≤ 100) (ho : OpG (CodeG deep) many made op) (h : DK k S0 S) (hF : ∀ r S', Bad (13 * deep + 12) fu many r → DK k S0 S' → F r S') : wp (den fu N i_l_bad_op [.ref k, op, .int many] S) F E := by
  obtain ⟨N', rfl⟩ : ∃ N', N = N' + 1 := ⟨N - 1, by omega⟩
  show wp (runDef false 15 (b_l_bad_op fu (den fu N')) _ _) _ _
  have fin : ∀ r S', Bad (13 * deep + 12) fu many r → DK k S0 S' → wp (finD false S.length r S') F E := fun r S' hr hd => fin_same hd.wf' hr.1 (by rw [hd.len, h.len]) (hF r S' hr hd)
  rcases ho with ⟨rfl, t, rfl, ht⟩ | ⟨rfl, a, rfl, ha⟩ | ⟨rfl, w, a, b, rfl, hw, ha, hb⟩ | ⟨one, args, side, other, rfl, ho, ha, hl, _, h1, h2⟩
  · simp only [b_l_bad_op, sl, Nat.reduceLeDiff, cut2a, cut2b, ofString_inj, cPow, wp_ok, wp_ret, wp_stuck, wp_bad, wp_bnd, wp_if, wp_fif, wps_ok_nx, wps_ok_rt, wps_ok_bk, wps_ok_ct, wps_ok_xc, wps_bad, wps_lft, wps_seq, wps_nil, wps_ret, wps_expr, wps_asg, wps_if, wp_run, wps_for, wps_while, wp_comp, wp_var, wp_C, wp_bin, wp_un, wp_T, wp_Tb, wp_asBl, wp_truthBl, wp_bAnd, wp_bOr, wp_bNot, wp_eIf, wp_eAnd, wp_eOr, wp_eNot, blCase_bl, wp_chain, wp_aNil, wp_aCons, wp_tup, wp_lst, wp_lstM, wp_call, wp_cl1, wp_cl2, wp_cl3, wp_cl4, wp_cl5, wp_meth, wp_isi, wp_oNone, wp_oSome, wp_sl, wp_it, wp_range1, wp_range2, wp_bYes, gEq_str, gNe_str, gEq_int, gNe_int, gEq_bl, gNe_bl, gIs_bl, gIsNot_bl, gAdd_int, gSub_int, gC_int, gI_int, gAdd_str, gAdd_tup, gAdd_lst, gNeg_int, gIx_tup, gIx_lst, gLen_tup, gLen_lst, gLen_str, gInt_int, gInt_bl, gTuple_lst, gTuple_tup, gList_lst, gList_tup, gSl_tup, gSl_lst, gSl_fl, gSl_str, srcL_tup, srcL_lst, srcL_fl, srcL_str, srcR1_int, typN, startR, List.map_cons, List.map_nil, List.length_cons, List.length_nil, Nat.reduceAdd, Nat.reduceSub, Nat.zero_add, Nat.sub_self, Nat.sub_zero, List.replicate_zero, List.replicate_succ, List.cons_append, List.nil_append, List.append_nil, List.getElem?_cons_zero, List.getElem?_cons_succ, List.set_cons_zero, List.set_cons_succ, List.set_nil, List.getElem?_nil, Option.some.injEq, exists_eq_left', exists_eq_left, exists_eq_right, reduceCtorEq, false_and, and_false, true_and, and_true, exists_false, exists_const, wipeR, Nat.zero_le, String.reduceEq, D.int.injEq, D.str.injEq, D.bl.injEq, atI_0, atI_1, atI_2, atI_3, atI_4, beq_self_eq_true, not_true_eq_false, not_false_eq_true, Int.cast_ofNat_Int, Int.reduceEq, Int.reduceLE, Int.reduceLT, Int.reduceAdd, Int.reduceSub, Int.reduceMul, Int.reduceNeg, if_true, if_false, ite_true, ite_false, Bool.false_eq_true, if_neg, if_pos, decide_eq_true_eq, Bool.not_eq_true', decide_eq_false_iff_not, eq_self_iff_true, decide_true, decide_false, Bool.not_true, Bool.not_false]
    refine draw_ok (by omega) h (by decide) (by decide) fun v S1 hv0 hv1 d1 => ?_
    refine draw_ok (by omega) d1 (by decide) (by decide) fun v2 S2 hw0 hw1 d2 => ?_
    refine pick hw0 hw1 (Odd many) (odd_ok hv0) fun odd hodd => ?_
    have htt : t.lo 0 = true := ht.tr
    refine ⟨by decide, draw_ok (by omega) d2 (by decide) (by decide) fun v3 S3 z0 z1 d3 => pick z0 z1 (Bad _ fu many) (fun r hr => ?_) fun r hr => fin r S3 hr d3⟩
    simp only [List.mem_cons, List.not_mem_nil, or_false] at hr
    have tr1 : ∀ a b, a.lo 0 = true → b.lo 0 = true → tr (.tup [a, b]) := fun a b ha hb => by simp [DL.tr, D.lo, D.los, ha, hb]
    rcases hr with rfl | rfl | rfl | rfl | rfl | rfl | rfl | rfl | rfl | rfl | rfl | rfl
    · exact ⟨by simp [DL.tr, D.lo, D.los, htt], (ov_flat rfl (fun _ h => by cases h)).mono (by omega)⟩
    · exact ⟨by simp [DL.tr, D.lo, D.los, htt], ov_push3.mono (by omega)⟩
    · exact ⟨by simp [DL.tr, D.lo, D.los, htt], ov_one.mono (by omega)⟩
    · exact ⟨by simp [DL.tr, D.lo, D.los, htt], ov_pushes.mono (by omega)⟩
    · exact ⟨by simp [DL.tr, D.lo, D.los, htt], ov_none.mono (by omega)⟩
    · exact ⟨rfl, ov_nil.mono (by omega)⟩
    · exact ⟨rfl, (ov_flat rfl (fun _ h => by cases h)).mono (by omega)⟩
    · exact ⟨rfl, (ov_flat rfl (fun _ h => by cases h)).mono (by omega)⟩
    · exact ⟨rfl, (ov_thing (tv_number (by decide))).mono (by omega)⟩
    · exact ⟨rfl, (ov_thing (tv_number (by decide))).mono (by omega)⟩
    · exact ⟨rfl, (ov_thing tv_int).mono (by omega)⟩
    · exact ⟨rfl, (ov_thing tv_row).mono (by omega)⟩
  · simp only [b_l_bad_op, sl, Nat.reduceLeDiff, cut2a, cut2b, ofString_inj, cPow, wp_ok, wp_ret, wp_stuck, wp_bad, wp_bnd, wp_if, wp_fif, wps_ok_nx, wps_ok_rt, wps_ok_bk, wps_ok_ct, wps_ok_xc, wps_bad, wps_lft, wps_seq, wps_nil, wps_ret, wps_expr, wps_asg, wps_if, wp_run, wps_for, wps_while, wp_comp, wp_var, wp_C, wp_bin, wp_un, wp_T, wp_Tb, wp_asBl, wp_truthBl, wp_bAnd, wp_bOr, wp_bNot, wp_eIf, wp_eAnd, wp_eOr, wp_eNot, blCase_bl, wp_chain, wp_aNil, wp_aCons, wp_tup, wp_lst, wp_lstM, wp_call, wp_cl1, wp_cl2, wp_cl3, wp_cl4, wp_cl5, wp_meth, wp_isi, wp_oNone, wp_oSome, wp_sl, wp_it, wp_range1, wp_range2, wp_bYes, gEq_str, gNe_str, gEq_int, gNe_int, gEq_bl, gNe_bl, gIs_bl, gIsNot_bl, gAdd_int, gSub_int, gC_int, gI_int, gAdd_str, gAdd_tup, gAdd_lst, gNeg_int, gIx_tup, gIx_lst, gLen_tup, gLen_lst, gLen_str, gInt_int, gInt_bl, gTuple_lst, gTuple_tup, gList_lst, gList_tup, gSl_tup, gSl_lst, gSl_fl, gSl_str, srcL_tup, srcL_lst, srcL_fl, srcL_str, srcR1_int, typN, startR, List.map_cons, List.map_nil, List.length_cons, List.length_nil, Nat.reduceAdd, Nat.reduceSub, Nat.zero_add, Nat.sub_self, Nat.sub_zero, List.replicate_zero, List.replicate_succ, List.cons_append, List.nil_append, List.append_nil, List.getElem?_cons_zero, List.getElem?_cons_succ, List.set_cons_zero, List.set_cons_succ, List.set_nil, List.getElem?_nil, Option.some.injEq, exists_eq_left', exists_eq_left, exists_eq_right, reduceCtorEq, false_and, and_false, true_and, and_true, exists_false, exists_const, wipeR, Nat.zero_le, String.reduceEq, D.int.injEq, D.str.injEq, D.bl.injEq, atI_0, atI_1, atI_2, atI_3, atI_4, beq_self_eq_true, not_true_eq_false, not_false_eq_true, Int.cast_ofNat_Int, Int.reduceEq, Int.reduceLE, Int.reduceLT, Int.reduceAdd, Int.reduceSub, Int.reduceMul, Int.reduceNeg, if_true, if_false, ite_true, ite_false, Bool.false_eq_true, if_neg, if_pos, decide_eq_true_eq, Bool.not_eq_true', decide_eq_false_iff_not, eq_self_iff_true, decide_true, decide_false, Bool.not_true, Bool.not_false]
    refine draw_ok (by omega) h (by decide) (by decide) fun v S1 hv0 hv1 d1 => ?_
    refine draw_ok (by omega) d1 (by decide) (by decide) fun v2 S2 hw0 hw1 d2 => ?_
    refine pick hw0 hw1 (Odd many) (odd_ok hv0) fun odd hodd => ?_
    have hat : a.lo 0 = true := ha.tr
    obtain ⟨o1, o2, o3⟩ := hodd
    have o1' : odd.lo 0 = true := o1
    refine draw_ok (by omega) d2 (by decide) (by decide) fun v3 S3 z0 z1 d3 => ?_
    obtain rfl : v3 = 0 := by omega
    simp only [cut2c, cut2d, gMulS_lst4, sl, Nat.reduceLeDiff, wp_ok, wp_ret, wp_stuck, wp_bad, wp_bnd, wp_if, wp_fif, wps_ok_nx, wps_ok_rt, wps_ok_bk, wps_ok_ct, wps_ok_xc, wps_bad, wps_lft, wps_seq, wps_nil, wps_ret, wps_expr, wps_asg, wps_if, wp_run, wps_for, wps_while, wp_comp, wp_var, wp_C, wp_bin, wp_un, wp_T, wp_Tb, wp_asBl, wp_truthBl, wp_bAnd, wp_bOr, wp_bNot, wp_eIf, wp_eAnd, wp_eOr, wp_eNot, blCase_bl, wp_chain, wp_aNil, wp_aCons, wp_tup, wp_lst, wp_lstM, wp_call, wp_cl1, wp_cl2, wp_cl3, wp_cl4, wp_cl5, wp_meth, wp_isi, wp_oNone, wp_oSome, wp_sl, wp_it, wp_range1, wp_range2, wp_bYes, gEq_str, gNe_str, gEq_int, gNe_int, gEq_bl, gNe_bl, gIs_bl, gIsNot_bl, gAdd_int, gSub_int, gC_int, gI_int, gAdd_str, gAdd_tup, gAdd_lst, gNeg_int, gIx_tup, gIx_lst, gLen_tup, gLen_lst, gLen_str, gInt_int, gInt_bl, gTuple_lst, gTuple_tup, gList_lst, gList_tup, gSl_tup, gSl_lst, gSl_fl, gSl_str, srcL_tup, srcL_lst, srcL_fl, srcL_str, srcR1_int, typN, startR, List.map_cons, List.map_nil, List.length_cons, List.length_nil, Nat.reduceAdd, Nat.reduceSub, Nat.zero_add, Nat.sub_self, Nat.sub_zero, List.replicate_zero, List.replicate_succ, List.cons_append, List.nil_append, List.append_nil, List.getElem?_cons_zero, List.getElem?_cons_succ, List.set_cons_zero, List.set_cons_succ, List.set_nil, List.getElem?_nil, Option.some.injEq, exists_eq_left', exists_eq_left, exists_eq_right, reduceCtorEq, false_and, and_false, true_and, and_true, exists_false, exists_const, wipeR, Nat.zero_le, String.reduceEq, D.int.injEq, D.str.injEq, D.bl.injEq, atI_0, atI_1, atI_2, atI_3, atI_4, beq_self_eq_true, not_true_eq_false, not_false_eq_true, Int.cast_ofNat_Int, Int.reduceEq, Int.reduceLE, Int.reduceLT, Int.reduceAdd, Int.reduceSub, Int.reduceMul, Int.reduceNeg, if_true, if_false, ite_true, ite_false, Bool.false_eq_true, if_neg, if_pos, decide_eq_true_eq, Bool.not_eq_true', decide_eq_false_iff_not, eq_self_iff_true, decide_true, decide_false, Bool.not_true, Bool.not_false]
    refine draw_ok (by omega) d3 (by decide) (by decide) fun v4 S4 y0 y1 d4 => pick y0 y1 (Bad _ fu many) (fun r hr => ?_) fun r hr => fin r S4 hr d4
    simp only [List.mem_cons, List.not_mem_nil, or_false] at hr
    have hlast : Bad (13 * deep + 12) fu many (.tup [.str "wrap", odd]) := ⟨by simp [DL.tr, D.lo, D.los, o1'], (ov_wrap o2 o3).mono (by omega)⟩
    rcases hr with rfl | rfl | rfl | rfl | rfl | rfl | rfl | rfl | rfl | rfl | rfl | rfl
    · exact ⟨by simp [DL.tr, D.lo, D.los, hat], (ov_flat rfl (fun _ h => by cases h)).mono (by omega)⟩
    · exact ⟨by simp [DL.tr, D.lo, D.los, hat], ov_wrap3.mono (by omega)⟩
    · exact ⟨by simp [DL.tr, D.lo, D.los, hat], ov_one.mono (by omega)⟩
    · exact ⟨by simp [DL.tr, D.lo, D.los, hat], ov_pushes.mono (by omega)⟩
    · exact ⟨by simp [DL.tr, D.lo, D.los, hat], ov_none.mono (by omega)⟩
    · exact ⟨rfl, ov_nil.mono (by omega)⟩
    · exact ⟨rfl, (ov_flat rfl (fun _ h => by cases h)).mono (by omega)⟩
    · exact ⟨rfl, (ov_flat rfl (fun _ h => by cases h)).mono (by omega)⟩
    all_goals exact hlast
  · have n1 : ¬ w = Str.ofString "push" := fun e => by subst e; revert hw; decide +kernel
    have n2 : ¬ w = Str.ofString "if" := fun e => by subst e; revert hw; decide +kernel
    simp only [b_l_bad_op, sl, Nat.reduceLeDiff, cut3a, cut3b, n1, n2, cPow, wp_ok, wp_ret, wp_stuck, wp_bad, wp_bnd, wp_if, wp_fif, wps_ok_nx, wps_ok_rt, wps_ok_bk, wps_ok_ct, wps_ok_xc, wps_bad, wps_lft, wps_seq, wps_nil, wps_ret, wps_expr, wps_asg, wps_if, wp_run, wps_for, wps_while, wp_comp, wp_var, wp_C, wp_bin, wp_un, wp_T, wp_Tb, wp_asBl, wp_truthBl, wp_bAnd, wp_bOr, wp_bNot, wp_eIf, wp_eAnd, wp_eOr, wp_eNot, blCase_bl, wp_chain, wp_aNil, wp_aCons, wp_tup, wp_lst, wp_lstM, wp_call, wp_cl1, wp_cl2, wp_cl3, wp_cl4, wp_cl5, wp_meth, wp_isi, wp_oNone, wp_oSome, wp_sl, wp_it, wp_range1, wp_range2, wp_bYes, gEq_str, gNe_str, gEq_int, gNe_int, gEq_bl, gNe_bl, gIs_bl, gIsNot_bl, gAdd_int, gSub_int, gC_int, gI_int, gAdd_str, gAdd_tup, gAdd_lst, gNeg_int, gIx_tup, gIx_lst, gLen_tup, gLen_lst, gLen_str, gInt_int, gInt_bl, gTuple_lst, gTuple_tup, gList_lst, gList_tup, gSl_tup, gSl_lst, gSl_fl, gSl_str, srcL_tup, srcL_lst, srcL_fl, srcL_str, srcR1_int, typN, startR, List.map_cons, List.map_nil, List.length_cons, List.length_nil, Nat.reduceAdd, Nat.reduceSub, Nat.zero_add, Nat.sub_self, Nat.sub_zero, List.replicate_zero, List.replicate_succ, List.cons_append, List.nil_append, List.append_nil, List.getElem?_cons_zero, List.getElem?_cons_succ, List.set_cons_zero, List.set_cons_succ, List.set_nil, List.getElem?_nil, Option.some.injEq, exists_eq_left', exists_eq_left, exists_eq_right, reduceCtorEq, false_and, and_false, true_and, and_true, exists_false, exists_const, wipeR, Nat.zero_le, String.reduceEq, D.int.injEq, D.str.injEq, D.bl.injEq, atI_0, atI_1, atI_2, atI_3, atI_4, beq_self_eq_true, not_true_eq_false, not_false_eq_true, Int.cast_ofNat_Int, Int.reduceEq, Int.reduceLE, Int.reduceLT, Int.reduceAdd, Int.reduceSub, Int.reduceMul, Int.reduceNeg, if_true, if_false, ite_true, ite_false, Bool.false_eq_true, if_neg, if_pos, decide_eq_true_eq, Bool.not_eq_true', decide_eq_false_iff_not, eq_self_iff_true, decide_true, decide_false, Bool.not_true, Bool.not_false]
    refine draw_ok (by omega) h (by decide) (by decide) fun v S1 hv0 hv1 d1 => ?_
    refine draw_ok (by omega) d1 (by decide) (by decide) fun v2 S2 hw0 hw1 d2 => ?_
    refine pick hw0 hw1 (Odd many) (odd_ok hv0) fun odd hodd => ?_
    have hat : a.lo 0 = true := ha.tr
    have hbt : b.lo 0 = true := hb.tr
    obtain ⟨o1, o2, o3⟩ := hodd
    have o1' : odd.lo 0 = true := o1
    refine draw_ok (by omega) d2 (by decide) (by decide) fun v3 S3 z0 z1 d3 => ?_
    have rest : ∀ (x y : D) (S4 : Sto), Bad (13 * deep + 12) fu many (.tup [.str w, x, y]) → DK k S0 S4 → wp (den fu N' i_l_draw [.ref k, .int 12] S4) (fun v S5 => wp (gIx (.lst [.lst [.str w, a, b], .tup [.str w, a, b, .int 0], .tup [.str w, a], .tup [.str "pushes", a, b], .tup [.non, a, b], .tup [], .non, .str w, .tup [.str w, x, y], .tup [.str w, x, y], .tup [.str w, x, y], .tup [.str w, x, y]]) v S5) (fun d S' => wp (finD false S.length d S') F E) (fun e S' => E e S')) (fun e S' => E e S') := by
      intro x y S4 hlast d4
      refine draw_ok (by omega) d4 (by decide) (by decide) fun v4 S4 y0 y1 d4 => pick y0 y1 (Bad _ fu many) (fun r hr => ?_) fun r hr => fin r S4 hr d4
      simp only [List.mem_cons, List.not_mem_nil, or_false] at hr
      rcases hr with rfl | rfl | rfl | rfl | rfl | rfl | rfl | rfl | rfl | rfl | rfl | rfl
      · exact ⟨by simp [DL.tr, D.lo, D.los, hat, hbt], (ov_flat rfl (fun _ h => by cases h)).mono (by omega)⟩
      · exact ⟨by simp [DL.tr, D.lo, D.los, hat, hbt], (ov_pairlen hw (by simp)).mono (by omega)⟩
      · exact ⟨by simp [DL.tr, D.lo, D.los, hat], (ov_pairlen hw (by simp)).mono (by omega)⟩
      · exact ⟨by simp [DL.tr, D.lo, D.los, hat, hbt], ov_pushes.mono (by omega)⟩
      · exact ⟨by simp [DL.tr, D.lo, D.los, hat, hbt], ov_none.mono (by omega)⟩
      · exact ⟨rfl, ov_nil.mono (by omega)⟩
      · exact ⟨rfl, (ov_flat rfl (fun _ h => by cases h)).mono (by omega)⟩
      · exact ⟨rfl, (ov_flat rfl (fun _ h => by cases h)).mono (by omega)⟩
      all_goals exact hlast
    by_cases hz : v3 = 0
    · subst hz
      simp only [cut3d, cut3e, gMulS_lst4, sl, Nat.reduceLeDiff, wp_ok, wp_ret, wp_stuck, wp_bad, wp_bnd, wp_if, wp_fif, wps_ok_nx, wps_ok_rt, wps_ok_bk, wps_ok_ct, wps_ok_xc, wps_bad, wps_lft, wps_seq, wps_nil, wps_ret, wps_expr, wps_asg, wps_if, wp_run, wps_for, wps_while, wp_comp, wp_var, wp_C, wp_bin, wp_un, wp_T, wp_Tb, wp_asBl, wp_truthBl, wp_bAnd, wp_bOr, wp_bNot, wp_eIf, wp_eAnd, wp_eOr, wp_eNot, blCase_bl, wp_chain, wp_aNil, wp_aCons, wp_tup, wp_lst, wp_lstM, wp_call, wp_cl1, wp_cl2, wp_cl3, wp_cl4, wp_cl5, wp_meth, wp_isi, wp_oNone, wp_oSome, wp_sl, wp_it, wp_range1, wp_range2, wp_bYes, gEq_str, gNe_str, gEq_int, gNe_int, gEq_bl, gNe_bl, gIs_bl, gIsNot_bl, gAdd_int, gSub_int, gC_int, gI_int, gAdd_str, gAdd_tup, gAdd_lst, gNeg_int, gIx_tup, gIx_lst, gLen_tup, gLen_lst, gLen_str, gInt_int, gInt_bl, gTuple_lst, gTuple_tup, gList_lst, gList_tup, gSl_tup, gSl_lst, gSl_fl, gSl_str, srcL_tup, srcL_lst, srcL_fl, srcL_str, srcR1_int, typN, startR, List.map_cons, List.map_nil, List.length_cons, List.length_nil, Nat.reduceAdd, Nat.reduceSub, Nat.zero_add, Nat.sub_self, Nat.sub_zero, List.replicate_zero, List.replicate_succ, List.cons_append, List.nil_append, List.append_nil, List.getElem?_cons_zero, List.getElem?_cons_succ, List.set_cons_zero, List.set_cons_succ, List.set_nil, List.getElem?_nil, Option.some.injEq, exists_eq_left', exists_eq_left, exists_eq_right, reduceCtorEq, false_and, and_false, true_and, and_true, exists_false, exists_const, wipeR, Nat.zero_le, String.reduceEq, D.int.injEq, D.str.injEq, D.bl.injEq, atI_0, atI_1, atI_2, atI_3, atI_4, beq_self_eq_true, not_true_eq_false, not_false_eq_true, Int.cast_ofNat_Int, Int.reduceEq, Int.reduceLE, Int.reduceLT, Int.reduceAdd, Int.reduceSub, Int.reduceMul, Int.reduceNeg, if_true, if_false, ite_true, ite_false, Bool.false_eq_true, if_neg, if_pos, decide_eq_true_eq, Bool.not_eq_true', decide_eq_false_iff_not, eq_self_iff_true, decide_true, decide_false, Bool.not_true, Bool.not_false]
      exact rest odd b S3 ⟨by simp [DL.tr, D.lo, D.los, o1', hbt], (ov_pair hw o2 hb.plain (by rw [o3]; rfl)).mono (by omega)⟩ d3
    · obtain rfl : v3 = 1 := by omega
      simp only [cut3c, cut3f, gMulS_lst4, sl, Nat.reduceLeDiff, wp_ok, wp_ret, wp_stuck, wp_bad, wp_bnd, wp_if, wp_fif, wps_ok_nx, wps_ok_rt, wps_ok_bk, wps_ok_ct, wps_ok_xc, wps_bad, wps_lft, wps_seq, wps_nil, wps_ret, wps_expr, wps_asg, wps_if, wp_run, wps_for, wps_while, wp_comp, wp_var, wp_C, wp_bin, wp_un, wp_T, wp_Tb, wp_asBl, wp_truthBl, wp_bAnd, wp_bOr, wp_bNot, wp_eIf, wp_eAnd, wp_eOr, wp_eNot, blCase_bl, wp_chain, wp_aNil, wp_aCons, wp_tup, wp_lst, wp_lstM, wp_call, wp_cl1, wp_cl2, wp_cl3, wp_cl4, wp_cl5, wp_meth, wp_isi, wp_oNone, wp_oSome, wp_sl, wp_it, wp_range1, wp_range2, wp_bYes, gEq_str, gNe_str, gEq_int, gNe_int, gEq_bl, gNe_bl, gIs_bl, gIsNot_bl, gAdd_int, gSub_int, gC_int, gI_int, gAdd_str, gAdd_tup, gAdd_lst, gNeg_int, gIx_tup, gIx_lst, gLen_tup, gLen_lst, gLen_str, gInt_int, gInt_bl, gTuple_lst, gTuple_tup, gList_lst, gList_tup, gSl_tup, gSl_lst, gSl_fl, gSl_str, srcL_tup, srcL_lst, srcL_fl, srcL_str, srcR1_int, typN, startR, List.map_cons, List.map_nil, List.length_cons, List.length_nil, Nat.reduceAdd, Nat.reduceSub, Nat.zero_add, Nat.sub_self, Nat.sub_zero, List.replicate_zero, List.replicate_succ, List.cons_append, List.nil_append, List.append_nil, List.getElem?_cons_zero, List.getElem?_cons_succ, List.set_cons_zero, List.set_cons_succ, List.set_nil, List.getElem?_nil, Option.some.injEq, exists_eq_left', exists_eq_left, exists_eq_right, reduceCtorEq, false_and, and_false, true_and, and_true, exists_false, exists_const, wipeR, Nat.zero_le, String.reduceEq, D.int.injEq, D.str.injEq, D.bl.injEq, atI_0, atI_1, atI_2, atI_3, atI_4, beq_self_eq_true, not_true_eq_false, not_false_eq_true, Int.cast_ofNat_Int, Int.reduceEq, Int.reduceLE, Int.reduceLT, Int.reduceAdd, Int.reduceSub, Int.reduceMul, Int.reduceNeg, if_true, if_false, ite_true, ite_false, Bool.false_eq_true, if_neg, if_pos, decide_eq_true_eq, Bool.not_eq_true', decide_eq_false_iff_not, eq_self_iff_true, decide_true, decide_false, Bool.not_true, Bool.not_false]
      exact rest a odd S3 ⟨by simp [DL.tr, D.lo, D.los, o1', hat], (ov_pair hw ha.plain o2 (by rw [o3, Bool.and_false])).mono (by omega)⟩ d3
  · obtain ⟨o1, u1, e1, rfl, l1, k1, rfl, og1, r1, ep1, ol1, tl1, wl1⟩ := h1.shape
    obtain ⟨o2, u2, e2, rfl, l2, k2, hk2, og2, r2, ep2, ol2, tl2, wl2⟩ := h2.shape
    obtain rfl : k2 = k1 := by omega
    have hone : one.lo 0 = true := ho.tr
    have hargs : D.los 0 args = true := trs fun d hd => (ha d hd).tr
    have ho1 : D.los 0 o1 = true := trs (og1.all (CodeG.tr k2))
    have ho2 : D.los 0 o2 = true := trs (og2.all (CodeG.tr k2))
    have hu1 : D.los 0 u1 = true := trs fun d hd => (r1 d hd).tr
    have hu2 : D.los 0 u2 = true := trs fun d hd => (r2 d hd).tr
    have le1 := og1.le
    have hne : ¬ ((args.length : Int) + (o1.length : Int) = 0) := by omega
    simp (config := { maxSteps := 2000000 }) only [b_l_bad_op, sl, Nat.reduceLeDiff, cut5a, cut5b, cut3a, cut3b, cut3c, cut3d, cut3e, ofString_inj, cPow, wps_asgTp, gTp5, gNs_cons, gN0_nil, comp2, gMulS_tup, hne, List.length_append, show args.length + 1 ≤ 100 by omega, show args.length + args.length ≤ 100 by omega, show args.length + args.length + 1 ≤ 100 by omega, show u1.length + 1 ≤ 100 by omega, show u2.length + 1 ≤ 100 by omega, show o1.length + 1 ≤ 100 by omega, show o2.length + 1 ≤ 100 by omega, wp_ok, wp_ret, wp_stuck, wp_bad, wp_bnd, wp_if, wp_fif, wps_ok_nx, wps_ok_rt, wps_ok_bk, wps_ok_ct, wps_ok_xc, wps_bad, wps_lft, wps_seq, wps_nil, wps_ret, wps_expr, wps_asg, wps_if, wp_run, wps_for, wps_while, wp_comp, wp_var, wp_C, wp_bin, wp_un, wp_T, wp_Tb, wp_asBl, wp_truthBl, wp_bAnd, wp_bOr, wp_bNot, wp_eIf, wp_eAnd, wp_eOr, wp_eNot, blCase_bl, wp_chain, wp_aNil, wp_aCons, wp_tup, wp_lst, wp_lstM, wp_call, wp_cl1, wp_cl2, wp_cl3, wp_cl4, wp_cl5, wp_meth, wp_isi, wp_oNone, wp_oSome, wp_sl, wp_it, wp_range1, wp_range2, wp_bYes, gEq_str, gNe_str, gEq_int, gNe_int, gEq_bl, gNe_bl, gIs_bl, gIsNot_bl, gAdd_int, gSub_int, gC_int, gI_int, gAdd_str, gAdd_tup, gAdd_lst, gNeg_int, gIx_tup, gIx_lst, gLen_tup, gLen_lst, gLen_str, gInt_int, gInt_bl, gTuple_lst, gTuple_tup, gList_lst, gList_tup, gSl_tup, gSl_lst, gSl_fl, gSl_str, srcL_tup, srcL_lst, srcL_fl, srcL_str, srcR1_int, typN, startR, List.map_cons, List.map_nil, List.length_cons, List.length_nil, Nat.reduceAdd, Nat.reduceSub, Nat.zero_add, Nat.sub_self, Nat.sub_zero, List.replicate_zero, List.replicate_succ, List.cons_append, List.nil_append, List.append_nil, List.getElem?_cons_zero, List.getElem?_cons_succ, List.set_cons_zero, List.set_cons_succ, List.set_nil, List.getElem?_nil, Option.some.injEq, exists_eq_left', exists_eq_left, exists_eq_right, reduceCtorEq, false_and, and_false, true_and, and_true, exists_false, exists_const, wipeR, Nat.zero_le, String.reduceEq, D.int.injEq, D.str.injEq, D.bl.injEq, atI_0, atI_1, atI_2, atI_3, atI_4, beq_self_eq_true, not_true_eq_false, not_false_eq_true, Int.cast_ofNat_Int, Int.reduceEq, Int.reduceLE, Int.reduceLT, Int.reduceAdd, Int.reduceSub, Int.reduceMul, Int.reduceNeg, if_true, if_false, ite_true, ite_false, Bool.false_eq_true, if_neg, if_pos, decide_eq_true_eq, Bool.not_eq_true', decide_eq_false_iff_not, eq_self_iff_true, decide_true, decide_false, Bool.not_true, Bool.not_false]
    refine draw_ok (by omega) h (by decide) (by decide) fun v S1 hv0 hv1 d1 => ?_
    refine draw_ok (by omega) d1 (by decide) (by decide) fun v2 S2 hw0 hw1 d2 => ?_
    refine pick hw0 hw1 (Odd many) (odd_ok hv0) fun odd hodd => ?_
    obtain ⟨q1, q2, q3⟩ := hodd
    have q1' : odd.lo 0 = true := q1
    refine draw_ok (by omega) d2 (by decide) (by decide) fun v4 S4 y0 y1 d4 => pick y0 y1 (Bad _ fu many) (fun r hr => ?_) fun r hr => fin r S4 hr d4
    clear fin hF
    have c1 : CV (13 * (k2 + 1)) fu (.tup [.int args.length, .tup o1, .tup u1]) true := code_ok _ _ _ _ h1
    have c2 : CV (13 * (k2 + 1)) fu (.tup [.int args.length, .tup o2, .tup u2]) true := code_ok _ _ _ _ h2
    have hap : ∀ ds, D.tup args = .tup ds → ds.length ≤ 1000 ∧ ∀ d ∈ ds, plain d = true := fun ds h => by cases h; exact ⟨by omega, fun d hd => (ha d hd).plain⟩
    have hro : regB (many : Int) odd = true → False := fun h => by rw [q3] at h; cases h
    have T : ∀ {a b c d : D}, a.lo 0 = true → b.lo 0 = true → c.lo 0 = true → d.lo 0 = true → tr (.tup [.str "if", a, b, c, d]) := fun {a b c d} ha hb hc hd => by simp [DL.tr, D.lo, D.los, ha, hb, hc, hd]
    have C : ∀ {a : Int} {b c : List D}, D.los 0 b = true → D.los 0 c = true → D.lo 0 (.tup [.int a, .tup b, .tup c]) = true := fun {a b c} hb hc => by simp [D.lo, D.los, hb, hc]
    have targs : D.lo 0 (.tup args) = true := hargs
    have tw : D.los 0 [.tup [.str "wrap", .int 99]] = true := rfl
    simp only [List.mem_cons, List.not_mem_nil, or_false] at hr
    rcases hr with rfl | rfl | rfl | rfl | rfl | rfl | rfl | rfl | rfl | rfl | rfl | rfl | rfl | rfl | rfl | rfl | rfl | rfl | rfl | rfl
    · exact ⟨by simp [DL.tr, D.lo, D.los, hone, hargs, ho1, ho2, hu1, hu2], (ov_flat rfl (fun _ h => by cases h)).mono (by omega)⟩
    · exact ⟨by simp [DL.tr, D.lo, D.los, hone, hargs, ho1, ho2, hu1, hu2], (ov_iflen (by simp)).mono (by omega)⟩
    · exact ⟨by simp [DL.tr, D.lo, D.los, hone, hargs, ho1, ho2, hu1, hu2], (ov_iflen (by simp)).mono (by omega)⟩
    · exact ⟨by simp [DL.tr, D.lo, D.los, hone, hargs, ho1, ho2, hu1, hu2], ov_pushes.mono (by omega)⟩
    · exact ⟨by simp [DL.tr, D.lo, D.los, hone, hargs, ho1, ho2, hu1, hu2], ov_none.mono (by omega)⟩
    · exact ⟨rfl, ov_nil.mono (by omega)⟩
    · exact ⟨rfl, (ov_flat rfl (fun _ h => by cases h)).mono (by omega)⟩
    · exact ⟨rfl, (ov_flat rfl (fun _ h => by cases h)).mono (by omega)⟩
    · exact ⟨T q1' targs (C ho1 hu1) (C ho2 hu2), (ov_if (M := 13 * (k2 + 1)) q2 rfl hap c1 c2 fun h => (hro h).elim).mono (by omega)⟩
    · refine ⟨T hone (by rw [D.lo, los_app, hargs]; simp [D.los, q1']) (C ho1 hu1) (C ho2 hu2), (ov_if (M := 13 * (k2 + 1)) ho.plain rfl (fun ds h => ?_) c1 c2 fun _ h => ?_).mono (by omega)⟩
      · cases h
        refine ⟨by simp; omega, fun d hd => ?_⟩
        rw [List.mem_append, List.mem_singleton] at hd
        rcases hd with hd | rfl
        · exact (ha d hd).plain
        · exact q2
      · simp only [regsB, List.all_append, List.all_cons, q3, Bool.false_and, Bool.and_false] at h
        cases h
    · refine ⟨T hone targs (C ho1 hu1) (C ho2 hu2), (ov_if (M := 13 * (k2 + 1)) ho.plain rfl hap (cv_plus og1 ol1 (by omega) r1) c2 fun _ _ _ _ => ⟨_, _, _, _, _, _, _, rfl, rfl, rfl, ?_⟩).mono (by omega)⟩
      rw [decide_eq_false (by omega)]; rfl
    · refine ⟨T hone targs (C ho1 hu1) (C ho2 hu2), (ov_if (M := 13 * (k2 + 1)) ho.plain rfl hap c1 (cv_plus og2 ol2 (by omega) r2) fun _ _ _ _ => ⟨_, _, _, _, _, _, _, rfl, rfl, rfl, ?_⟩).mono (by omega)⟩
      rw [decide_eq_false (p := (args.length : Int) + 1 = (args.length : Int)) (by omega)]; simp
    · have hall : (u1 ++ [D.int 0]).all (regB (e1 : Int)) = true := by
        rw [List.all_append, Bool.and_eq_true]
        exact ⟨List.all_eq_true.mpr fun o h => (r1 o h).b, by simp [regB]; omega⟩
      have hpl : ∀ o ∈ u1 ++ [D.int 0], plain o = true := fun o h => by
        rw [List.mem_append, List.mem_singleton] at h
        rcases h with h | rfl
        · exact (r1 o h).plain
        · rfl
      refine ⟨T hone targs (C ho1 (by rw [los_app, hu1]; rfl)) (C ho2 hu2), (ov_if (M := 13 * (k2 + 1)) ho.plain rfl hap (cv_outs og1 ol1 (by simp; omega) hpl hall) c2 fun _ _ _ _ => ⟨_, _, _, _, _, _, _, rfl, rfl, rfl, ?_⟩).mono (by omega)⟩
      rw [decide_eq_false (p := (u1 ++ [D.int 0]).length = u2.length) (by rw [List.length_append, l1, l2]; simp)]; simp
    · exact ⟨T hone (by rw [D.lo]; exact hargs) (C ho1 hu1) (C ho2 hu2), (ov_if (M := 13 * (k2 + 1)) ho.plain rfl (fun _ h => by cases h) c1 c2 fun _ h => by cases h).mono (by omega)⟩
    · exact ⟨T hone targs (C ho1 hu1) rfl, (ov_if (M := 13 * (k2 + 1)) ho.plain rfl hap c1 (cv_non.mono (by omega)) fun _ _ _ h => by cases h).mono (by omega)⟩
    · refine ⟨T hone (by rw [D.lo, los_app, los_app, hargs]; simp [D.los, hone]) (C ho1 hu1) (C ho2 hu2), (ov_if (M := 13 * (k2 + 1)) ho.plain rfl (fun ds h => ?_) c1 c2 fun _ _ _ _ => ⟨_, _, _, _, _, _, _, rfl, rfl, rfl, ?_⟩).mono (by omega)⟩
      · cases h
        refine ⟨by simp; omega, fun d hd => ?_⟩
        simp only [List.mem_append, List.mem_singleton] at hd
        rcases hd with (hd | hd) | rfl
        · exact (ha d hd).plain
        · exact (ha d hd).plain
        · exact ho.plain
      · rw [decide_eq_false (by simp; omega)]; rfl
    · exact ⟨T hone targs (C (by rw [los_app, ho1]; rfl) hu1) (C ho2 hu2), (ov_if (M := 13 * (k2 + 1)) ho.plain rfl hap (cv_wrap og1 ol1 tl1) c2 fun _ _ h => by cases h).mono (by omega)⟩
    · exact ⟨T hone targs (C ho1 hu1) (C (by rw [los_app, ho2]; rfl) hu2), (ov_if (M := 13 * (k2 + 1)) ho.plain rfl hap c1 (cv_wrap og2 ol2 tl2) fun _ _ _ h => by cases h).mono (by omega)⟩
    · exact ⟨T hone targs rfl (C ho2 hu2), (ov_if (M := 13 * (k2 + 1)) ho.plain rfl hap (cv_non.mono (by omega)) c2 fun _ _ h => by cases h).mono (by omega)⟩
    · have hall : [D.int 99].all (regB (e1 : Int)) = false := by simp [regB]; omega
      exact ⟨T hone targs (C ho1 rfl) (C ho2 hu2), (ov_if (M := 13 * (k2 + 1)) ho.plain rfl hap (cv_outs og1 ol1 (by simp) (fun o h => by simp only [List.mem_singleton] at h; rw [h]; rfl) hall) c2 fun _ _ h => by cases h).mono (by omega)⟩
end K63

namespace K63
open PySem L2 DL
variable {fu n k : Nat} {S S0 : Sto} {F : D → Sto → Prop} {E : Exc → Sto → Prop}
/-! what may be laid side by side with == -/
def Sh (m : Nat) (d : D) : Prop := ∃ p, toPy d = some p ∧ p.canLay0 = true ∧ p.depth ≤ m
theorem Sh.mono {m m' : Nat} {d : D} (h : Sh m d) (l : m ≤ m') : Sh m' d := by obtain ⟨p, a, b, c⟩ := h; exact ⟨p, a, b, by omega⟩
theorem sh_int {i : Int} {m : Nat} : Sh m (.int i) := ⟨_, rfl, rfl, Nat.zero_le _⟩
theorem sh_str {z : Str} {m : Nat} (h : PyData.strOk z = true) : Sh m (.str z) := ⟨_, rfl, h, Nat.zero_le _⟩
theorem sh_list {m : Nat} : ∀ {ds : List D}, (∀ d ∈ ds, Sh m d) → ∃ ps, toPys ds = some ps ∧ PyData.canLayAll0 ps = true ∧ PyData.depthAll ps ≤ m
  | [], _ => ⟨[], rfl, rfl, Nat.zero_le _⟩
  | d :: ds, h => by
    obtain ⟨p, a, b, c⟩ := h d List.mem_cons_self
    obtain ⟨ps, a', b', c'⟩ := sh_list (m := m) (ds := ds) fun d hd => h d (List.mem_cons_of_mem _ hd)
    refine ⟨p :: ps, by simp only [toPys, a, a'], by simp only [PyData.canLayAll0, b, b', Bool.and_self], ?_⟩
    simp only [PyData.depthAll]
    omega
theorem sh_tup {m : Nat} {ds : List D} (h : ∀ d ∈ ds, Sh m d) : Sh (m + 1) (.tup ds) := by
  obtain ⟨ps, a, b, c⟩ := sh_list h
  exact ⟨.tuple ps, by simp only [toPy, a, Option.map_some], by simp only [PyData.canLay0, b], by simp only [PyData.depth]; omega⟩
theorem gNe_nil {m : Nat} {ds : List D} (h : Sh m (.tup ds)) (hm : m ≤ 64) : wp (gNe (.tup ds) (.tup []) S) F E ↔ F (.bl (!decide (ds = []))) S := by
  have e : eqD S (.tup ds) (.tup []) = some (decide (ds = [])) := by
    obtain ⟨p, a, b, c⟩ := h
    have e1 : toPyS S (.tup ds) = some p := a
    have e2 : toPyS S (.tup []) = some (.tuple []) := rfl
    have s1 : SeqAt.shaped p = true := by
      unfold SeqAt.shaped
      rw [b, decide_eq_true (by omega)]; rfl
    have s2 : SeqAt.shaped (.tuple []) = true := by decide
    unfold eqD
    simp only [e1, e2, s1, s2, Bool.and_self, if_true]
    simp only [toPy, Option.map_eq_some_iff] at a
    obtain ⟨ps, a, rfl⟩ := a
    cases ds with
    | nil => cases a; rfl
    | cons x l =>
      cases ps with
      | nil =>
        exfalso
        unfold toPys at a
        split at a <;> simp_all
      | cons q qs => simp [PyData.eqv, PyData.eqvAll]
  unfold gNe
  rw [e]; exact Iff.rfl
theorem basics_strOk : ∀ z ∈ basics, PyData.strOk z = true := by decide +kernel
theorem IsSh.strOk {z : Str} (h : IsSh z) : PyData.strOk z = true := by
  obtain ⟨a, b, rfl, ⟨m, hm, ha⟩, hb, hab⟩ := h
  have h1 : ∀ x ∈ a, x < 1114112 := fun x hx => by
    rw [ha] at hx
    have := List.mem_of_mem_take hx
    simp only [List.mem_cons, List.not_mem_nil, or_false] at this
    omega
  unfold PyData.strOk
  rw [← Array.all_toList, app_toList, app_toList]
  simp only [List.all_append, Bool.and_eq_true, List.all_eq_true, decide_eq_true_eq, List.toList_toArray]
  refine ⟨⟨h1, by simp⟩, fun x hx => h1 x (hab x hx)⟩
theorem WdS.sh {w : D} (h : WdS w) {m : Nat} : Sh m w := by
  obtain ⟨z, rfl, _, h⟩ := h
  refine sh_str ?_
  rcases h with h | h
  · exact basics_strOk z h
  · exact h.strOk
theorem s_number : PyData.strOk (Str.ofString "number") = true := by decide +kernel
theorem s_row : PyData.strOk (Str.ofString "row") = true := by decide +kernel
theorem s_list : PyData.strOk (Str.ofString "list") = true := by decide +kernel
theorem s_push : PyData.strOk (Str.ofString "push") = true := by decide +kernel
theorem s_wrap : PyData.strOk (Str.ofString "wrap") = true := by decide +kernel
theorem s_if : PyData.strOk (Str.ofString "if") = true := by decide +kernel
theorem s_pairs : ∀ z ∈ pairs, PyData.strOk z = true := by decide +kernel
theorem sh2 {m : Nat} {a b : D} (ha : Sh m a) (hb : Sh m b) : Sh (m + 1) (.tup [a, b]) := sh_tup fun d hd => by
  simp only [List.mem_cons, List.not_mem_nil, or_false] at hd
  rcases hd with rfl | rfl <;> assumption
theorem Num.sh {d : D} (h : Num d) : Sh 1 d := by obtain ⟨i, rfl, _⟩ := h; exact sh2 (sh_str s_number) sh_int
theorem ThG.sh : ∀ {j : Nat} {d : D}, ThG j d → Sh (3 * j + 1) d
  | 0, d, h => Num.sh h
  | j + 1, d, h => by
    rcases h with h | ⟨ws, rfl, _, h⟩ | ⟨ts, rfl, _, h⟩
    · exact (Num.sh h).mono (by omega)
    · refine (sh2 (m := 3 * j + 1 + 1 + 1) (sh_str s_row) (sh_tup fun w hw => ?_)).mono (by omega)
      rcases h w hw with q | ⟨t, rfl, q⟩
      · exact q.sh
      · exact sh2 (sh_str s_push) (ThG.sh q)
    · exact (sh2 (m := 3 * j + 1 + 1) (sh_str s_list) (sh_tup fun t ht => ThG.sh (h t ht))).mono (by omega)
theorem Reg.sh {m : Nat} {d : D} (h : Reg m d) {j : Nat} : Sh j d := by obtain ⟨i, rfl, _⟩ := h; exact sh_int
theorem OpG.sh {CG : Nat → Nat → D → Prop} {c : Nat} (hc : 7 ≤ c) (hC : ∀ t w d, CG t w d → Sh c d) {m made : Nat} {op : D} (h : OpG CG m made op) : Sh (c + 1) op := by
  rcases h with ⟨_, t, rfl, h⟩ | ⟨_, a, rfl, h⟩ | ⟨_, w, a, b, rfl, hw, h1, h2⟩ | ⟨one, args, side, other, rfl, h1, h2, _, _, h3, h4⟩
  · exact sh2 (sh_str s_push) (h.sh.mono (by omega))
  · exact sh2 (sh_str s_wrap) h.sh
  · refine sh_tup fun d hd => ?_
    simp only [List.mem_cons, List.not_mem_nil, or_false] at hd
    rcases hd with rfl | rfl | rfl
    · exact sh_str (s_pairs w hw)
    · exact h1.sh
    · exact h2.sh
  · refine sh_tup fun d hd => ?_
    simp only [List.mem_cons, List.not_mem_nil, or_false] at hd
    rcases hd with rfl | rfl | rfl | rfl | rfl
    · exact sh_str s_if
    · exact h1.sh
    · exact (sh_tup (m := 0) fun a ha => (h2 a ha).sh).mono (by omega)
    · exact hC _ _ _ h3
    · exact hC _ _ _ h4
theorem OpsG.sh {CG : Nat → Nat → D → Prop} {c : Nat} (hc : 7 ≤ c) (hC : ∀ t w d, CG t w d → Sh c d) : ∀ {ops : List D} {m e : Nat}, OpsG CG m ops e → ∀ d ∈ ops, Sh (c + 1) d
  | [], _, _, _, d, hd => (List.not_mem_nil hd).elim
  | op :: r, _, _, ⟨made, h1, h2⟩, d, hd => by
    rcases List.mem_cons.mp hd with rfl | hd
    · exact h1.sh hc hC
    · exact OpsG.sh hc hC h2 d hd
theorem CodeG.sh : ∀ (j t w : Nat) (c : D), CodeG j t w c → Sh (3 * j + 7) c
  | 0, t, w, c, h => h.elim
  | j + 1, t, w, c, ⟨ops, outs, e, hc, h1, h2, h3, h4, h5, h6, h7⟩ => by
    subst hc
    have : Sh (3 * j + 7 + 1 + 1 + 1) (.tup [.int t, .tup ops, .tup outs]) := by
      refine sh_tup fun d hd => ?_
      simp only [List.mem_cons, List.not_mem_nil, or_false] at hd
      rcases hd with rfl | rfl | rfl
      · exact sh_int
      · exact sh_tup (h3.sh (by omega) (CodeG.sh j))
      · exact (sh_tup (m := 0) fun a ha => (h6 a ha).sh).mono (by omega)
    exact this.mono (by omega)
/-! a code turned bad -/
theorem cv_x {j t : Nat} {ops : List D} {x : D} {e : Nat} {b : Bool} (ho : OpsG (CodeG j) t ops e) (hl : ops.length ≤ 7) (hx : plain x = true) (hp : ∀ ds, x = .tup ds → ds.length ≤ 1000 ∧ ∀ d ∈ ds, plain d = true) (hb : regsB e x = b) : CV (13 * (j + 1)) fu (.tup [.int t, .tup ops, x]) b := fun n S F E hN hS hF => by
  refine code_eval (k := j) (M := 13 * j) (takes := t) (e := e) (fun t w c => code_ok j t w c) (by omega) (by omega) ho hx hp hS ?_
  rw [hb]; exact hF
theorem OpsG.cut {CG : Nat → Nat → D → Prop} : ∀ {ops : List D} {m e : Nat} (i : Nat), OpsG CG m ops e → ∃ f, OpsG CG m (ops.take i) f
  | _, m, _, 0, _ => ⟨m, rfl⟩
  | [], m, _, i + 1, _ => ⟨m, rfl⟩
  | op :: r, m, e, i + 1, ⟨made, h1, h2⟩ => by
    obtain ⟨f, h⟩ := OpsG.cut i h2
    exact ⟨f, made, h1, h⟩
theorem OpsG.at {CG : Nat → Nat → D → Prop} : ∀ {ops : List D} {m e : Nat} (i : Nat) {op : D}, OpsG CG m ops e → ops[i]? = some op → ∃ f made, OpsG CG m (ops.take i) f ∧ OpG CG f made op
  | [], m, e, i, op, h, hi => by simp at hi
  | o :: r, m, e, 0, op, ⟨made, h1, h2⟩, hi => by
    simp at hi; subst hi
    exact ⟨m, made, rfl, h1⟩
  | o :: r, m, e, i + 1, op, ⟨made, h1, h2⟩, hi => by
    obtain ⟨f, md, a, b⟩ := OpsG.at i h2 (by simpa using hi)
    exact ⟨f, md, ⟨made, h1, a⟩, b⟩
/-- the count of what ops make -/
theorem count_ok {j N' : Nat} {ops : List D} {t e : Nat} {ρ : Rho} (g2 g3 : Nat) (hne : g2 ≠ g3) (h2 : ρ[g2]? = some (some (.int t))) (h3 : g3 < ρ.length) (hN : 1 ≤ N') (ho : OpsG (CodeG j) t ops e) (hS : WF S) {N B C : Rho → Sto → Prop} {T : D → Sto → Prop} {X : Exc → Rho → Sto → Prop}
    (hF : ∀ o, N ((ρ.set g2 (some (.int e))).set g3 o) S) : wps (forM none ops (gN g3) (sAsg (gN g2) (eBin gAdd (eVar g2) (eCall (cl 1 (den fu N' i_l_made)) (aCons (eVar g3) aNil)))) ops ρ S) N T B C X := by
  obtain ⟨N'', rfl⟩ : ∃ N'', N' = N'' + 1 := ⟨N' - 1, by omega⟩
  have hl2 : g2 < ρ.length := (List.getElem?_eq_some_iff.mp h2).1
  refine wps_forM (fun i ρ' S' => S' = S ∧ ∃ (m : Nat) (o : Option D), ρ' = (ρ.set g2 (some (.int m))).set g3 o ∧ OpsG (CodeG j) m (ops.drop i) e) (fun _ _ _ _ => trivial) ?_ ?_ ⟨rfl, t, ρ[g3]?.getD none, ?_, by simpa using ho⟩
  · rintro i d ρ' S' hd ⟨rfl, mm, o, rfl, ho⟩
    refine ⟨_, rfl, ?_⟩
    have hlt := (List.getElem?_eq_some_iff.mp hd).1
    rw [List.drop_eq_getElem_cons hlt, (List.getElem?_eq_some_iff.mp hd).2] at ho
    obtain ⟨made, q1, q2⟩ := ho
    have r2 : ((((ρ.set g2 (some (D.int mm))).set g3 o).set g3 (some d)))[g2]? = some (some (.int mm)) := by
      rw [List.getElem?_set_ne (by omega), List.getElem?_set_ne (by omega), List.getElem?_set_self hl2]
    have r3 : ((((ρ.set g2 (some (D.int mm))).set g3 o).set g3 (some d)))[g3]? = some (some d) := by
      rw [List.getElem?_set_self (by simpa using h3)]
    simp only [r2, r3, wp_ok, wp_ret, wp_stuck, wp_bad, wp_bnd, wp_if, wp_fif, wps_ok_nx, wps_ok_rt, wps_ok_bk, wps_ok_ct, wps_ok_xc, wps_bad, wps_lft, wps_seq, wps_nil, wps_ret, wps_expr, wps_asg, wps_if, wp_run, wps_for, wps_while, wp_comp, wp_var, wp_C, wp_bin, wp_un, wp_T, wp_Tb, wp_asBl, wp_truthBl, wp_bAnd, wp_bOr, wp_bNot, wp_eIf, wp_eAnd, wp_eOr, wp_eNot, blCase_bl, wp_chain, wp_aNil, wp_aCons, wp_tup, wp_lst, wp_lstM, wp_call, wp_cl1, wp_cl2, wp_cl3, wp_cl4, wp_cl5, wp_meth, wp_isi, wp_oNone, wp_oSome, wp_sl, wp_it, wp_range1, wp_range2, wp_bYes, gEq_str, gNe_str, gEq_int, gNe_int, gEq_bl, gNe_bl, gIs_bl, gIsNot_bl, gAdd_int, gSub_int, gC_int, gI_int, gAdd_str, gAdd_tup, gAdd_lst, gNeg_int, gIx_tup, gIx_lst, gLen_tup, gLen_lst, gLen_str, gInt_int, gInt_bl, gTuple_lst, gTuple_tup, gList_lst, gList_tup, gSl_tup, gSl_lst, gSl_fl, gSl_str, srcL_tup, srcL_lst, srcL_fl, srcL_str, srcR1_int, typN, startR, List.map_cons, List.map_nil, List.length_cons, List.length_nil, Nat.reduceAdd, Nat.reduceSub, Nat.zero_add, Nat.sub_self, Nat.sub_zero, List.replicate_zero, List.replicate_succ, List.cons_append, List.nil_append, List.append_nil, List.getElem?_cons_zero, List.getElem?_cons_succ, List.set_cons_zero, List.set_cons_succ, List.set_nil, List.getElem?_nil, Option.some.injEq, exists_eq_left', exists_eq_left, exists_eq_right, reduceCtorEq, false_and, and_false, true_and, and_true, exists_false, exists_const, wipeR, Nat.zero_le, String.reduceEq, D.int.injEq, D.str.injEq, D.bl.injEq, atI_0, atI_1, atI_2, atI_3, atI_4, beq_self_eq_true, not_true_eq_false, not_false_eq_true, Int.cast_ofNat_Int, Int.reduceEq, Int.reduceLE, Int.reduceLT, Int.reduceAdd, Int.reduceSub, Int.reduceMul, Int.reduceNeg, if_true, if_false, ite_true, ite_false, Bool.false_eq_true, if_neg, if_pos, decide_eq_true_eq, Bool.not_eq_true', decide_eq_false_iff_not, eq_self_iff_true, decide_true, decide_false, Bool.not_true, Bool.not_false]
    refine lmade_ok hS q1 ?_
    simp only [wp_ok, wp_ret, wp_stuck, wp_bad, wp_bnd, wp_if, wp_fif, wps_ok_nx, wps_ok_rt, wps_ok_bk, wps_ok_ct, wps_ok_xc, wps_bad, wps_lft, wps_seq, wps_nil, wps_ret, wps_expr, wps_asg, wps_if, wp_run, wps_for, wps_while, wp_comp, wp_var, wp_C, wp_bin, wp_un, wp_T, wp_Tb, wp_asBl, wp_truthBl, wp_bAnd, wp_bOr, wp_bNot, wp_eIf, wp_eAnd, wp_eOr, wp_eNot, blCase_bl, wp_chain, wp_aNil, wp_aCons, wp_tup, wp_lst, wp_lstM, wp_call, wp_cl1, wp_cl2, wp_cl3, wp_cl4, wp_cl5, wp_meth, wp_isi, wp_oNone, wp_oSome, wp_sl, wp_it, wp_range1, wp_range2, wp_bYes, gEq_str, gNe_str, gEq_int, gNe_int, gEq_bl, gNe_bl, gIs_bl, gIsNot_bl, gAdd_int, gSub_int, gC_int, gI_int, gAdd_str, gAdd_tup, gAdd_lst, gNeg_int, gIx_tup, gIx_lst, gLen_tup, gLen_lst, gLen_str, gInt_int, gInt_bl, gTuple_lst, gTuple_tup, gList_lst, gList_tup, gSl_tup, gSl_lst, gSl_fl, gSl_str, srcL_tup, srcL_lst, srcL_fl, srcL_str, srcR1_int, typN, startR, List.map_cons, List.map_nil, List.length_cons, List.length_nil, Nat.reduceAdd, Nat.reduceSub, Nat.zero_add, Nat.sub_self, Nat.sub_zero, List.replicate_zero, List.replicate_succ, List.cons_append, List.nil_append, List.append_nil, List.getElem?_cons_zero, List.getElem?_cons_succ, List.set_cons_zero, List.set_cons_succ, List.set_nil, List.getElem?_nil, Option.some.injEq, exists_eq_left', exists_eq_left, exists_eq_right, reduceCtorEq, false_and, and_false, true_and, and_true, exists_false, exists_const, wipeR, Nat.zero_le, String.reduceEq, D.int.injEq, D.str.injEq, D.bl.injEq, atI_0, atI_1, atI_2, atI_3, atI_4, beq_self_eq_true, not_true_eq_false, not_false_eq_true, Int.cast_ofNat_Int, Int.reduceEq, Int.reduceLE, Int.reduceLT, Int.reduceAdd, Int.reduceSub, Int.reduceMul, Int.reduceNeg, if_true, if_false, ite_true, ite_false, Bool.false_eq_true, if_neg, if_pos, decide_eq_true_eq, Bool.not_eq_true', decide_eq_false_iff_not, eq_self_iff_true, decide_true, decide_false, Bool.not_true, Bool.not_false]
    refine ⟨mm + made, some d, ?_, q2⟩
    rw [List.set_set, List.set_comm _ _ (by omega), List.set_set, ← Int.natCast_add]
  · rintro ρ' S' ⟨rfl, mm, o, rfl, ho⟩
    rw [List.drop_length] at ho
    have : e = mm := ho
    subst this
    exact hF o
  · apply List.ext_getElem?
    intro q
    by_cases hq3 : q = g3
    · subst hq3
      rw [List.getElem?_set_self (by simpa using h3), List.getElem?_eq_getElem h3]; rfl
    · rw [List.getElem?_set_ne (by omega)]
      by_cases hq2 : q = g2
      · subst hq2
        rw [List.getElem?_set_self hl2, h2]
      · rw [List.getElem?_set_ne (by omega)]
end K63

namespace K63
open PySem L2 DL
variable {fu n k : Nat} {S S0 : Sto} {F : D → Sto → Prop} {E : Exc → Sto → Prop}
theorem cut_take {ds : List D} {a : Nat} (h : a ≤ ds.length) : cutD ds none (some ((a : Nat) : Int)) = ds.take a := by
  unfold cutD
  rw [HT.sIx_nat, HT.sIx_none, Nat.min_eq_left h]; simp
theorem cut_drop {ds : List D} {a : Nat} (h : a ≤ ds.length) : cutD ds (some ((a : Nat) : Int)) none = ds.drop a := by
  unfold cutD
  rw [HT.sIx_nat, HT.sIx_none, Nat.min_eq_left h, List.take_of_length_le]; simp
theorem cut_zero {ds : List D} : cutD ds none (some 0) = [] := by
  rw [show (0 : Int) = ((0 : Nat) : Int) from rfl, cut_take (Nat.zero_le _)]; rfl
def BadC (M fu : Nat) (r : D) : Prop := tr r ∧ CV M fu r false
theorem bad_ok {j t w : Nat} {c : D} {N : Nat} (hN : 5 ≤ N) (hj : j ≤ 5) (hc : CodeG (j + 1) t w c) (h : DK k S0 S) (hF : ∀ r S', BadC (13 * (j + 1)) fu r → DK k S0 S' → F r S') : wp (den fu N i_l_bad [.ref k, c] S) F E := by
  obtain ⟨N', rfl⟩ : ∃ N', N = N' + 1 := ⟨N - 1, by omega⟩
  show wp (runDef false 11 (b_l_bad fu (den fu N')) _ _) _ _
  have fin : ∀ r S', BadC (13 * (j + 1)) fu r → DK k S0 S' → wp (finD false S.length r S') F E := fun r S' hr hd => fin_same hd.wf' hr.1 (by rw [hd.len, h.len]) (hF r S' hr hd)
  have hcg := hc
  obtain ⟨ops, outs, e, rfl, h1, h2, h3, h4, h5, h6, h7⟩ := hc
  have le1 := h3.le
  have hops : D.los 0 ops = true := trs (h3.all (CodeG.tr j))
  have houts : D.los 0 outs = true := trs fun d hd => (h6 d hd).tr
  have shp : Sh (3 * j + 9) (.tup ops) := sh_tup (h3.sh (by omega) (CodeG.sh j))
  have gn : ∀ {S F E}, wp (gNe (.tup ops) (.tup []) S) F E ↔ F (.bl (!decide (ops = []))) S := fun {S F E} => gNe_nil shp (by omega)
  simp only [b_l_bad, sl, Nat.reduceLeDiff, wps_asgTp, gTp3, gNs_cons, gN0_nil, wp_ok, wp_ret, wp_stuck, wp_bad, wp_bnd, wp_if, wp_fif, wps_ok_nx, wps_ok_rt, wps_ok_bk, wps_ok_ct, wps_ok_xc, wps_bad, wps_lft, wps_seq, wps_nil, wps_ret, wps_expr, wps_asg, wps_if, wp_run, wps_for, wps_while, wp_comp, wp_var, wp_C, wp_bin, wp_un, wp_T, wp_Tb, wp_asBl, wp_truthBl, wp_bAnd, wp_bOr, wp_bNot, wp_eIf, wp_eAnd, wp_eOr, wp_eNot, blCase_bl, wp_chain, wp_aNil, wp_aCons, wp_tup, wp_lst, wp_lstM, wp_call, wp_cl1, wp_cl2, wp_cl3, wp_cl4, wp_cl5, wp_meth, wp_isi, wp_oNone, wp_oSome, wp_sl, wp_it, wp_range1, wp_range2, wp_bYes, gEq_str, gNe_str, gEq_int, gNe_int, gEq_bl, gNe_bl, gIs_bl, gIsNot_bl, gAdd_int, gSub_int, gC_int, gI_int, gAdd_str, gAdd_tup, gAdd_lst, gNeg_int, gIx_tup, gIx_lst, gLen_tup, gLen_lst, gLen_str, gInt_int, gInt_bl, gTuple_lst, gTuple_tup, gList_lst, gList_tup, gSl_tup, gSl_lst, gSl_fl, gSl_str, srcL_tup, srcL_lst, srcL_fl, srcL_str, srcR1_int, typN, startR, List.map_cons, List.map_nil, List.length_cons, List.length_nil, Nat.reduceAdd, Nat.reduceSub, Nat.zero_add, Nat.sub_self, Nat.sub_zero, List.replicate_zero, List.replicate_succ, List.cons_append, List.nil_append, List.append_nil, List.getElem?_cons_zero, List.getElem?_cons_succ, List.set_cons_zero, List.set_cons_succ, List.set_nil, List.getElem?_nil, Option.some.injEq, exists_eq_left', exists_eq_left, exists_eq_right, reduceCtorEq, false_and, and_false, true_and, and_true, exists_false, exists_const, wipeR, Nat.zero_le, String.reduceEq, D.int.injEq, D.str.injEq, D.bl.injEq, atI_0, atI_1, atI_2, atI_3, atI_4, beq_self_eq_true, not_true_eq_false, not_false_eq_true, Int.cast_ofNat_Int, Int.reduceEq, Int.reduceLE, Int.reduceLT, Int.reduceAdd, Int.reduceSub, Int.reduceMul, Int.reduceNeg, if_true, if_false, ite_true, ite_false, Bool.false_eq_true, if_neg, if_pos, decide_eq_true_eq, Bool.not_eq_true', decide_eq_false_iff_not, eq_self_iff_true, decide_true, decide_false, Bool.not_true, Bool.not_false]
  refine count_ok 2 3 (by decide) rfl (by simp) (by omega) h3 h.wf' fun o => ?_
  simp (config := { maxSteps := 2000000 }) only [sl, Nat.reduceLeDiff, gn, show outs.length + 1 ≤ 100 by omega, show 1 + outs.length ≤ 100 by omega, wp_ok, wp_ret, wp_stuck, wp_bad, wp_bnd, wp_if, wp_fif, wps_ok_nx, wps_ok_rt, wps_ok_bk, wps_ok_ct, wps_ok_xc, wps_bad, wps_lft, wps_seq, wps_nil, wps_ret, wps_expr, wps_asg, wps_if, wp_run, wps_for, wps_while, wp_comp, wp_var, wp_C, wp_bin, wp_un, wp_T, wp_Tb, wp_asBl, wp_truthBl, wp_bAnd, wp_bOr, wp_bNot, wp_eIf, wp_eAnd, wp_eOr, wp_eNot, blCase_bl, wp_chain, wp_aNil, wp_aCons, wp_tup, wp_lst, wp_lstM, wp_call, wp_cl1, wp_cl2, wp_cl3, wp_cl4, wp_cl5, wp_meth, wp_isi, wp_oNone, wp_oSome, wp_sl, wp_it, wp_range1, wp_range2, wp_bYes, gEq_str, gNe_str, gEq_int, gNe_int, gEq_bl, gNe_bl, gIs_bl, gIsNot_bl, gAdd_int, gSub_int, gC_int, gI_int, gAdd_str, gAdd_tup, gAdd_lst, gNeg_int, gIx_tup, gIx_lst, gLen_tup, gLen_lst, gLen_str, gInt_int, gInt_bl, gTuple_lst, gTuple_tup, gList_lst, gList_tup, gSl_tup, gSl_lst, gSl_fl, gSl_str, srcL_tup, srcL_lst, srcL_fl, srcL_str, srcR1_int, typN, startR, List.map_cons, List.map_nil, List.length_cons, List.length_nil, Nat.reduceAdd, Nat.reduceSub, Nat.zero_add, Nat.sub_self, Nat.sub_zero, List.replicate_zero, List.replicate_succ, List.cons_append, List.nil_append, List.append_nil, List.getElem?_cons_zero, List.getElem?_cons_succ, List.set_cons_zero, List.set_cons_succ, List.set_nil, List.getElem?_nil, Option.some.injEq, exists_eq_left', exists_eq_left, exists_eq_right, reduceCtorEq, false_and, and_false, true_and, and_true, exists_false, exists_const, wipeR, Nat.zero_le, String.reduceEq, D.int.injEq, D.str.injEq, D.bl.injEq, atI_0, atI_1, atI_2, atI_3, atI_4, beq_self_eq_true, not_true_eq_false, not_false_eq_true, Int.cast_ofNat_Int, Int.reduceEq, Int.reduceLE, Int.reduceLT, Int.reduceAdd, Int.reduceSub, Int.reduceMul, Int.reduceNeg, if_true, if_false, ite_true, ite_false, Bool.false_eq_true, if_neg, if_pos, decide_eq_true_eq, Bool.not_eq_true', decide_eq_false_iff_not, eq_self_iff_true, decide_true, decide_false, Bool.not_true, Bool.not_false]
  refine draw_ok (by omega) h (by decide) (by decide) fun v S1 hv0 hv1 d1 => ?_
  refine draw_ok (by omega) d1 (by decide) (by decide) fun v2 S2 hw0 hw1 d2 => ?_
  refine pick hw0 hw1 (Odd e) (odd_ok hv0) fun odd hodd => ?_
  obtain ⟨q1, q2, q3⟩ := hodd
  have q1' : odd.lo 0 = true := q1
  have C : ∀ {a b c : D}, a.lo 0 = true → b.lo 0 = true → c.lo 0 = true → tr (.tup [a, b, c]) := fun {a b c} ha hb hc => by simp [DL.tr, D.lo, D.los, ha, hb, hc]
  have tops : D.lo 0 (.tup ops) = true := hops
  have touts : D.lo 0 (.tup outs) = true := houts
  have hpl : ∀ d ∈ outs, plain d = true := fun d hd => (h6 d hd).plain
  have rest : ∀ S3, DK k S0 S3 → wp (den fu N' i_l_draw [.ref k, .int 17] S3) (fun y S4 => wp (gIx (.lst [.tup [.int (-1), .tup ops, .tup outs], .tup [.bl true, .tup ops, .tup outs], .tup [.str "1", .tup ops, .tup outs], .tup [.non, .tup ops, .tup outs], .tup [.int t, .lst ops, .tup outs], .tup [.int t, .tup ops, .lst outs], .tup [.int t, .tup ops], .tup [.int t, .tup ops, .tup outs, .tup []], .lst [.int t, .tup ops, .tup outs], .tup [.int t, .tup ops, .tup (outs ++ [odd])], .tup [.int t, .tup ops, .tup (odd :: outs)], .non, .int 0, .str "code", .tup [], .tup [.int t, .non, .tup outs], .tup [.int t, .tup ops, .non]]) y S4) (fun d S' => wp (finD false S.length d S') F E) (fun e S' => E e S')) (fun e S' => E e S') := by
    intro S3 d3
    refine draw_ok (by omega) d3 (by decide) (by decide) fun v4 S4 y0 y1 d4 => pick y0 y1 (BadC (13 * (j + 1)) fu) (fun r hr => ?_) fun r hr => fin r S4 hr d4
    clear fin hF
    simp only [List.mem_cons, List.not_mem_nil, or_false] at hr
    rcases hr with rfl | rfl | rfl | rfl | rfl | rfl | rfl | rfl | rfl | rfl | rfl | rfl | rfl | rfl | rfl | rfl | rfl
    · exact ⟨C rfl tops touts, fun n S F E hn hS hF => code_no3 (by omega) hS rfl rfl (fun h => by cases h) hF⟩
    · exact ⟨C rfl tops touts, fun n S F E hn hS hF => code_no3 (by omega) hS rfl rfl (fun h => by cases h) hF⟩
    · exact ⟨C rfl tops touts, fun n S F E hn hS hF => code_no3 (by omega) hS rfl rfl (fun h => by cases h) hF⟩
    · exact ⟨C rfl tops touts, fun n S F E hn hS hF => code_no3 (by omega) hS rfl rfl (fun h => by cases h) hF⟩
    · exact ⟨C rfl hops touts, fun n S F E hn hS hF => code_no3 (by omega) hS rfl rfl (fun _ _ h => by cases h) hF⟩
    · exact ⟨C rfl tops houts, cv_x h3 h1 rfl (fun _ h => by cases h) rfl⟩
    · exact ⟨by simp [DL.tr, D.lo, D.los, hops], fun n S F E hn hS hF => code_notup (by omega) hS rfl (fun _ h => by cases h; simp) hF⟩
    · exact ⟨by simp [DL.tr, D.lo, D.los, hops, houts], fun n S F E hn hS hF => code_notup (by omega) hS rfl (fun _ h => by cases h; simp) hF⟩
    · exact ⟨by simp [DL.tr, D.lo, D.los, hops, houts], fun n S F E hn hS hF => code_notup (by omega) hS rfl (fun _ h => by cases h) hF⟩
    · refine ⟨C rfl tops (by rw [D.lo, los_app, houts]; simp [D.los, q1']), cv_x h3 h1 rfl (fun ds h => ?_) ?_⟩
      · cases h
        refine ⟨by simp; omega, fun d hd => ?_⟩
        rw [List.mem_append, List.mem_singleton] at hd
        rcases hd with hd | rfl
        · exact hpl d hd
        · exact q2
      · simp only [regsB, List.all_append, List.all_cons, q3, Bool.false_and, Bool.and_false]
    · refine ⟨C rfl tops (by simp [D.lo, D.los, q1', houts]), cv_x h3 h1 rfl (fun ds h => ?_) ?_⟩
      · cases h
        refine ⟨by simp; omega, fun d hd => ?_⟩
        rcases List.mem_cons.mp hd with rfl | hd
        · exact q2
        · exact hpl d hd
      · simp only [regsB, List.all_cons, q3, Bool.false_and]
    · exact ⟨rfl, fun n S F E hn hS hF => code_notup (by omega) hS rfl (fun _ h => by cases h) hF⟩
    · exact ⟨rfl, fun n S F E hn hS hF => code_notup (by omega) hS rfl (fun _ h => by cases h) hF⟩
    · exact ⟨rfl, fun n S F E hn hS hF => code_notup (by omega) hS rfl (fun _ h => by cases h) hF⟩
    · exact ⟨rfl, fun n S F E hn hS hF => code_notup (by omega) hS rfl (fun _ h => by cases h; simp) hF⟩
    · exact ⟨C rfl rfl touts, fun n S F E hn hS hF => code_no3 (by omega) hS rfl rfl (fun _ _ h => by cases h) hF⟩
    · exact ⟨C rfl tops rfl, cv_x h3 h1 rfl (fun _ h => by cases h) rfl⟩
  by_cases hnil : ops = []
  · rw [if_neg (by simpa using hnil)]
    exact rest S2 d2
  · rw [if_pos hnil]
    have hpos : 0 < ops.length := List.length_pos_iff.mpr hnil
    refine draw_ok (by omega) d2 (by decide) (by decide) fun v3 S3 z0 z1 d3 => ?_
    simp only [wp_ok, wp_ret, wp_stuck, wp_bad, wp_bnd, wp_if, wp_fif, wps_ok_nx, wps_ok_rt, wps_ok_bk, wps_ok_ct, wps_ok_xc, wps_bad, wps_lft, wps_seq, wps_nil, wps_ret, wps_expr, wps_asg, wps_if, wp_run, wps_for, wps_while, wp_comp, wp_var, wp_C, wp_bin, wp_un, wp_T, wp_Tb, wp_asBl, wp_truthBl, wp_bAnd, wp_bOr, wp_bNot, wp_eIf, wp_eAnd, wp_eOr, wp_eNot, blCase_bl, wp_chain, wp_aNil, wp_aCons, wp_tup, wp_lst, wp_lstM, wp_call, wp_cl1, wp_cl2, wp_cl3, wp_cl4, wp_cl5, wp_meth, wp_isi, wp_oNone, wp_oSome, wp_sl, wp_it, wp_range1, wp_range2, wp_bYes, gEq_str, gNe_str, gEq_int, gNe_int, gEq_bl, gNe_bl, gIs_bl, gIsNot_bl, gAdd_int, gSub_int, gC_int, gI_int, gAdd_str, gAdd_tup, gAdd_lst, gNeg_int, gIx_tup, gIx_lst, gLen_tup, gLen_lst, gLen_str, gInt_int, gInt_bl, gTuple_lst, gTuple_tup, gList_lst, gList_tup, gSl_tup, gSl_lst, gSl_fl, gSl_str, srcL_tup, srcL_lst, srcL_fl, srcL_str, srcR1_int, typN, startR, List.map_cons, List.map_nil, List.length_cons, List.length_nil, Nat.reduceAdd, Nat.reduceSub, Nat.zero_add, Nat.sub_self, Nat.sub_zero, List.replicate_zero, List.replicate_succ, List.cons_append, List.nil_append, List.append_nil, List.getElem?_cons_zero, List.getElem?_cons_succ, List.set_cons_zero, List.set_cons_succ, List.set_nil, List.getElem?_nil, Option.some.injEq, exists_eq_left', exists_eq_left, exists_eq_right, reduceCtorEq, false_and, and_false, true_and, and_true, exists_false, exists_const, wipeR, Nat.zero_le, String.reduceEq, D.int.injEq, D.str.injEq, D.bl.injEq, atI_0, atI_1, atI_2, atI_3, atI_4, beq_self_eq_true, not_true_eq_false, not_false_eq_true, Int.cast_ofNat_Int, Int.reduceEq, Int.reduceLE, Int.reduceLT, Int.reduceAdd, Int.reduceSub, Int.reduceMul, Int.reduceNeg, if_true, if_false, ite_true, ite_false, Bool.false_eq_true, if_neg, if_pos, decide_eq_true_eq, Bool.not_eq_true', decide_eq_false_iff_not, eq_self_iff_true, decide_true, decide_false, Bool.not_true, Bool.not_false]
    by_cases hv3 : v3 = 1
    · rw [if_pos hv3]
      refine draw_ok (by omega) d3 (by omega) (by omega) fun v4 S4 y0 y1 d4 => ?_
      obtain ⟨a, rfl⟩ := Int.eq_ofNat_of_zero_le y0
      have hal : a < ops.length := by omega
      obtain ⟨f, made, g1, g2⟩ := h3.at a (List.getElem?_eq_getElem hal)
      refine ⟨(a : Nat), rfl, ?_⟩
      rw [cut_take (by omega)]
      refine count_ok 2 3 (by decide) rfl (by simp) (by omega) g1 d4.wf' fun o => ?_
      have ea : atI ops ((a : Nat) : Int) = some ops[a] := atI_nat (List.getElem?_eq_getElem hal)
      have gle := g1.le
      simp only [List.length_take] at gle
      simp only [ea, wp_ok, wp_ret, wp_stuck, wp_bad, wp_bnd, wp_if, wp_fif, wps_ok_nx, wps_ok_rt, wps_ok_bk, wps_ok_ct, wps_ok_xc, wps_bad, wps_lft, wps_seq, wps_nil, wps_ret, wps_expr, wps_asg, wps_if, wp_run, wps_for, wps_while, wp_comp, wp_var, wp_C, wp_bin, wp_un, wp_T, wp_Tb, wp_asBl, wp_truthBl, wp_bAnd, wp_bOr, wp_bNot, wp_eIf, wp_eAnd, wp_eOr, wp_eNot, blCase_bl, wp_chain, wp_aNil, wp_aCons, wp_tup, wp_lst, wp_lstM, wp_call, wp_cl1, wp_cl2, wp_cl3, wp_cl4, wp_cl5, wp_meth, wp_isi, wp_oNone, wp_oSome, wp_sl, wp_it, wp_range1, wp_range2, wp_bYes, gEq_str, gNe_str, gEq_int, gNe_int, gEq_bl, gNe_bl, gIs_bl, gIsNot_bl, gAdd_int, gSub_int, gC_int, gI_int, gAdd_str, gAdd_tup, gAdd_lst, gNeg_int, gIx_tup, gIx_lst, gLen_tup, gLen_lst, gLen_str, gInt_int, gInt_bl, gTuple_lst, gTuple_tup, gList_lst, gList_tup, gSl_tup, gSl_lst, gSl_fl, gSl_str, srcL_tup, srcL_lst, srcL_fl, srcL_str, srcR1_int, typN, startR, List.map_cons, List.map_nil, List.length_cons, List.length_nil, Nat.reduceAdd, Nat.reduceSub, Nat.zero_add, Nat.sub_self, Nat.sub_zero, List.replicate_zero, List.replicate_succ, List.cons_append, List.nil_append, List.append_nil, List.getElem?_cons_zero, List.getElem?_cons_succ, List.set_cons_zero, List.set_cons_succ, List.set_nil, List.getElem?_nil, Option.some.injEq, exists_eq_left', exists_eq_left, exists_eq_right, reduceCtorEq, false_and, and_false, true_and, and_true, exists_false, exists_const, wipeR, Nat.zero_le, String.reduceEq, D.int.injEq, D.str.injEq, D.bl.injEq, atI_0, atI_1, atI_2, atI_3, atI_4, beq_self_eq_true, not_true_eq_false, not_false_eq_true, Int.cast_ofNat_Int, Int.reduceEq, Int.reduceLE, Int.reduceLT, Int.reduceAdd, Int.reduceSub, Int.reduceMul, Int.reduceNeg, if_true, if_false, ite_true, ite_false, Bool.false_eq_true, if_neg, if_pos, decide_eq_true_eq, Bool.not_eq_true', decide_eq_false_iff_not, eq_self_iff_true, decide_true, decide_false, Bool.not_true, Bool.not_false]
      refine badop_ok (by omega) (by omega) g2 d4 fun r S5 hr d5 => ?_
      have ec : ((a : Nat) : Int) + 1 = ((a + 1 : Nat) : Int) := by omega
      have el : (ops.take a).length + 1 ≤ 100 := by simp; omega
      have el2 : (ops.take a ++ [r]).length + (ops.drop (a + 1)).length ≤ 100 := by simp; omega
      simp only [cut_take (Nat.le_of_lt hal), ec, cut_drop (show a + 1 ≤ ops.length from hal), cut_zero, sl el, sl el2, sl, Nat.reduceLeDiff, wp_ok, wp_ret, wp_stuck, wp_bad, wp_bnd, wp_if, wp_fif, wps_ok_nx, wps_ok_rt, wps_ok_bk, wps_ok_ct, wps_ok_xc, wps_bad, wps_lft, wps_seq, wps_nil, wps_ret, wps_expr, wps_asg, wps_if, wp_run, wps_for, wps_while, wp_comp, wp_var, wp_C, wp_bin, wp_un, wp_T, wp_Tb, wp_asBl, wp_truthBl, wp_bAnd, wp_bOr, wp_bNot, wp_eIf, wp_eAnd, wp_eOr, wp_eNot, blCase_bl, wp_chain, wp_aNil, wp_aCons, wp_tup, wp_lst, wp_lstM, wp_call, wp_cl1, wp_cl2, wp_cl3, wp_cl4, wp_cl5, wp_meth, wp_isi, wp_oNone, wp_oSome, wp_sl, wp_it, wp_range1, wp_range2, wp_bYes, gEq_str, gNe_str, gEq_int, gNe_int, gEq_bl, gNe_bl, gIs_bl, gIsNot_bl, gAdd_int, gSub_int, gC_int, gI_int, gAdd_str, gAdd_tup, gAdd_lst, gNeg_int, gIx_tup, gIx_lst, gLen_tup, gLen_lst, gLen_str, gInt_int, gInt_bl, gTuple_lst, gTuple_tup, gList_lst, gList_tup, gSl_tup, gSl_lst, gSl_fl, gSl_str, srcL_tup, srcL_lst, srcL_fl, srcL_str, srcR1_int, typN, startR, List.map_cons, List.map_nil, List.length_cons, List.length_nil, Nat.reduceAdd, Nat.reduceSub, Nat.zero_add, Nat.sub_self, Nat.sub_zero, List.replicate_zero, List.replicate_succ, List.cons_append, List.nil_append, List.append_nil, List.getElem?_cons_zero, List.getElem?_cons_succ, List.set_cons_zero, List.set_cons_succ, List.set_nil, List.getElem?_nil, Option.some.injEq, exists_eq_left', exists_eq_left, exists_eq_right, reduceCtorEq, false_and, and_false, true_and, and_true, exists_false, exists_const, wipeR, Nat.zero_le, String.reduceEq, D.int.injEq, D.str.injEq, D.bl.injEq, atI_0, atI_1, atI_2, atI_3, atI_4, beq_self_eq_true, not_true_eq_false, not_false_eq_true, Int.cast_ofNat_Int, Int.reduceEq, Int.reduceLE, Int.reduceLT, Int.reduceAdd, Int.reduceSub, Int.reduceMul, Int.reduceNeg, if_true, if_false, ite_true, ite_false, Bool.false_eq_true, if_neg, if_pos, decide_eq_true_eq, Bool.not_eq_true', decide_eq_false_iff_not, eq_self_iff_true, decide_true, decide_false, Bool.not_true, Bool.not_false]
      refine fin _ S5 ⟨?_, ?_⟩ d5
      · have e1 : D.los 0 (ops.take a) = true := trs fun d hd => (h3.all (CodeG.tr j)) d (List.mem_of_mem_take hd)
        have e2 : D.los 0 (ops.drop (a + 1)) = true := trs fun d hd => (h3.all (CodeG.tr j)) d (List.mem_of_mem_drop hd)
        have e3 : r.lo 0 = true := hr.1
        exact C rfl (by rw [D.lo, los_app, los_app, e1, e2]; simp [D.los, e3]) rfl
      · intro n S F E hn hS hF
        have e4 : ops.take a ++ [r] ++ ops.drop (a + 1) = ops.take a ++ r :: ops.drop (a + 1) := by simp
        rw [e4]
        exact code_badop (k := j) (M := 13 * j) (takes := t) (e := f) (fun t w c => code_ok j t w c) (by omega) (by simp; omega) g1 (hr.2) hS hF
    · rw [if_neg hv3]
      exact rest S3 d3
end K63

namespace K63
open PySem L2 DL
variable {fu n k : Nat} {S S0 : Sto} {F : D → Sto → Prop} {E : Exc → Sto → Prop}
theorem gListM_lst {ds : List D} : wp (gListM [.lst ds] S) F E ↔ F (.ref S.length) (S ++ [.lst ds]) := Iff.rfl
theorem cut63 {ns : List Int} (h : ns.length ≤ 63) : cutD (ns.map D.int) none (some 63) = ns.map D.int := by
  have e : cutD (ns.map D.int) none (some ((63 : Nat) : Int)) = (ns.map D.int).take 63 := by
    unfold cutD
    rw [HT.sIx_nat, HT.sIx_none, List.length_map, Nat.min_eq_right h]; simp
    omega
  have e2 : (ns.map D.int).take 63 = ns.map D.int := List.take_of_length_le (by simpa using h)
  rw [e2] at e; exact e
theorem deck_ok {ns : List Int} {N : Nat} (hN : 2 ≤ N) (hfu : 1000 ≤ fu) (hl : ns.length ≤ 63) (hF : ∀ S0, DK 1 S0 S0 → F (.ref 1) S0) : wp (den fu N i_l_deck [.fl (ns.map .int), .int 500] []) F E := by
  obtain ⟨N', rfl⟩ : ∃ N', N = N' + 2 := ⟨N - 2, by omega⟩
  show wp (runDef true 4 (b_l_deck fu (den fu (N' + 1))) _ _) _ _
  have gs : ∀ {F E}, wp (gSum [.ref 0] [.lst (ns.map .int)]) F E ↔ F (.int ns.sum) [.lst (ns.map .int)] := fun {F E} => by
    have e : gSum [.ref 0] [.lst (ns.map .int)] = .ok (.int ns.sum) [.lst (ns.map .int)] := by
      unfold gSum
      simp only [show iSeq [MO.lst (ns.map .int)] (.ref 0) = some (ns.map .int) from rfl, Option.bind_some, intsOf_map]
    rw [e]; exact Iff.rfl
  simp only [b_l_deck, cut63 hl, gListM_lst, gs, wp_ok, wp_ret, wp_stuck, wp_bad, wp_bnd, wp_if, wp_fif, wps_ok_nx, wps_ok_rt, wps_ok_bk, wps_ok_ct, wps_ok_xc, wps_bad, wps_lft, wps_seq, wps_nil, wps_ret, wps_expr, wps_asg, wps_if, wp_run, wps_for, wps_while, wp_comp, wp_var, wp_C, wp_bin, wp_un, wp_T, wp_Tb, wp_asBl, wp_truthBl, wp_bAnd, wp_bOr, wp_bNot, wp_eIf, wp_eAnd, wp_eOr, wp_eNot, blCase_bl, wp_chain, wp_aNil, wp_aCons, wp_tup, wp_lst, wp_lstM, wp_call, wp_cl1, wp_cl2, wp_cl3, wp_cl4, wp_cl5, wp_meth, wp_isi, wp_oNone, wp_oSome, wp_sl, wp_it, wp_range1, wp_range2, wp_bYes, gEq_str, gNe_str, gEq_int, gNe_int, gEq_bl, gNe_bl, gIs_bl, gIsNot_bl, gAdd_int, gSub_int, gC_int, gI_int, gAdd_str, gAdd_tup, gAdd_lst, gNeg_int, gIx_tup, gIx_lst, gLen_tup, gLen_lst, gLen_str, gInt_int, gInt_bl, gTuple_lst, gTuple_tup, gList_lst, gList_tup, gSl_tup, gSl_lst, gSl_fl, gSl_str, srcL_tup, srcL_lst, srcL_fl, srcL_str, srcR1_int, typN, startR, List.map_cons, List.map_nil, List.length_cons, List.length_nil, Nat.reduceAdd, Nat.reduceSub, Nat.zero_add, Nat.sub_self, Nat.sub_zero, List.replicate_zero, List.replicate_succ, List.cons_append, List.nil_append, List.append_nil, List.getElem?_cons_zero, List.getElem?_cons_succ, List.set_cons_zero, List.set_cons_succ, List.set_nil, List.getElem?_nil, Option.some.injEq, exists_eq_left', exists_eq_left, exists_eq_right, reduceCtorEq, false_and, and_false, true_and, and_true, exists_false, exists_const, wipeR, Nat.zero_le, String.reduceEq, D.int.injEq, D.str.injEq, D.bl.injEq, atI_0, atI_1, atI_2, atI_3, atI_4, beq_self_eq_true, not_true_eq_false, not_false_eq_true, Int.cast_ofNat_Int, Int.reduceEq, Int.reduceLE, Int.reduceLT, Int.reduceAdd, Int.reduceSub, Int.reduceMul, Int.reduceNeg, if_true, if_false, ite_true, ite_false, Bool.false_eq_true, if_neg, if_pos, decide_eq_true_eq, Bool.not_eq_true', decide_eq_false_iff_not, eq_self_iff_true, decide_true, decide_false, Bool.not_true, Bool.not_false]
  refine wps_whileM (fun m ρ S' => ∃ (cells : List Int) (last : Int), ρ = [some (.fl (ns.map .int)), some (.int 500), some (.ref 0), some (.int last)] ∧ S' = [.lst (cells.map .int)] ∧ m + cells.length = 500) ?_ (500 - ns.length) (by omega) ⟨ns, _, rfl, rfl, by omega⟩
  rintro m ρ S' ⟨cells, last, rfl, rfl, hm⟩
  refine ⟨by omega, ?_⟩
  have hat : atL [MO.lst (cells.map .int)] 0 = some (cells.map .int) := rfl
  have gl : ∀ {F E}, wp (gLen [.ref 0] [.lst (cells.map .int)]) F E ↔ F (.int cells.length) [.lst (cells.map .int)] := fun {F E} => by
    rw [gLen_seq (show iLst [MO.lst (cells.map .int)] (.ref 0) = some (cells.map .int) from rfl), List.length_map]
  have hw : ∀ l : List Int, WF [MO.lst (l.map D.int)] := fun l => by
    have : D.los 0 (l.map D.int) = true := los_map (fun _ => rfl) l
    simp [WF, MO.lo, this]
  simp only [gl, wp_ok, wp_ret, wp_stuck, wp_bad, wp_bnd, wp_if, wp_fif, wps_ok_nx, wps_ok_rt, wps_ok_bk, wps_ok_ct, wps_ok_xc, wps_bad, wps_lft, wps_seq, wps_nil, wps_ret, wps_expr, wps_asg, wps_if, wp_run, wps_for, wps_while, wp_comp, wp_var, wp_C, wp_bin, wp_un, wp_T, wp_Tb, wp_asBl, wp_truthBl, wp_bAnd, wp_bOr, wp_bNot, wp_eIf, wp_eAnd, wp_eOr, wp_eNot, blCase_bl, wp_chain, wp_aNil, wp_aCons, wp_tup, wp_lst, wp_lstM, wp_call, wp_cl1, wp_cl2, wp_cl3, wp_cl4, wp_cl5, wp_meth, wp_isi, wp_oNone, wp_oSome, wp_sl, wp_it, wp_range1, wp_range2, wp_bYes, gEq_str, gNe_str, gEq_int, gNe_int, gEq_bl, gNe_bl, gIs_bl, gIsNot_bl, gAdd_int, gSub_int, gC_int, gI_int, gAdd_str, gAdd_tup, gAdd_lst, gNeg_int, gIx_tup, gIx_lst, gLen_tup, gLen_lst, gLen_str, gInt_int, gInt_bl, gTuple_lst, gTuple_tup, gList_lst, gList_tup, gSl_tup, gSl_lst, gSl_fl, gSl_str, srcL_tup, srcL_lst, srcL_fl, srcL_str, srcR1_int, typN, startR, List.map_cons, List.map_nil, List.length_cons, List.length_nil, Nat.reduceAdd, Nat.reduceSub, Nat.zero_add, Nat.sub_self, Nat.sub_zero, List.replicate_zero, List.replicate_succ, List.cons_append, List.nil_append, List.append_nil, List.getElem?_cons_zero, List.getElem?_cons_succ, List.set_cons_zero, List.set_cons_succ, List.set_nil, List.getElem?_nil, Option.some.injEq, exists_eq_left', exists_eq_left, exists_eq_right, reduceCtorEq, false_and, and_false, true_and, and_true, exists_false, exists_const, wipeR, Nat.zero_le, String.reduceEq, D.int.injEq, D.str.injEq, D.bl.injEq, atI_0, atI_1, atI_2, atI_3, atI_4, beq_self_eq_true, not_true_eq_false, not_false_eq_true, Int.cast_ofNat_Int, Int.reduceEq, Int.reduceLE, Int.reduceLT, Int.reduceAdd, Int.reduceSub, Int.reduceMul, Int.reduceNeg, if_true, if_false, ite_true, ite_false, Bool.false_eq_true, if_neg, if_pos, decide_eq_true_eq, Bool.not_eq_true', decide_eq_false_iff_not, eq_self_iff_true, decide_true, decide_false, Bool.not_true, Bool.not_false]
  by_cases hlt : (cells.length : Int) < 500
  · rw [if_pos hlt]
    refine mixed_ok (hw cells) fun v hv => ?_
    simp only [isTy_ref hat, gAppend_ref hat, wp_ok, wp_ret, wp_stuck, wp_bad, wp_bnd, wp_if, wp_fif, wps_ok_nx, wps_ok_rt, wps_ok_bk, wps_ok_ct, wps_ok_xc, wps_bad, wps_lft, wps_seq, wps_nil, wps_ret, wps_expr, wps_asg, wps_if, wp_run, wps_for, wps_while, wp_comp, wp_var, wp_C, wp_bin, wp_un, wp_T, wp_Tb, wp_asBl, wp_truthBl, wp_bAnd, wp_bOr, wp_bNot, wp_eIf, wp_eAnd, wp_eOr, wp_eNot, blCase_bl, wp_chain, wp_aNil, wp_aCons, wp_tup, wp_lst, wp_lstM, wp_call, wp_cl1, wp_cl2, wp_cl3, wp_cl4, wp_cl5, wp_meth, wp_isi, wp_oNone, wp_oSome, wp_sl, wp_it, wp_range1, wp_range2, wp_bYes, gEq_str, gNe_str, gEq_int, gNe_int, gEq_bl, gNe_bl, gIs_bl, gIsNot_bl, gAdd_int, gSub_int, gC_int, gI_int, gAdd_str, gAdd_tup, gAdd_lst, gNeg_int, gIx_tup, gIx_lst, gLen_tup, gLen_lst, gLen_str, gInt_int, gInt_bl, gTuple_lst, gTuple_tup, gList_lst, gList_tup, gSl_tup, gSl_lst, gSl_fl, gSl_str, srcL_tup, srcL_lst, srcL_fl, srcL_str, srcR1_int, typN, startR, List.map_cons, List.map_nil, List.length_cons, List.length_nil, Nat.reduceAdd, Nat.reduceSub, Nat.zero_add, Nat.sub_self, Nat.sub_zero, List.replicate_zero, List.replicate_succ, List.cons_append, List.nil_append, List.append_nil, List.getElem?_cons_zero, List.getElem?_cons_succ, List.set_cons_zero, List.set_cons_succ, List.set_nil, List.getElem?_nil, Option.some.injEq, exists_eq_left', exists_eq_left, exists_eq_right, reduceCtorEq, false_and, and_false, true_and, and_true, exists_false, exists_const, wipeR, Nat.zero_le, String.reduceEq, D.int.injEq, D.str.injEq, D.bl.injEq, atI_0, atI_1, atI_2, atI_3, atI_4, beq_self_eq_true, not_true_eq_false, not_false_eq_true, Int.cast_ofNat_Int, Int.reduceEq, Int.reduceLE, Int.reduceLT, Int.reduceAdd, Int.reduceSub, Int.reduceMul, Int.reduceNeg, if_true, if_false, ite_true, ite_false, Bool.false_eq_true, if_neg, if_pos, decide_eq_true_eq, Bool.not_eq_true', decide_eq_false_iff_not, eq_self_iff_true, decide_true, decide_false, Bool.not_true, Bool.not_false]
    refine ⟨by rw [sizeLine_eq, List.length_map]; omega, m - 1, by omega, cells ++ [v], v, rfl, by simp, by simp; omega⟩
  · rw [if_neg hlt]
    have gr : ∀ {F E}, wp (gRev true (.ref 0) [.lst (cells.map .int)]) F E ↔ F (.ref 1) [.lst (cells.map .int), .lst (cells.map .int).reverse] := fun {F E} => Iff.rfl
    simp only [gr, wp_ok, wp_ret, wp_stuck, wp_bad, wp_bnd, wp_if, wp_fif, wps_ok_nx, wps_ok_rt, wps_ok_bk, wps_ok_ct, wps_ok_xc, wps_bad, wps_lft, wps_seq, wps_nil, wps_ret, wps_expr, wps_asg, wps_if, wp_run, wps_for, wps_while, wp_comp, wp_var, wp_C, wp_bin, wp_un, wp_T, wp_Tb, wp_asBl, wp_truthBl, wp_bAnd, wp_bOr, wp_bNot, wp_eIf, wp_eAnd, wp_eOr, wp_eNot, blCase_bl, wp_chain, wp_aNil, wp_aCons, wp_tup, wp_lst, wp_lstM, wp_call, wp_cl1, wp_cl2, wp_cl3, wp_cl4, wp_cl5, wp_meth, wp_isi, wp_oNone, wp_oSome, wp_sl, wp_it, wp_range1, wp_range2, wp_bYes, gEq_str, gNe_str, gEq_int, gNe_int, gEq_bl, gNe_bl, gIs_bl, gIsNot_bl, gAdd_int, gSub_int, gC_int, gI_int, gAdd_str, gAdd_tup, gAdd_lst, gNeg_int, gIx_tup, gIx_lst, gLen_tup, gLen_lst, gLen_str, gInt_int, gInt_bl, gTuple_lst, gTuple_tup, gList_lst, gList_tup, gSl_tup, gSl_lst, gSl_fl, gSl_str, srcL_tup, srcL_lst, srcL_fl, srcL_str, srcR1_int, typN, startR, List.map_cons, List.map_nil, List.length_cons, List.length_nil, Nat.reduceAdd, Nat.reduceSub, Nat.zero_add, Nat.sub_self, Nat.sub_zero, List.replicate_zero, List.replicate_succ, List.cons_append, List.nil_append, List.append_nil, List.getElem?_cons_zero, List.getElem?_cons_succ, List.set_cons_zero, List.set_cons_succ, List.set_nil, List.getElem?_nil, Option.some.injEq, exists_eq_left', exists_eq_left, exists_eq_right, reduceCtorEq, false_and, and_false, true_and, and_true, exists_false, exists_const, wipeR, Nat.zero_le, String.reduceEq, D.int.injEq, D.str.injEq, D.bl.injEq, atI_0, atI_1, atI_2, atI_3, atI_4, beq_self_eq_true, not_true_eq_false, not_false_eq_true, Int.cast_ofNat_Int, Int.reduceEq, Int.reduceLE, Int.reduceLT, Int.reduceAdd, Int.reduceSub, Int.reduceMul, Int.reduceNeg, if_true, if_false, ite_true, ite_false, Bool.false_eq_true, if_neg, if_pos, decide_eq_true_eq, Bool.not_eq_true', decide_eq_false_iff_not, eq_self_iff_true, decide_true, decide_false, Bool.not_true, Bool.not_false]
    have wf : WF [MO.lst (cells.map .int), .lst (cells.reverse.map .int)] := by
      have := hw cells; have h2 := hw cells.reverse
      simp only [WF, List.all_cons, List.all_nil, Bool.and_true] at this h2 ⊢
      rw [this, h2]; rfl
    rw [← List.map_reverse]
    exact hF _ (DK.refl (cells := cells.reverse) wf (by simp; omega) rfl)
theorem law_ok (ns : List Int) (hl : ns.length ≤ 63) : wp (den 1000 100 i_law [.fl (ns.map .int)] []) (fun d _ => d = .bl true) (fun _ _ => False) := by
  show wp (runDef false 4 (b_law 1000 (den 1000 99)) _ _) _ _
  simp only [b_law, wp_ok, wp_ret, wp_stuck, wp_bad, wp_bnd, wp_if, wp_fif, wps_ok_nx, wps_ok_rt, wps_ok_bk, wps_ok_ct, wps_ok_xc, wps_bad, wps_lft, wps_seq, wps_nil, wps_ret, wps_expr, wps_asg, wps_if, wp_run, wps_for, wps_while, wp_comp, wp_var, wp_C, wp_bin, wp_un, wp_T, wp_Tb, wp_asBl, wp_truthBl, wp_bAnd, wp_bOr, wp_bNot, wp_eIf, wp_eAnd, wp_eOr, wp_eNot, blCase_bl, wp_chain, wp_aNil, wp_aCons, wp_tup, wp_lst, wp_lstM, wp_call, wp_cl1, wp_cl2, wp_cl3, wp_cl4, wp_cl5, wp_meth, wp_isi, wp_oNone, wp_oSome, wp_sl, wp_it, wp_range1, wp_range2, wp_bYes, gEq_str, gNe_str, gEq_int, gNe_int, gEq_bl, gNe_bl, gIs_bl, gIsNot_bl, gAdd_int, gSub_int, gC_int, gI_int, gAdd_str, gAdd_tup, gAdd_lst, gNeg_int, gIx_tup, gIx_lst, gLen_tup, gLen_lst, gLen_str, gInt_int, gInt_bl, gTuple_lst, gTuple_tup, gList_lst, gList_tup, gSl_tup, gSl_lst, gSl_fl, gSl_str, srcL_tup, srcL_lst, srcL_fl, srcL_str, srcR1_int, typN, startR, List.map_cons, List.map_nil, List.length_cons, List.length_nil, Nat.reduceAdd, Nat.reduceSub, Nat.zero_add, Nat.sub_self, Nat.sub_zero, List.replicate_zero, List.replicate_succ, List.cons_append, List.nil_append, List.append_nil, List.getElem?_cons_zero, List.getElem?_cons_succ, List.set_cons_zero, List.set_cons_succ, List.set_nil, List.getElem?_nil, Option.some.injEq, exists_eq_left', exists_eq_left, exists_eq_right, reduceCtorEq, false_and, and_false, true_and, and_true, exists_false, exists_const, wipeR, Nat.zero_le, String.reduceEq, D.int.injEq, D.str.injEq, D.bl.injEq, atI_0, atI_1, atI_2, atI_3, atI_4, beq_self_eq_true, not_true_eq_false, not_false_eq_true, Int.cast_ofNat_Int, Int.reduceEq, Int.reduceLE, Int.reduceLT, Int.reduceAdd, Int.reduceSub, Int.reduceMul, Int.reduceNeg, if_true, if_false, ite_true, ite_false, Bool.false_eq_true, if_neg, if_pos, decide_eq_true_eq, Bool.not_eq_true', decide_eq_false_iff_not, eq_self_iff_true, decide_true, decide_false, Bool.not_true, Bool.not_false]
  refine deck_ok (by decide) (by decide) hl fun S0 d0 => ?_
  refine draw_ok (by decide) d0 (by decide) (by decide) fun v1 S1 a0 a1 d1 => ?_
  refine draw_ok (by decide) d1 (by decide) (by decide) fun v2 S2 b0 b1 d2 => ?_
  obtain ⟨t, rfl⟩ := Int.eq_ofNat_of_zero_le a0
  obtain ⟨w, rfl⟩ := Int.eq_ofNat_of_zero_le b0
  refine code_gen (by decide) 2 t w 99 _ _ _ _ (by omega) (by omega) (by decide) d2 fun c S3 hc d3 => ?_
  have hcv : CV 39 1000 c true := code_ok 3 t w c hc
  refine hcv 99 _ _ _ (by decide) d3.wf' ?_
  simp only [wp_ok, wp_ret, wp_stuck, wp_bad, wp_bnd, wp_if, wp_fif, wps_ok_nx, wps_ok_rt, wps_ok_bk, wps_ok_ct, wps_ok_xc, wps_bad, wps_lft, wps_seq, wps_nil, wps_ret, wps_expr, wps_asg, wps_if, wp_run, wps_for, wps_while, wp_comp, wp_var, wp_C, wp_bin, wp_un, wp_T, wp_Tb, wp_asBl, wp_truthBl, wp_bAnd, wp_bOr, wp_bNot, wp_eIf, wp_eAnd, wp_eOr, wp_eNot, blCase_bl, wp_chain, wp_aNil, wp_aCons, wp_tup, wp_lst, wp_lstM, wp_call, wp_cl1, wp_cl2, wp_cl3, wp_cl4, wp_cl5, wp_meth, wp_isi, wp_oNone, wp_oSome, wp_sl, wp_it, wp_range1, wp_range2, wp_bYes, gEq_str, gNe_str, gEq_int, gNe_int, gEq_bl, gNe_bl, gIs_bl, gIsNot_bl, gAdd_int, gSub_int, gC_int, gI_int, gAdd_str, gAdd_tup, gAdd_lst, gNeg_int, gIx_tup, gIx_lst, gLen_tup, gLen_lst, gLen_str, gInt_int, gInt_bl, gTuple_lst, gTuple_tup, gList_lst, gList_tup, gSl_tup, gSl_lst, gSl_fl, gSl_str, srcL_tup, srcL_lst, srcL_fl, srcL_str, srcR1_int, typN, startR, List.map_cons, List.map_nil, List.length_cons, List.length_nil, Nat.reduceAdd, Nat.reduceSub, Nat.zero_add, Nat.sub_self, Nat.sub_zero, List.replicate_zero, List.replicate_succ, List.cons_append, List.nil_append, List.append_nil, List.getElem?_cons_zero, List.getElem?_cons_succ, List.set_cons_zero, List.set_cons_succ, List.set_nil, List.getElem?_nil, Option.some.injEq, exists_eq_left', exists_eq_left, exists_eq_right, reduceCtorEq, false_and, and_false, true_and, and_true, exists_false, exists_const, wipeR, Nat.zero_le, String.reduceEq, D.int.injEq, D.str.injEq, D.bl.injEq, atI_0, atI_1, atI_2, atI_3, atI_4, beq_self_eq_true, not_true_eq_false, not_false_eq_true, Int.cast_ofNat_Int, Int.reduceEq, Int.reduceLE, Int.reduceLT, Int.reduceAdd, Int.reduceSub, Int.reduceMul, Int.reduceNeg, if_true, if_false, ite_true, ite_false, Bool.false_eq_true, if_neg, if_pos, decide_eq_true_eq, Bool.not_eq_true', decide_eq_false_iff_not, eq_self_iff_true, decide_true, decide_false, Bool.not_true, Bool.not_false]
  refine ⟨by decide, ?_⟩
  refine wps_forM (fun i ρ S' => DK 1 S0 S' ∧ ∃ o, ρ = [some (.fl (ns.map .int)), some (.ref 1), some c, o]) (fun _ _ _ _ => trivial) ?_ ?_ ⟨d3, none, rfl⟩
  · rintro i d ρ S' hd ⟨d4, o, rfl⟩
    refine ⟨_, rfl, ?_⟩
    simp only [wp_ok, wp_ret, wp_stuck, wp_bad, wp_bnd, wp_if, wp_fif, wps_ok_nx, wps_ok_rt, wps_ok_bk, wps_ok_ct, wps_ok_xc, wps_bad, wps_lft, wps_seq, wps_nil, wps_ret, wps_expr, wps_asg, wps_if, wp_run, wps_for, wps_while, wp_comp, wp_var, wp_C, wp_bin, wp_un, wp_T, wp_Tb, wp_asBl, wp_truthBl, wp_bAnd, wp_bOr, wp_bNot, wp_eIf, wp_eAnd, wp_eOr, wp_eNot, blCase_bl, wp_chain, wp_aNil, wp_aCons, wp_tup, wp_lst, wp_lstM, wp_call, wp_cl1, wp_cl2, wp_cl3, wp_cl4, wp_cl5, wp_meth, wp_isi, wp_oNone, wp_oSome, wp_sl, wp_it, wp_range1, wp_range2, wp_bYes, gEq_str, gNe_str, gEq_int, gNe_int, gEq_bl, gNe_bl, gIs_bl, gIsNot_bl, gAdd_int, gSub_int, gC_int, gI_int, gAdd_str, gAdd_tup, gAdd_lst, gNeg_int, gIx_tup, gIx_lst, gLen_tup, gLen_lst, gLen_str, gInt_int, gInt_bl, gTuple_lst, gTuple_tup, gList_lst, gList_tup, gSl_tup, gSl_lst, gSl_fl, gSl_str, srcL_tup, srcL_lst, srcL_fl, srcL_str, srcR1_int, typN, startR, List.map_cons, List.map_nil, List.length_cons, List.length_nil, Nat.reduceAdd, Nat.reduceSub, Nat.zero_add, Nat.sub_self, Nat.sub_zero, List.replicate_zero, List.replicate_succ, List.cons_append, List.nil_append, List.append_nil, List.getElem?_cons_zero, List.getElem?_cons_succ, List.set_cons_zero, List.set_cons_succ, List.set_nil, List.getElem?_nil, Option.some.injEq, exists_eq_left', exists_eq_left, exists_eq_right, reduceCtorEq, false_and, and_false, true_and, and_true, exists_false, exists_const, wipeR, Nat.zero_le, String.reduceEq, D.int.injEq, D.str.injEq, D.bl.injEq, atI_0, atI_1, atI_2, atI_3, atI_4, beq_self_eq_true, not_true_eq_false, not_false_eq_true, Int.cast_ofNat_Int, Int.reduceEq, Int.reduceLE, Int.reduceLT, Int.reduceAdd, Int.reduceSub, Int.reduceMul, Int.reduceNeg, if_true, if_false, ite_true, ite_false, Bool.false_eq_true, if_neg, if_pos, decide_eq_true_eq, Bool.not_eq_true', decide_eq_false_iff_not, eq_self_iff_true, decide_true, decide_false, Bool.not_true, Bool.not_false]
    refine bad_ok (j := 2) (by decide) (by decide) hc d4 fun r S5 hr d5 => ?_
    refine hr.2 99 _ _ _ (by decide) d5.wf' ?_
    simp only [wp_ok, wp_ret, wp_stuck, wp_bad, wp_bnd, wp_if, wp_fif, wps_ok_nx, wps_ok_rt, wps_ok_bk, wps_ok_ct, wps_ok_xc, wps_bad, wps_lft, wps_seq, wps_nil, wps_ret, wps_expr, wps_asg, wps_if, wp_run, wps_for, wps_while, wp_comp, wp_var, wp_C, wp_bin, wp_un, wp_T, wp_Tb, wp_asBl, wp_truthBl, wp_bAnd, wp_bOr, wp_bNot, wp_eIf, wp_eAnd, wp_eOr, wp_eNot, blCase_bl, wp_chain, wp_aNil, wp_aCons, wp_tup, wp_lst, wp_lstM, wp_call, wp_cl1, wp_cl2, wp_cl3, wp_cl4, wp_cl5, wp_meth, wp_isi, wp_oNone, wp_oSome, wp_sl, wp_it, wp_range1, wp_range2, wp_bYes, gEq_str, gNe_str, gEq_int, gNe_int, gEq_bl, gNe_bl, gIs_bl, gIsNot_bl, gAdd_int, gSub_int, gC_int, gI_int, gAdd_str, gAdd_tup, gAdd_lst, gNeg_int, gIx_tup, gIx_lst, gLen_tup, gLen_lst, gLen_str, gInt_int, gInt_bl, gTuple_lst, gTuple_tup, gList_lst, gList_tup, gSl_tup, gSl_lst, gSl_fl, gSl_str, srcL_tup, srcL_lst, srcL_fl, srcL_str, srcR1_int, typN, startR, List.map_cons, List.map_nil, List.length_cons, List.length_nil, Nat.reduceAdd, Nat.reduceSub, Nat.zero_add, Nat.sub_self, Nat.sub_zero, List.replicate_zero, List.replicate_succ, List.cons_append, List.nil_append, List.append_nil, List.getElem?_cons_zero, List.getElem?_cons_succ, List.set_cons_zero, List.set_cons_succ, List.set_nil, List.getElem?_nil, Option.some.injEq, exists_eq_left', exists_eq_left, exists_eq_right, reduceCtorEq, false_and, and_false, true_and, and_true, exists_false, exists_const, wipeR, Nat.zero_le, String.reduceEq, D.int.injEq, D.str.injEq, D.bl.injEq, atI_0, atI_1, atI_2, atI_3, atI_4, beq_self_eq_true, not_true_eq_false, not_false_eq_true, Int.cast_ofNat_Int, Int.reduceEq, Int.reduceLE, Int.reduceLT, Int.reduceAdd, Int.reduceSub, Int.reduceMul, Int.reduceNeg, if_true, if_false, ite_true, ite_false, Bool.false_eq_true, if_neg, if_pos, decide_eq_true_eq, Bool.not_eq_true', decide_eq_false_iff_not, eq_self_iff_true, decide_true, decide_false, Bool.not_true, Bool.not_false]
    exact ⟨d5, some d, rfl⟩
  · rintro ρ S' ⟨d4, o, rfl⟩
    simp only [wp_ok, wp_ret, wp_stuck, wp_bad, wp_bnd, wp_if, wp_fif, wps_ok_nx, wps_ok_rt, wps_ok_bk, wps_ok_ct, wps_ok_xc, wps_bad, wps_lft, wps_seq, wps_nil, wps_ret, wps_expr, wps_asg, wps_if, wp_run, wps_for, wps_while, wp_comp, wp_var, wp_C, wp_bin, wp_un, wp_T, wp_Tb, wp_asBl, wp_truthBl, wp_bAnd, wp_bOr, wp_bNot, wp_eIf, wp_eAnd, wp_eOr, wp_eNot, blCase_bl, wp_chain, wp_aNil, wp_aCons, wp_tup, wp_lst, wp_lstM, wp_call, wp_cl1, wp_cl2, wp_cl3, wp_cl4, wp_cl5, wp_meth, wp_isi, wp_oNone, wp_oSome, wp_sl, wp_it, wp_range1, wp_range2, wp_bYes, gEq_str, gNe_str, gEq_int, gNe_int, gEq_bl, gNe_bl, gIs_bl, gIsNot_bl, gAdd_int, gSub_int, gC_int, gI_int, gAdd_str, gAdd_tup, gAdd_lst, gNeg_int, gIx_tup, gIx_lst, gLen_tup, gLen_lst, gLen_str, gInt_int, gInt_bl, gTuple_lst, gTuple_tup, gList_lst, gList_tup, gSl_tup, gSl_lst, gSl_fl, gSl_str, srcL_tup, srcL_lst, srcL_fl, srcL_str, srcR1_int, typN, startR, List.map_cons, List.map_nil, List.length_cons, List.length_nil, Nat.reduceAdd, Nat.reduceSub, Nat.zero_add, Nat.sub_self, Nat.sub_zero, List.replicate_zero, List.replicate_succ, List.cons_append, List.nil_append, List.append_nil, List.getElem?_cons_zero, List.getElem?_cons_succ, List.set_cons_zero, List.set_cons_succ, List.set_nil, List.getElem?_nil, Option.some.injEq, exists_eq_left', exists_eq_left, exists_eq_right, reduceCtorEq, false_and, and_false, true_and, and_true, exists_false, exists_const, wipeR, Nat.zero_le, String.reduceEq, D.int.injEq, D.str.injEq, D.bl.injEq, atI_0, atI_1, atI_2, atI_3, atI_4, beq_self_eq_true, not_true_eq_false, not_false_eq_true, Int.cast_ofNat_Int, Int.reduceEq, Int.reduceLE, Int.reduceLT, Int.reduceAdd, Int.reduceSub, Int.reduceMul, Int.reduceNeg, if_true, if_false, ite_true, ite_false, Bool.false_eq_true, if_neg, if_pos, decide_eq_true_eq, Bool.not_eq_true', decide_eq_false_iff_not, eq_self_iff_true, decide_true, decide_false, Bool.not_true, Bool.not_false]
    refine hcv 99 _ _ _ (by decide) d4.wf' ?_
    simp only [wp_ok, wp_ret, wp_stuck, wp_bad, wp_bnd, wp_if, wp_fif, wps_ok_nx, wps_ok_rt, wps_ok_bk, wps_ok_ct, wps_ok_xc, wps_bad, wps_lft, wps_seq, wps_nil, wps_ret, wps_expr, wps_asg, wps_if, wp_run, wps_for, wps_while, wp_comp, wp_var, wp_C, wp_bin, wp_un, wp_T, wp_Tb, wp_asBl, wp_truthBl, wp_bAnd, wp_bOr, wp_bNot, wp_eIf, wp_eAnd, wp_eOr, wp_eNot, blCase_bl, wp_chain, wp_aNil, wp_aCons, wp_tup, wp_lst, wp_lstM, wp_call, wp_cl1, wp_cl2, wp_cl3, wp_cl4, wp_cl5, wp_meth, wp_isi, wp_oNone, wp_oSome, wp_sl, wp_it, wp_range1, wp_range2, wp_bYes, gEq_str, gNe_str, gEq_int, gNe_int, gEq_bl, gNe_bl, gIs_bl, gIsNot_bl, gAdd_int, gSub_int, gC_int, gI_int, gAdd_str, gAdd_tup, gAdd_lst, gNeg_int, gIx_tup, gIx_lst, gLen_tup, gLen_lst, gLen_str, gInt_int, gInt_bl, gTuple_lst, gTuple_tup, gList_lst, gList_tup, gSl_tup, gSl_lst, gSl_fl, gSl_str, srcL_tup, srcL_lst, srcL_fl, srcL_str, srcR1_int, typN, startR, List.map_cons, List.map_nil, List.length_cons, List.length_nil, Nat.reduceAdd, Nat.reduceSub, Nat.zero_add, Nat.sub_self, Nat.sub_zero, List.replicate_zero, List.replicate_succ, List.cons_append, List.nil_append, List.append_nil, List.getElem?_cons_zero, List.getElem?_cons_succ, List.set_cons_zero, List.set_cons_succ, List.set_nil, List.getElem?_nil, Option.some.injEq, exists_eq_left', exists_eq_left, exists_eq_right, reduceCtorEq, false_and, and_false, true_and, and_true, exists_false, exists_const, wipeR, Nat.zero_le, String.reduceEq, D.int.injEq, D.str.injEq, D.bl.injEq, atI_0, atI_1, atI_2, atI_3, atI_4, beq_self_eq_true, not_true_eq_false, not_false_eq_true, Int.cast_ofNat_Int, Int.reduceEq, Int.reduceLE, Int.reduceLT, Int.reduceAdd, Int.reduceSub, Int.reduceMul, Int.reduceNeg, if_true, if_false, ite_true, ite_false, Bool.false_eq_true, if_neg, if_pos, decide_eq_true_eq, Bool.not_eq_true', decide_eq_false_iff_not, eq_self_iff_true, decide_true, decide_false, Bool.not_true, Bool.not_false]
    refine ⟨small_line (by decide), ?_⟩
    refine code_eval (k := 0) (M := 0) (takes := 0) (e := 0) (ops := []) (fun _ _ _ h => h.elim) (by decide) (by decide) rfl rfl (fun ds h => by cases h; exact ⟨by decide, fun _ h => (List.not_mem_nil h).elim⟩) d4.wf' ?_
    simp only [regsB, List.all_nil, wp_ok, wp_ret, wp_stuck, wp_bad, wp_bnd, wp_if, wp_fif, wps_ok_nx, wps_ok_rt, wps_ok_bk, wps_ok_ct, wps_ok_xc, wps_bad, wps_lft, wps_seq, wps_nil, wps_ret, wps_expr, wps_asg, wps_if, wp_run, wps_for, wps_while, wp_comp, wp_var, wp_C, wp_bin, wp_un, wp_T, wp_Tb, wp_asBl, wp_truthBl, wp_bAnd, wp_bOr, wp_bNot, wp_eIf, wp_eAnd, wp_eOr, wp_eNot, blCase_bl, wp_chain, wp_aNil, wp_aCons, wp_tup, wp_lst, wp_lstM, wp_call, wp_cl1, wp_cl2, wp_cl3, wp_cl4, wp_cl5, wp_meth, wp_isi, wp_oNone, wp_oSome, wp_sl, wp_it, wp_range1, wp_range2, wp_bYes, gEq_str, gNe_str, gEq_int, gNe_int, gEq_bl, gNe_bl, gIs_bl, gIsNot_bl, gAdd_int, gSub_int, gC_int, gI_int, gAdd_str, gAdd_tup, gAdd_lst, gNeg_int, gIx_tup, gIx_lst, gLen_tup, gLen_lst, gLen_str, gInt_int, gInt_bl, gTuple_lst, gTuple_tup, gList_lst, gList_tup, gSl_tup, gSl_lst, gSl_fl, gSl_str, srcL_tup, srcL_lst, srcL_fl, srcL_str, srcR1_int, typN, startR, List.map_cons, List.map_nil, List.length_cons, List.length_nil, Nat.reduceAdd, Nat.reduceSub, Nat.zero_add, Nat.sub_self, Nat.sub_zero, List.replicate_zero, List.replicate_succ, List.cons_append, List.nil_append, List.append_nil, List.getElem?_cons_zero, List.getElem?_cons_succ, List.set_cons_zero, List.set_cons_succ, List.set_nil, List.getElem?_nil, Option.some.injEq, exists_eq_left', exists_eq_left, exists_eq_right, reduceCtorEq, false_and, and_false, true_and, and_true, exists_false, exists_const, wipeR, Nat.zero_le, String.reduceEq, D.int.injEq, D.str.injEq, D.bl.injEq, atI_0, atI_1, atI_2, atI_3, atI_4, beq_self_eq_true, not_true_eq_false, not_false_eq_true, Int.cast_ofNat_Int, Int.reduceEq, Int.reduceLE, Int.reduceLT, Int.reduceAdd, Int.reduceSub, Int.reduceMul, Int.reduceNeg, if_true, if_false, ite_true, ite_false, Bool.false_eq_true, if_neg, if_pos, decide_eq_true_eq, Bool.not_eq_true', decide_eq_false_iff_not, eq_self_iff_true, decide_true, decide_false, Bool.not_true, Bool.not_false]
    exact fin_cut (S1 := []) d4.wf' rfl rfl
def FU : Nat := 1000
def NN : Nat := 100
theorem main (ns : List Int) (hl : ns.length ≤ 63) : ∃ S', den FU NN i_law [.fl (ns.map .int)] [] = .ok (.bl true) S' := by
  have := law_ok ns hl
  show ∃ S', den 1000 100 i_law [.fl (ns.map .int)] [] = .ok (.bl true) S'
  cases h : den 1000 100 i_law [.fl (ns.map .int)] [] with
  | ok d S' => rw [h] at this; have e : d = .bl true := this; subst e; exact ⟨S', rfl⟩
  | ex e S' => rw [h] at this; exact this.elim
  | bad => rw [h] at this; exact this.elim
end K63

open PySem PySem.W PyProof.Rows in
set_option maxRecDepth 100000 in
set_option maxHeartbeats 0 in
theorem PySem.Challenge.cw_takeleave_k63_what_is_a_code_holds : PySem.Challenge.rw_takeleave_k63_what_is_a_code.Holds := by
  w_on; o_law; k_head; (case hw => w_witness2)
  k_fill
  refine L2.walk_of (l := PySem.Challenge.rw_takeleave_k63_what_is_a_code) (n := 63) (k := K63.NN) (x := "_law_script") (CX := fun w => L2.CX PySem.Challenge.rw_takeleave_k63_what_is_a_code.prog w) (sp := fun w => K63.spLaw _) rfl (by decide) rfl ⟨rfl, by decide, by decide⟩ (fun w h Y => PySem.W.kIn_of Y) ?F (fun _ _ a ns hl hO hS => ⟨a, ns, rfl, hO, hS, hl, fun _ => rfl⟩) (fun w H s e s' h => by obtain ⟨_, _, _, _, _, _, _, _, _, _, _, _, z⟩ := h; exact z)
  case F =>
    intro w mg fa h KX G hmg
    refine' K63.all_mk K63.FU K63.NN K63.main KX G hmg ?a1 ?l1 ?c1 ?k1 ?a2 ?l2 ?c2 ?k2 ?a3 ?l3 ?c3 ?k3 ?a4 ?l4 ?c4 ?k4 ?a5 ?l5 ?c5 ?k5 ?a6 ?l6 ?c6 ?k6 ?a7 ?l7 ?c7 ?k7 ?a8 ?l8 ?c8 ?k8 ?a9 ?l9 ?c9 ?k9 ?a10 ?l10 ?c10 ?k10 ?a11 ?l11 ?c11 ?k11 ?a12 ?l12 ?c12 ?k12 ?a13 ?l13 ?c13 ?k13 ?a14 ?l14 ?c14 ?k14 ?a15 ?l15 ?c15 ?k15 ?a16 ?l16 ?c16 ?k16 ?a17 ?l17 ?c17 ?k17 ?a18 ?l18 ?c18 ?k18 ?a19 ?l19 ?c19 ?k19 ?a20 ?l20 ?c20 ?k20 ?a21 ?l21 ?c21 ?k21 ?a22 ?l22 ?c22 ?k22 ?a23 ?l23 ?c23 ?k23 ?a24 ?l24 ?c24 ?k24 ?a25 ?l25 ?c25 ?k25 ?a26 ?l26 ?c26 ?k26 ?a27 ?l27 ?c27 ?k27 ?a28 ?l28 ?c28 ?k28 ?z_all ?z_bool ?z_int ?z_isinstance ?z_len ?z_list ?z_range ?z_str ?z_sum ?z_tuple ?n_BASICS ?q_BASICS ?n_LETTERS ?n_MOST_LEFT ?n_MOST_SIGNS ?n_NUMBERS ?n_PAIRS ?q_PAIRS ?n_SMALL
    (case a1 => k_is)
    (case l1 => k_is)
    (case c1 => k_is)
    (case k1 => k_is)
    (case a2 => k_is)
    (case l2 => k_is)
    (case c2 => k_is)
    (case k2 => k_is)
    (case a3 => k_is)
    (case l3 => k_is)
    (case c3 => k_is)
    (case k3 => k_is)
    (case a4 => k_is)
    (case l4 => k_is)
    (case c4 => k_is)
    (case k4 => k_is)
    (case a5 => k_is)
    (case l5 => k_is)
    (case c5 => k_is)
    (case k5 => k_is)
    (case a6 => k_is)
    (case l6 => k_is)
    (case c6 => k_is)
    (case k6 => k_is)
    (case a7 => k_is)
    (case l7 => k_is)
    (case c7 => k_is)
    (case k7 => k_is)
    (case a8 => k_is)
    (case l8 => k_is)
    (case c8 => k_is)
    (case k8 => k_is)
    (case a9 => k_is)
    (case l9 => k_is)
    (case c9 => k_is)
    (case k9 => k_is)
    (case a10 => k_is)
    (case l10 => k_is)
    (case c10 => k_is)
    (case k10 => k_is)
    (case a11 => k_is)
    (case l11 => k_is)
    (case c11 => k_is)
    (case k11 => k_is)
    (case a12 => k_is)
    (case l12 => k_is)
    (case c12 => k_is)
    (case k12 => k_is)
    (case a13 => k_is)
    (case l13 => k_is)
    (case c13 => k_is)
    (case k13 => k_is)
    (case a14 => k_is)
    (case l14 => k_is)
    (case c14 => k_is)
    (case k14 => k_is)
    (case a15 => k_is)
    (case l15 => k_is)
    (case c15 => k_is)
    (case k15 => k_is)
    (case a16 => k_is)
    (case l16 => k_is)
    (case c16 => k_is)
    (case k16 => k_is)
    (case a17 => k_is)
    (case l17 => k_is)
    (case c17 => k_is)
    (case k17 => k_is)
    (case a18 => k_is)
    (case l18 => k_is)
    (case c18 => k_is)
    (case k18 => k_is)
    (case a19 => k_is)
    (case l19 => k_is)
    (case c19 => k_is)
    (case k19 => k_is)
    (case a20 => k_is)
    (case l20 => k_is)
    (case c20 => k_is)
    (case k20 => k_is)
    (case a21 => k_is)
    (case l21 => k_is)
    (case c21 => k_is)
    (case k21 => k_is)
    (case a22 => k_is)
    (case l22 => k_is)
    (case c22 => k_is)
    (case k22 => k_is)
    (case a23 => k_is)
    (case l23 => k_is)
    (case c23 => k_is)
    (case k23 => k_is)
    (case a24 => k_is)
    (case l24 => k_is)
    (case c24 => k_is)
    (case k24 => k_is)
    (case a25 => k_is)
    (case l25 => k_is)
    (case c25 => k_is)
    (case k25 => k_is)
    (case a26 => k_is)
    (case l26 => k_is)
    (case c26 => k_is)
    (case k26 => k_is)
    (case a27 => k_is)
    (case l27 => k_is)
    (case c27 => k_is)
    (case k27 => k_is)
    (case a28 => k_is)
    (case l28 => k_is)
    (case c28 => k_is)
    (case k28 => k_is)
    (case z_all => k_is)
    (case z_bool => k_is)
    (case z_int => k_is)
    (case z_isinstance => k_is)
    (case z_len => k_is)
    (case z_list => k_is)
    (case z_range => k_is)
    (case z_str => k_is)
    (case z_sum => k_is)
    (case z_tuple => k_is)
    (case n_BASICS => k_is)
    (case q_BASICS => k_is)
    (case n_LETTERS => k_is)
    (case n_MOST_LEFT => k_is)
    (case n_MOST_SIGNS => k_is)
    (case n_NUMBERS => k_is)
    (case n_PAIRS => k_is)
    (case q_PAIRS => k_is)
    (case n_SMALL => k_is)
