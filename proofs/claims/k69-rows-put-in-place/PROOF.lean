import PyProof.Rows.All
import Wide.All
import OpenK.AllK
import Wide.FinOn
import HandS.ForSpec
import HandS.ForMost
import HandS.IsInst
import HandS.Wide
import HandS.EndBits
import HandS.TupAny
import HandS.Flow
import HandS.Style
import HandS.Deep
import HandS.Rev
import HandS.TupMul
import HandS.Iter
import PySem.Challenge.RW_takeleave_k69_rows_put_in_place
set_option Elab.async false
set_option linter.all false
set_option maxRecDepth 100000
set_option maxHeartbeats 4000000
set_option autoImplicit false
/-! DL1: data as trees over a small store of the lists and dicts that change; results; the relation with the heap. -/
namespace DL
open PySem L2

inductive D where
  | non | bl (b : Bool) | int (i : Int) | str (x : Str) | tup (xs : List D) | lst (xs : List D) | fl (xs : List D) | ref (n : Nat)
inductive MO where
  | lst (xs : List D) | dct (kvs : List (Key × D))
abbrev Sto := List MO
/-- where the stored things stand; x: lists in the making, that no value may name -/
structure Mu where
  v : List Addr
  x : List Addr
structure Exc where
  cls : Str
  fs : List (Str × D)
inductive R (α : Type) where
  | ok (a : α) (S : Sto) | ex (e : Exc) (S : Sto) | bad
abbrev M (α : Type) := Sto → R α
def ret {α : Type} (a : α) : M α := fun S => .ok a S
def stuck {α : Type} : M α := fun _ => .bad
def raiz {α : Type} (e : Exc) : M α := fun S => .ex e S
def bnd {α β : Type} (m : M α) (k : α → M β) : M β := fun S => match m S with
  | .ok a S' => k a S'
  | .ex e S' => .ex e S'
  | .bad => .bad
abbrev Rho := List (Option D)

mutual
inductive RD (K : PySem.W.Frag) (μ : Mu) (H : Hp) : D → V → Prop
  | non : RD K μ H .non .non
  | bl (b : Bool) : RD K μ H (.bl b) (.bl b)
  | int (i : Int) : RD K μ H (.int i) (.int i)
  | str (x : Str) : RD K μ H (.str x) (.str x)
  | tup {a : Addr} {vs : List V} {ds : List D} : SqT K H a vs → RDs K μ H ds vs → RD K μ H (.tup ds) (.ref a)
  | fl {a : Addr} {vs : List V} {ds : List D} : ((∃ o, H a = some (.frz o (.lst vs))) ∨ (∃ (o : Obj) (its : Array Value) (n : Nat), K.lookup a = some o ∧ o.cls = .type "list" ∧ o.dict = none ∧ o.data = .seq its n ∧ its.size ≤ sizeLine ∧ Vals vs its.toList)) →
      RDs K μ H ds vs → RD K μ H (.fl ds) (.ref a)
  | lst {a : Addr} {vs : List V} {ds : List D} : H a = some (.lst vs) → (a ∉ μ.v ∧ a ∉ μ.x) → RDs K μ H ds vs → RD K μ H (.lst ds) (.ref a)
  | ref {n : Nat} {a : Addr} : μ.v[n]? = some a → RD K μ H (.ref n) (.ref a)
inductive RDs (K : PySem.W.Frag) (μ : Mu) (H : Hp) : List D → List V → Prop
  | nil : RDs K μ H [] []
  | cons {d : D} {ds : List D} {v : V} {vs : List V} : RD K μ H d v → RDs K μ H ds vs → RDs K μ H (d :: ds) (v :: vs)
end

def RKs (K : PySem.W.Frag) (μ : Mu) (H : Hp) : List (Key × D) → List (Key × V) → Prop := Paired fun p q => p.1 = q.1 ∧ RD K μ H p.2 q.2
def RFs (K : PySem.W.Frag) (μ : Mu) (H : Hp) : List (Str × D) → List (Str × V) → Prop := Paired fun p q => p.1 = q.1 ∧ RD K μ H p.2 q.2
def RM (K : PySem.W.Frag) (μ : Mu) (H : Hp) (a : Addr) : MO → Prop
  | .lst ds => ∃ vs, H a = some (.lst vs) ∧ RDs K μ H ds vs
  | .dct kvs => ∃ ws, H a = some (.dK ws) ∧ RKs K μ H kvs ws
def RX (K : PySem.W.Frag) (mg : Str → Option Value) (μ : Mu) (H : Hp) (e : Exc) (c : Value) (od : Option Addr) : Prop :=
  (∃ C, mg e.cls = some (.ref C) ∧ c = .ref C) ∧ match od with
    | none => e.fs = []
    | some d => ∃ fs, H d = some (.xd fs) ∧ RFs K μ H e.fs fs

structure Rel (K : PySem.W.Frag) (μ : Mu) (S : Sto) (H : Hp) : Prop where
  len : μ.v.length = S.length
  nd : μ.v.Nodup
  obj : ∀ (i : Nat) (a : Addr) (m : MO), μ.v[i]? = some a → S[i]? = some m → RM K μ H a m
  hid : ∀ a ∈ μ.x, H a ≠ none
  apt : ∀ a ∈ μ.v, a ∉ μ.x
structure Stp (μ : Mu) (H : Hp) (μ' : Mu) (H' : Hp) : Prop where
  pre : ∃ ν, μ' = ⟨μ.v ++ ν, μ.x⟩ ∧ ∀ p ∈ ν, H p = none
  keep : ∀ a u, H a = some u → a ∉ μ.v → H' a = some u
  thr : ∀ a, H a ≠ none → H' a ≠ none

theorem Stp.refl {μ : Mu} {H : Hp} : Stp μ H μ H := ⟨⟨[], by simp, by simp⟩, fun _ _ h _ => h, fun _ h => h⟩
theorem Stp.trans {μ μ1 μ2 : Mu} {H H1 H2 : Hp} (a : Stp μ H μ1 H1) (b : Stp μ1 H1 μ2 H2) : Stp μ H μ2 H2 := by
  obtain ⟨⟨ν1, rfl, f1⟩, k1, t1⟩ := a
  obtain ⟨⟨ν2, rfl, f2⟩, k2, t2⟩ := b
  refine ⟨⟨ν1 ++ ν2, by simp, fun p hp => ?_⟩, fun x u h hx => ?_, fun x h => t2 x (t1 x h)⟩
  · rcases List.mem_append.mp hp with q | q
    · exact f1 p q
    · by_cases h : H p = none
      · exact h
      · exact absurd (f2 p q) (t1 p h)
  · refine k2 x u (k1 x u h hx) fun q => ?_
    rcases List.mem_append.mp q with q | q
    · exact hx q
    · rw [f1 x q] at h; cases h
/-- a new object -/
theorem Stp.new {μ : Mu} {H : Hp} {p : Addr} {o : HO} (h : H p = none) : Stp μ H μ (upd H p o) :=
  ⟨⟨[], by simp, by simp⟩, fun a u e _ => by rw [upd_ne (ne_of_none e h)]; exact e, fun a e => by
    by_cases z : a = p
    · subst z; rw [upd_same]; simp
    · rw [upd_ne z]; exact e⟩
/-- a stored object changes -/
theorem Stp.put {μ : Mu} {H : Hp} {p : Addr} {o : HO} (h : p ∈ μ.v) : Stp μ H μ (upd H p o) :=
  ⟨⟨[], by simp, by simp⟩, fun a u e z => by rw [upd_ne (fun q => z (by rw [q]; exact h))]; exact e, fun a e => by
    by_cases z : a = p
    · subst z; rw [upd_same]; simp
    · rw [upd_ne z]; exact e⟩
def Mu.push (μ : Mu) (p : Addr) : Mu := ⟨μ.v ++ [p], μ.x⟩
def Mu.cut (μ : Mu) (n : Nat) : Mu := ⟨μ.v.take n, μ.x⟩
theorem Stp.push {μ μ' : Mu} {H H' : Hp} {p : Addr} (s : Stp μ H μ' H') (h : H p = none) : Stp μ H (μ'.push p) H' := by
  obtain ⟨⟨ν, rfl, f⟩, k, t⟩ := s
  refine ⟨⟨ν ++ [p], by simp [Mu.push], fun q hq => ?_⟩, k, t⟩
  rcases List.mem_append.mp hq with z | z
  · exact f q z
  · simp at z; rw [z]; exact h
theorem Stp.get {μ μ' : Mu} {H H' : Hp} (s : Stp μ H μ' H') {i : Nat} {a : Addr} (h : μ.v[i]? = some a) : μ'.v[i]? = some a := by
  obtain ⟨⟨ν, rfl, f⟩, k, t⟩ := s
  rw [List.getElem?_append_left (List.getElem?_eq_some_iff.mp h).1]; exact h
theorem Stp.out {μ μ' : Mu} {H H' : Hp} (s : Stp μ H μ' H') {a : Addr} {u : HO} (h : H a = some u) (h0 : a ∉ μ.v ∧ a ∉ μ.x) : a ∉ μ'.v ∧ a ∉ μ'.x := by
  obtain ⟨⟨ν, rfl, f⟩, k, t⟩ := s
  refine ⟨fun z => ?_, h0.2⟩
  rcases List.mem_append.mp z with z | z
  · exact h0.1 z
  · rw [f a z] at h; cases h
theorem Stp.x {μ μ' : Mu} {H H' : Hp} (s : Stp μ H μ' H') : μ'.x = μ.x := by
  obtain ⟨⟨ν, rfl, f⟩, k, t⟩ := s; rfl
/-- a new object, taken into the store -/
theorem Stp.alloc {μ : Mu} {H : Hp} {p : Addr} {o : HO} (h : H p = none) : Stp μ H (μ.push p) (upd H p o) := Stp.push (Stp.new h) h

section
variable {K : PySem.W.Frag} {μ μ' : Mu} {S : Sto} {H H' : Hp}
theorem Rel.mem (r : Rel K μ S H) {a : Addr} (h : a ∈ μ.v) : ∃ (i : Nat) (m : MO), μ.v[i]? = some a ∧ S[i]? = some m ∧ RM K μ H a m := by
  obtain ⟨i, hi⟩ := List.mem_iff_getElem?.mp h
  have hl := (List.getElem?_eq_some_iff.mp hi).1
  rw [r.len] at hl
  exact ⟨i, S[i], hi, List.getElem?_eq_getElem hl, r.obj i a _ hi (List.getElem?_eq_getElem hl)⟩
theorem Rel.kind (r : Rel K μ S H) {a : Addr} (h : a ∈ μ.v) : (∃ vs, H a = some (.lst vs)) ∨ ∃ ws, H a = some (.dK ws) := by
  obtain ⟨i, m, _, _, q⟩ := r.mem h
  cases m with
  | lst ds => obtain ⟨vs, e, _⟩ := q; exact .inl ⟨vs, e⟩
  | dct kvs => obtain ⟨ws, e, _⟩ := q; exact .inr ⟨ws, e⟩
theorem Rel.ntup (r : Rel K μ S H) {a : Addr} {vs : List V} (h : H a = some (.tup vs))   : a ∉ μ.v := fun z => by
  rcases r.kind z with ⟨_, e⟩ | ⟨_, e⟩ <;> rw [h] at e <;> cases e
theorem Rel.nfrz (r : Rel K μ S H) {a : Addr} {o : Obj} {u : HO} (h : H a = some (.frz o u))   : a ∉ μ.v := fun z => by
  rcases r.kind z with ⟨_, e⟩ | ⟨_, e⟩ <;> rw [h] at e <;> cases e
theorem Rel.there (r : Rel K μ S H) {a : Addr} (h : a ∈ μ.v) : H a ≠ none := fun z => by
  rcases r.kind h with ⟨_, e⟩ | ⟨_, e⟩ <;> rw [z] at e <;> cases e
theorem SqT.stp {a : Addr} {vs : List V} (h : SqT K H a vs) (r : Rel K μ S H) (s : Stp μ H μ' H') : SqT K H' a vs := by
  rcases h with (h | ⟨o, h⟩) | h
  · exact .inl (.inl (s.keep a _ h (r.ntup h)))
  · exact .inl (.inr ⟨o, s.keep a _ h (r.nfrz h)⟩)
  · exact .inr h
mutual
theorem RD.stp (r : Rel K μ S H) (s : Stp μ H μ' H') : ∀ (d : D) (v : V), RD K μ H d v → RD K μ' H' d v
  | .non, _, h => by cases h; exact .non
  | .bl _, _, h => by cases h; exact .bl _
  | .int _, _, h => by cases h; exact .int _
  | .str _, _, h => by cases h; exact .str _
  | .tup ds, _, h => by
    cases h with
    | tup h1 h2 => exact .tup (SqT.stp h1 r s) (RDs.stp r s ds _ h2)
  | .fl ds, _, h => by
    cases h with
    | fl h1 h2 =>
      refine .fl ?_ (RDs.stp r s ds _ h2)
      rcases h1 with ⟨o, h1⟩ | h1
      · exact .inl ⟨o, s.keep _ _ h1 (r.nfrz h1)⟩
      · exact .inr h1
  | .lst ds, _, h => by
    cases h with
    | lst h1 h0 h2 => exact .lst (s.keep _ _ h1 h0.1) (s.out h1 h0) (RDs.stp r s ds _ h2)
  | .ref n, _, h => by
    cases h with
    | ref h1 => exact .ref (s.get h1)
theorem RDs.stp (r : Rel K μ S H) (s : Stp μ H μ' H') : ∀ (ds : List D) (vs : List V), RDs K μ H ds vs → RDs K μ' H' ds vs
  | [], _, h => by cases h; exact .nil
  | d :: ds, _, h => by
    cases h with
    | cons h1 h2 => exact .cons (RD.stp r s d _ h1) (RDs.stp r s ds _ h2)
end
theorem RD.step {d : D} {v : V} (h : RD K μ H d v) (r : Rel K μ S H) (s : Stp μ H μ' H') : RD K μ' H' d v := RD.stp r s d v h
theorem RDs.step {ds : List D} {vs : List V} (h : RDs K μ H ds vs) (r : Rel K μ S H) (s : Stp μ H μ' H') : RDs K μ' H' ds vs := RDs.stp r s ds vs h
theorem RKs.step {ks : List (Key × D)} {ws : List (Key × V)} (h : RKs K μ H ks ws) (r : Rel K μ S H) (s : Stp μ H μ' H') : RKs K μ' H' ks ws := by
  unfold RKs at *
  exact Paired.mapP h fun p q z => ⟨z.1, z.2.step r s⟩
theorem RDs.length : ∀ {ds : List D} {vs : List V}, RDs K μ H ds vs → ds.length = vs.length
  | [], _, h => by cases h; rfl
  | d :: ds, _, h => by
    cases h with
    | cons h1 h2 => simp [RDs.length h2]
theorem RDs.get : ∀ {ds : List D} {vs : List V} {i : Nat} {d : D}, RDs K μ H ds vs → ds[i]? = some d → ∃ v, vs[i]? = some v ∧ RD K μ H d v
  | [], _, _, _, _, e => by simp at e
  | d :: ds, _, i, x, h, e => by
    cases h with
    | cons h1 h2 =>
      cases i with
      | zero => simp at e; subst e; exact ⟨_, by simp, h1⟩
      | succ i => simp at e; obtain ⟨v, q1, q2⟩ := RDs.get h2 e; exact ⟨v, by simpa using q1, q2⟩
theorem RDs.getv : ∀ {ds : List D} {vs : List V} {i : Nat} {v : V}, RDs K μ H ds vs → vs[i]? = some v → ∃ d, ds[i]? = some d ∧ RD K μ H d v
  | [], _, i, _, h, e => by cases h; simp at e
  | d :: ds, _, i, x, h, e => by
    cases h with
    | cons h1 h2 =>
      cases i with
      | zero => simp at e; subst e; exact ⟨_, by simp, h1⟩
      | succ i => simp at e; obtain ⟨v, q1, q2⟩ := RDs.getv h2 e; exact ⟨v, by simpa using q1, q2⟩
theorem RDs.append : ∀ {ds es : List D} {vs ws : List V}, RDs K μ H ds vs → RDs K μ H es ws → RDs K μ H (ds ++ es) (vs ++ ws)
  | [], _, _, _, h, g => by cases h; exact g
  | d :: ds, _, _, _, h, g => by
    cases h with
    | cons h1 h2 => exact .cons h1 (RDs.append h2 g)
theorem RDs.take : ∀ {ds : List D} {vs : List V} (n : Nat), RDs K μ H ds vs → RDs K μ H (ds.take n) (vs.take n)
  | [], _, n, h => by cases h; simp; exact .nil
  | d :: ds, _, n, h => by
    cases h with
    | cons h1 h2 =>
      cases n with
      | zero => simp; exact .nil
      | succ n => simp only [List.take_succ_cons]; exact .cons h1 (RDs.take n h2)
theorem RDs.drop : ∀ {ds : List D} {vs : List V} (n : Nat), RDs K μ H ds vs → RDs K μ H (ds.drop n) (vs.drop n)
  | [], _, n, h => by cases h; simp; exact .nil
  | d :: ds, _, n, h => by
    cases h with
    | cons h1 h2 =>
      cases n with
      | zero => simp; exact .cons h1 h2
      | succ n => simp only [List.drop_succ_cons]; exact RDs.drop n h2
theorem RDs.reverse : ∀ {ds : List D} {vs : List V}, RDs K μ H ds vs → RDs K μ H ds.reverse vs.reverse
  | [], _, h => by cases h; exact .nil
  | d :: ds, _, h => by
    cases h with
    | cons h1 h2 => simp only [List.reverse_cons]; exact (RDs.reverse h2).append (.cons h1 .nil)
theorem RDs.set : ∀ {ds : List D} {vs : List V} (i : Nat) {d : D} {v : V}, RDs K μ H ds vs → RD K μ H d v → RDs K μ H (ds.set i d) (vs.set i v)
  | [], _, i, _, _, h, _ => by cases h; exact .nil
  | d :: ds, _, i, x, y, h, g => by
    cases h with
    | cons h1 h2 =>
      cases i with
      | zero => simp; exact .cons g h2
      | succ i => simp only [List.set_cons_succ]; exact .cons h1 (RDs.set i h2 g)
theorem RDs.eraseIdx : ∀ {ds : List D} {vs : List V} (i : Nat), RDs K μ H ds vs → RDs K μ H (ds.eraseIdx i) (vs.eraseIdx i)
  | [], _, i, h => by cases h; simp; exact .nil
  | d :: ds, _, i, h => by
    cases h with
    | cons h1 h2 =>
      cases i with
      | zero => simp; exact h2
      | succ i => simp only [List.eraseIdx_cons_succ]; exact .cons h1 (RDs.eraseIdx i h2)
theorem RDs.dropLast {ds : List D} {vs : List V} (h : RDs K μ H ds vs) : RDs K μ H ds.dropLast vs.dropLast := by
  rw [List.dropLast_eq_take, List.dropLast_eq_take, h.length]; exact h.take _
theorem RDs.ints : ∀ {ns : List Int} {vs : List V}, RDs K μ H (ns.map D.int) vs → vs = ns.map V.int
  | [], _, h => by cases h; rfl
  | n :: ns, _, h => by
    cases h with
    | cons h1 h2 => cases h1; simp [RDs.ints h2]
theorem RDs.of_ints : ∀ (ns : List Int), RDs K μ H (ns.map D.int) (ns.map V.int)
  | [] => .nil
  | n :: ns => .cons (.int n) (RDs.of_ints ns)
theorem RDs.strs : ∀ {ns : List Str} {vs : List V}, RDs K μ H (ns.map D.str) vs → vs = ns.map V.str
  | [], _, h => by cases h; rfl
  | n :: ns, _, h => by
    cases h with
    | cons h1 h2 => cases h1; simp [RDs.strs h2]
theorem RDs.of_strs : ∀ (ns : List Str), RDs K μ H (ns.map D.str) (ns.map V.str)
  | [] => .nil
  | n :: ns => .cons (.str n) (RDs.of_strs ns)
theorem RDs.bls : ∀ {ns : List Bool} {vs : List V}, RDs K μ H (ns.map D.bl) vs → vs = ns.map V.bl
  | [], _, h => by cases h; rfl
  | n :: ns, _, h => by
    cases h with
    | cons h1 h2 => cases h1; simp [RDs.bls h2]
/-- objects untouched keep what they are -/
theorem RM.step {a : Addr} {m : MO} (h : RM K μ H a m) (e : H' a = H a) (r : Rel K μ S H) (s : Stp μ H μ' H') : RM K μ' H' a m := by
  cases m with
  | lst ds => obtain ⟨vs, q, z⟩ := h; exact ⟨vs, e.trans q, z.step r s⟩
  | dct kvs => obtain ⟨ws, q, z⟩ := h; exact ⟨ws, e.trans q, z.step r s⟩
/-- a heap that grows by a new object -/
theorem Rel.new {p : Addr} {o : HO} (r : Rel K μ S H) (h : H p = none) : Rel K μ S (upd H p o) := by
  refine ⟨r.len, r.nd, fun i a m h1 h2 => (r.obj i a m h1 h2).step (upd_ne fun z => ?_) r (Stp.new h), fun a ha => (Stp.new (μ := μ) h).thr a (r.hid a ha), r.apt⟩
  subst z
  exact r.there (List.mem_of_getElem? h1) h
/-- the i-th object changes -/
theorem Rel.put {i : Nat} {p : Addr} {o : HO} {m : MO} (r : Rel K μ S H) (h : μ.v[i]? = some p) (hm : RM K μ (upd H p o) p m) : Rel K μ (S.set i m) (upd H p o) := by
  have hp : p ∈ μ.v := List.mem_of_getElem? h
  refine ⟨by rw [List.length_set]; exact r.len, r.nd, fun j a n h1 h2 => ?_, fun a ha => (Stp.put (μ := μ) hp).thr a (r.hid a ha), r.apt⟩
  by_cases hij : i = j
  · subst hij
    rw [h] at h1; cases h1
    have hl := (List.getElem?_eq_some_iff.mp h).1
    rw [r.len] at hl
    rw [List.getElem?_set_self hl] at h2
    cases h2
    exact hm
  · rw [List.getElem?_set_ne hij] at h2
    refine (r.obj j a n h1 h2).step (upd_ne fun z => hij ?_) r (Stp.put hp)
    subst z
    obtain ⟨l1, e1⟩ := List.getElem?_eq_some_iff.mp h
    obtain ⟨l2, e2⟩ := List.getElem?_eq_some_iff.mp h1
    exact (List.getElem_inj r.nd).mp (e1.trans e2.symm)
/-- a new object is taken into the store -/
theorem Rel.alloc {p : Addr} {o : HO} {m : MO} (r : Rel K μ S H) (h : H p = none) (hm : RM K (μ.push p) (upd H p o) p m) : Rel K (μ.push p) (S ++ [m]) (upd H p o) := by
  have hp : p ∉ μ.v := fun z => r.there z h
  refine ⟨by simp [r.len, Mu.push], ?_, fun i a n h1 h2 => ?_, fun a ha => (Stp.alloc (μ := μ) h).thr a (r.hid a ha), fun a ha hx => ?_⟩
  · unfold Mu.push
    rw [List.nodup_append]
    refine ⟨r.nd, by simp, fun a ha b hb => ?_⟩
    simp at hb; subst hb
    exact fun z => hp (by rw [← z]; exact ha)
  · unfold Mu.push at h1
    by_cases hi : i < μ.v.length
    · rw [List.getElem?_append_left hi] at h1
      rw [List.getElem?_append_left (by rw [← r.len]; exact hi)] at h2
      exact (r.obj i a n h1 h2).step (upd_ne fun z => hp (by rw [← z]; exact List.mem_of_getElem? h1)) r (Stp.alloc h)
    · have hi' : i = μ.v.length := by
        have := (List.getElem?_eq_some_iff.mp h1).1
        simp at this; omega
      subst hi'
      rw [List.getElem?_append_right (Nat.le_refl _)] at h1
      rw [r.len, List.getElem?_append_right (Nat.le_refl _)] at h2
      simp at h1 h2
      subst h1 h2
      exact hm
  · rcases List.mem_append.mp (show a ∈ μ.v ++ [p] from ha) with q | q
    · exact r.apt a q hx
    · simp at q; subst q; exact r.hid a hx h

/-! the store cut back at a def's end -/
mutual
def D.lo (n : Nat) : D → Bool
  | .ref k => decide (k < n)
  | .tup xs => D.los n xs
  | .lst xs => D.los n xs
  | .fl xs => D.los n xs
  | _ => true
def D.los (n : Nat) : List D → Bool
  | [] => true
  | x :: xs => D.lo n x && D.los n xs
end
def loK (n : Nat) : List (Key × D) → Bool
  | [] => true
  | x :: xs => D.lo n x.2 && loK n xs
def MO.lo (n : Nat) : MO → Bool
  | .lst xs => D.los n xs
  | .dct ks => loK n ks
mutual
theorem RD.cut {n : Nat} : ∀ (d : D) (v : V), RD K μ H d v → d.lo n = true → RD K (μ.cut n) H d v
  | .non, _, h, _ => by cases h; exact .non
  | .bl _, _, h, _ => by cases h; exact .bl _
  | .int _, _, h, _ => by cases h; exact .int _
  | .str _, _, h, _ => by cases h; exact .str _
  | .tup ds, _, h, b => by
    cases h with
    | tup h1 h2 => exact .tup h1 (RDs.cut ds _ h2 (by simpa [D.lo] using b))
  | .fl ds, _, h, b => by
    cases h with
    | fl h1 h2 => exact .fl h1 (RDs.cut ds _ h2 (by simpa [D.lo] using b))
  | .lst ds, _, h, b => by
    cases h with
    | lst h1 h0 h2 => exact .lst h1 ⟨fun z => h0.1 (List.mem_of_mem_take z), h0.2⟩ (RDs.cut ds _ h2 (by simpa [D.lo] using b))
  | .ref k, _, h, b => by
    cases h with
    | ref h1 => exact .ref (by unfold Mu.cut; rw [List.getElem?_take_of_lt (by simpa [D.lo] using b)]; exact h1)
theorem RDs.cut {n : Nat} : ∀ (ds : List D) (vs : List V), RDs K μ H ds vs → D.los n ds = true → RDs K (μ.cut n) H ds vs
  | [], _, h, _ => by cases h; exact .nil
  | d :: ds, _, h, b => by
    have b' : d.lo n = true ∧ D.los n ds = true := by simpa [D.los] using b
    cases h with
    | cons h1 h2 => exact .cons (RD.cut d _ h1 b'.1) (RDs.cut ds _ h2 b'.2)
end
theorem RKs.cut {n : Nat} : ∀ {ks : List (Key × D)} {ws : List (Key × V)}, RKs K μ H ks ws → loK n ks = true → RKs K (μ.cut n) H ks ws
  | [], _, h, _ => by unfold RKs at *; cases h; exact .nil
  | k :: ks, _, h, b => by
    have b' : k.2.lo n = true ∧ loK n ks = true := by simpa [loK] using b
    unfold RKs at *
    cases h with
    | cons h1 h2 => exact .cons ⟨h1.1, RD.cut _ _ h1.2 b'.1⟩ (RKs.cut h2 b'.2)
theorem RM.cut {n : Nat} {a : Addr} {m : MO} (h : RM K μ H a m) (b : m.lo n = true) : RM K (μ.cut n) H a m := by
  cases m with
  | lst ds => obtain ⟨vs, q, z⟩ := h; exact ⟨vs, q, z.cut _ _ b⟩
  | dct kvs => obtain ⟨ws, q, z⟩ := h; exact ⟨ws, q, RKs.cut z b⟩
theorem Rel.cut {n : Nat} (r : Rel K μ S H) (b : (S.take n).all (MO.lo n) = true) : Rel K (μ.cut n) (S.take n) H := by
  refine ⟨by simp [r.len, Mu.cut], r.nd.sublist (List.take_sublist _ _), fun i a m h1 h2 => ?_, r.hid, fun a ha => r.apt a (List.mem_of_mem_take ha)⟩
  unfold Mu.cut at h1
  have hb : m.lo n = true := List.all_eq_true.mp b m (List.mem_of_getElem? h2)
  have hi : i < n := by
    have := (List.getElem?_eq_some_iff.mp h1).1
    simp at this; omega
  rw [List.getElem?_take_of_lt hi] at h1 h2
  exact (r.obj i a m h1 h2).cut hb
/-- a list that leaves the store -/
theorem RD.freed {n k : Nat} {ds : List D} {v : V} (r : Rel K μ S H) (h : RD K μ H (.ref k) v) (hk : n ≤ k) (e : S[k]? = some (.lst ds)) (b : D.los n ds = true) : RD K (μ.cut n) H (.lst ds) v := by
  cases h with
  | @ref _ a h1 =>
    obtain ⟨vs, q, z⟩ := r.obj k a _ h1 e
    refine .lst q ⟨fun hm => ?_, r.apt a (List.mem_of_getElem? h1)⟩ (z.cut _ _ b)
    unfold Mu.cut at hm
    obtain ⟨j, hj⟩ := List.mem_iff_getElem?.mp hm
    have hjn : j < n := by
      have := (List.getElem?_eq_some_iff.mp hj).1
      simp at this; omega
    rw [List.getElem?_take_of_lt hjn] at hj
    obtain ⟨l1, e1⟩ := List.getElem?_eq_some_iff.mp hj
    obtain ⟨l2, e2⟩ := List.getElem?_eq_some_iff.mp h1
    have := (List.getElem_inj r.nd).mp (e1.trans e2.symm)
    omega
theorem Stp.cut (s : Stp μ H μ' H') : Stp μ H (μ'.cut μ.v.length) H' := by
  obtain ⟨⟨ν, rfl, f⟩, k, t⟩ := s
  refine ⟨⟨[], by simp [Mu.cut], by simp⟩, k, t⟩
end

/-! ### a list in the making -/
section
variable {K : PySem.W.Frag} {μ : Mu} {S : Sto} {H : Hp}
def Mu.hide (μ : Mu) (p : Addr) : Mu := ⟨μ.v, p :: μ.x⟩
mutual
theorem RD.hide {p : Addr} {o : HO} (hp : H p = none) : ∀ (d : D) (v : V), RD K μ H d v → RD K (μ.hide p) (upd H p o) d v
  | .non, _, h => by cases h; exact .non
  | .bl _, _, h => by cases h; exact .bl _
  | .int _, _, h => by cases h; exact .int _
  | .str _, _, h => by cases h; exact .str _
  | .tup ds, _, h => by
    cases h with
    | tup h1 h2 =>
      refine .tup ?_ (RDs.hide hp ds _ h2)
      rcases h1 with (h1 | ⟨o, h1⟩) | h1
      · exact .inl (.inl (by rw [upd_ne (ne_of_none h1 hp)]; exact h1))
      · exact .inl (.inr ⟨o, by rw [upd_ne (ne_of_none h1 hp)]; exact h1⟩)
      · exact .inr h1
  | .fl ds, _, h => by
    cases h with
    | fl h1 h2 =>
      refine .fl ?_ (RDs.hide hp ds _ h2)
      rcases h1 with ⟨o, h1⟩ | h1
      · exact .inl ⟨o, by rw [upd_ne (ne_of_none h1 hp)]; exact h1⟩
      · exact .inr h1
  | .lst ds, _, h => by
    cases h with
    | lst h1 h0 h2 =>
      have ne := ne_of_none h1 hp
      refine .lst (by rw [upd_ne ne]; exact h1) ⟨h0.1, fun z => ?_⟩ (RDs.hide hp ds _ h2)
      rcases List.mem_cons.mp z with z | z
      · exact ne z
      · exact h0.2 z
  | .ref n, _, h => by
    cases h with
    | ref h1 => exact .ref h1
theorem RDs.hide {p : Addr} {o : HO} (hp : H p = none) : ∀ (ds : List D) (vs : List V), RDs K μ H ds vs → RDs K (μ.hide p) (upd H p o) ds vs
  | [], _, h => by cases h; exact .nil
  | d :: ds, _, h => by
    cases h with
    | cons h1 h2 => exact .cons (RD.hide hp d _ h1) (RDs.hide hp ds _ h2)
end
mutual
/-- the hidden list changes: nobody sees it -/
theorem RD.seen {p : Addr} {xs ys : List V} (hp : H p = some (.lst xs)) : ∀ (d : D) (v : V), RD K (μ.hide p) H d v → RD K (μ.hide p) (upd H p (.lst ys)) d v
  | .non, _, h => by cases h; exact .non
  | .bl _, _, h => by cases h; exact .bl _
  | .int _, _, h => by cases h; exact .int _
  | .str _, _, h => by cases h; exact .str _
  | .tup ds, _, h => by
    cases h with
    | tup h1 h2 =>
      refine .tup ?_ (RDs.seen hp ds _ h2)
      rcases h1 with (h1 | ⟨o, h1⟩) | h1
      · exact .inl (.inl (by rw [upd_ne (ne_of h1 hp (fun z => nomatch z))]; exact h1))
      · exact .inl (.inr ⟨o, by rw [upd_ne (ne_of h1 hp (fun z => nomatch z))]; exact h1⟩)
      · exact .inr h1
  | .fl ds, _, h => by
    cases h with
    | fl h1 h2 =>
      refine .fl ?_ (RDs.seen hp ds _ h2)
      rcases h1 with ⟨o, h1⟩ | h1
      · exact .inl ⟨o, by rw [upd_ne (ne_of h1 hp (fun z => nomatch z))]; exact h1⟩
      · exact .inr h1
  | .lst ds, _, h => by
    cases h with
    | lst h1 h0 h2 =>
      refine .lst (by rw [upd_ne (fun z => h0.2 (by rw [z]; exact List.mem_cons_self))]; exact h1) h0 (RDs.seen hp ds _ h2)
  | .ref n, _, h => by
    cases h with
    | ref h1 => exact .ref h1
theorem RDs.seen {p : Addr} {xs ys : List V} (hp : H p = some (.lst xs)) : ∀ (ds : List D) (vs : List V), RDs K (μ.hide p) H ds vs → RDs K (μ.hide p) (upd H p (.lst ys)) ds vs
  | [], _, h => by cases h; exact .nil
  | d :: ds, _, h => by
    cases h with
    | cons h1 h2 => exact .cons (RD.seen hp d _ h1) (RDs.seen hp ds _ h2)
end
mutual
theorem RD.show {p : Addr} : ∀ (d : D) (v : V), RD K (μ.hide p) H d v → RD K μ H d v
  | .non, _, h => by cases h; exact .non
  | .bl _, _, h => by cases h; exact .bl _
  | .int _, _, h => by cases h; exact .int _
  | .str _, _, h => by cases h; exact .str _
  | .tup ds, _, h => by cases h with | tup h1 h2 => exact .tup h1 (RDs.show ds _ h2)
  | .fl ds, _, h => by cases h with | fl h1 h2 => exact .fl h1 (RDs.show ds _ h2)
  | .lst ds, _, h => by cases h with | lst h1 h0 h2 => exact .lst h1 ⟨h0.1, fun z => h0.2 (List.mem_cons_of_mem _ z)⟩ (RDs.show ds _ h2)
  | .ref n, _, h => by cases h with | ref h1 => exact .ref h1
theorem RDs.show {p : Addr} : ∀ (ds : List D) (vs : List V), RDs K (μ.hide p) H ds vs → RDs K μ H ds vs
  | [], _, h => by cases h; exact .nil
  | d :: ds, _, h => by
    cases h with
    | cons h1 h2 => exact .cons (RD.show d _ h1) (RDs.show ds _ h2)
end
theorem RM.map {μ' : Mu} {H' : Hp} {a : Addr} {m : MO} (h : RM K μ H a m) (e : H' a = H a) (f : ∀ d v, RD K μ H d v → RD K μ' H' d v) (fs : ∀ d v, RDs K μ H d v → RDs K μ' H' d v) : RM K μ' H' a m := by
  cases m with
  | lst ds => obtain ⟨vs, q, z⟩ := h; exact ⟨vs, e.trans q, fs _ _ z⟩
  | dct kvs => obtain ⟨ws, q, z⟩ := h; exact ⟨ws, e.trans q, Paired.mapP z fun p q z => ⟨z.1, f _ _ z.2⟩⟩
theorem Rel.hide {p : Addr} {o : HO} (r : Rel K μ S H) (hp : H p = none) : Rel K (μ.hide p) S (upd H p o) := by
  refine ⟨r.len, r.nd, fun i a m h1 h2 => (r.obj i a m h1 h2).map (upd_ne fun z => ?_) (RD.hide hp) (RDs.hide hp), fun a ha => ?_, fun a ha hx => ?_⟩
  · subst z; exact r.there (List.mem_of_getElem? h1) hp
  · rcases List.mem_cons.mp ha with z | z
    · rw [z, upd_same]; simp
    · exact (Stp.new (μ := μ) hp).thr a (r.hid a z)
  · rcases List.mem_cons.mp hx with z | z
    · subst z; exact r.there ha hp
    · exact r.apt a ha z
theorem Rel.seen {p : Addr} {xs ys : List V} (r : Rel K (μ.hide p) S H) (hp : H p = some (.lst xs)) : Rel K (μ.hide p) S (upd H p (.lst ys)) := by
  refine ⟨r.len, r.nd, fun i a m h1 h2 => (r.obj i a m h1 h2).map (upd_ne fun z => ?_) (RD.seen hp) (RDs.seen hp), fun a ha => ?_, r.apt⟩
  · exact r.apt a (List.mem_of_getElem? h1) (by rw [z]; exact List.mem_cons_self)
  · by_cases z : a = p
    · rw [z, upd_same]; simp
    · rw [upd_ne z]; exact r.hid a ha
theorem Rel.show {p : Addr} (r : Rel K (μ.hide p) S H) : Rel K μ S H :=
  ⟨r.len, r.nd, fun i a m h1 h2 => (r.obj i a m h1 h2).map rfl RD.show RDs.show, fun a ha => r.hid a (List.mem_cons_of_mem _ ha), fun a ha hx => r.apt a ha (List.mem_cons_of_mem _ hx)⟩
/-- a step beside the hidden list is a step -/
theorem Stp.show {μ' : Mu} {p : Addr} {H' : Hp} (s : Stp (μ.hide p) H μ' H') : ∃ μ1, μ' = μ1.hide p ∧ Stp μ H μ1 H' := by
  obtain ⟨⟨ν, rfl, f⟩, k, t⟩ := s
  exact ⟨⟨μ.v ++ ν, μ.x⟩, rfl, ⟨ν, rfl, f⟩, k, t⟩
end

/-! ### slots -/
structure RE (K : PySem.W.Frag) (μ : Mu) (H : Hp) (σ : L2.St) (ρ : Rho) : Prop where
  len : σ.length = ρ.length
  val : ∀ (i : Nat) (d : D), ρ[i]? = some (some d) → ∃ v, σ[i]? = some (some v) ∧ RD K μ H d v
section
variable {K : PySem.W.Frag} {μ μ' : Mu} {S : Sto} {H H' : Hp} {σ : L2.St} {ρ : Rho}
theorem RE.step (h : RE K μ H σ ρ) (r : Rel K μ S H) (s : Stp μ H μ' H') : RE K μ' H' σ ρ := ⟨h.len, fun i d e => by
  obtain ⟨v, e1, z⟩ := h.val i d e
  exact ⟨v, e1, z.step r s⟩⟩
theorem RE.set {d : D} {v : V} (h : RE K μ H σ ρ) (z : RD K μ H d v) (i : Nat) : RE K μ H (σ.set i (some v)) (ρ.set i (some d)) := by
  refine ⟨by simp [h.len], fun j e q => ?_⟩
  by_cases hij : i = j
  · subst hij
    by_cases hl : i < ρ.length
    · rw [List.getElem?_set_self hl] at q
      cases q
      exact ⟨v, List.getElem?_set_self (by rw [h.len]; exact hl), z⟩
    · rw [List.getElem?_eq_none (by simpa using hl)] at q; cases q
  · rw [List.getElem?_set_ne hij] at q ⊢
    exact h.val j e q
def wipeR (ρ : Rho) : List Nat → Rho
  | [] => ρ
  | v :: vs => (wipeR ρ vs).set v none
theorem RE.drop {i : Nat} (h : RE K μ H σ ρ) : RE K μ H (σ.set i none) (ρ.set i none) := by
  refine ⟨by simp [h.len], fun j e q => ?_⟩
  by_cases hij : i = j
  · subst hij
    by_cases hl : i < ρ.length
    · rw [List.getElem?_set_self hl] at q; cases q
    · rw [List.getElem?_eq_none (by simpa using hl)] at q; cases q
  · rw [List.getElem?_set_ne hij] at q ⊢
    exact h.val j e q
theorem RE.wipe (h : RE K μ H σ ρ) : ∀ vs, RE K μ H (L2.wipe σ vs) (wipeR ρ vs)
  | [] => h
  | v :: vs => by unfold L2.wipe wipeR; exact (RE.wipe h vs).drop
end

theorem RE.mapR {K : PySem.W.Frag} {μ μ' : Mu} {H H' : Hp} {σ : L2.St} {ρ : Rho} (h : RE K μ H σ ρ) (f : ∀ d v, RD K μ H d v → RD K μ' H' d v) : RE K μ' H' σ ρ := ⟨h.len, fun i d e => by
  obtain ⟨v, e1, z⟩ := h.val i d e
  exact ⟨v, e1, f _ _ z⟩⟩

/-! ### what is wanted of a result -/
section
variable (K : PySem.W.Frag) (mg : Str → Option Value) (W : WX)
def Post {α : Type} (μ : Mu) (σ : L2.St) (H : Hp) (r : R α) (Q : α → Mu → Hp → Prop) : Prop := match r with
  | .ok a S' => ∀ μ' H', Stp μ H μ' H' → Rel K μ' S' H' → Q a μ' H'
  | .ex e S' => ∀ μ' H' c od, Stp μ H μ' H' → Rel K μ' S' H' → RX K mg μ' H' e c od → W c od σ H'
  | .bad => False
abbrev EvD := Rho → M D
abbrev EvB := Rho → M Bool
abbrev EvL := Rho → M (List D)
def QD (Q : VK) : D → Mu → Hp → Prop := fun d μ' H' => ∀ v, RD K μ' H' d v → Q v H'
def tD (F : EvD) : TE := fun σ H Q => ∃ ρ S μ, RE K μ H σ ρ ∧ Rel K μ S H ∧ Post K mg W μ σ H (F ρ S) (QD K Q)
def tT (F : EvB) : TT := fun σ H Q => ∃ ρ S μ, RE K μ H σ ρ ∧ Rel K μ S H ∧ Post K mg W μ σ H (F ρ S) (fun b _ H' => Q b H')
def tA (F : EvL) : TA := fun σ H Q => ∃ ρ S μ, RE K μ H σ ρ ∧ Rel K μ S H ∧ Post K mg W μ σ H (F ρ S) (fun ds μ' H' => ∀ vs, RDs K μ' H' ds vs → Q vs H')
end
section
variable {K : PySem.W.Frag} {mg : Str → Option Value} {W : WX} {μ μ1 : Mu} {σ : L2.St} {H H1 : Hp} {α β : Type}
theorem Post.mono {r : R α} {Q : α → Mu → Hp → Prop} (h : Post K mg W μ σ H r Q) (s : Stp μ H μ1 H1) : Post K mg W μ1 σ H1 r Q := by
  cases r with
  | ok a S => exact fun μ' H' q => h μ' H' (s.trans q)
  | ex e S => exact fun μ' H' c od q => h μ' H' c od (s.trans q)
  | bad => exact h
theorem Post.imp {r : R α} {Q Q' : α → Mu → Hp → Prop} (h : Post K mg W μ σ H r Q) (f : ∀ a S' μ' H', r = .ok a S' → Stp μ H μ' H' → Rel K μ' S' H' → Q a μ' H' → Q' a μ' H') : Post K mg W μ σ H r Q' := by
  cases r with
  | ok a S => exact fun μ' H' s q => f a S μ' H' rfl s q (h μ' H' s q)
  | ex e S => exact h
  | bad => exact h
theorem Post.bnd {m : M α} {k : α → M β} {S : Sto} {Q : β → Mu → Hp → Prop} {Q1 : α → Mu → Hp → Prop} (h : Post K mg W μ σ H (bnd m k S) Q)
    (f : ∀ a S1 μ1 H1, Stp μ H μ1 H1 → Rel K μ1 S1 H1 → Post K mg W μ1 σ H1 (k a S1) Q → Q1 a μ1 H1) : Post K mg W μ σ H (m S) Q1 := by
  unfold DL.bnd at h
  cases e : m S with
  | ok a S1 =>
    rw [e] at h
    intro μ' H' s r
    exact f a S1 μ' H' s r (Post.mono h s)
  | ex x S1 => rw [e] at h; exact h
  | bad => rw [e] at h; exact h
/-- a result that is there -/
theorem Post.now {a : α} {S : Sto} {Q : α → Mu → Hp → Prop} (h : Post K mg W μ σ H (.ok a S) Q) (r : Rel K μ S H) : Q a μ H := h μ H .refl r
end
theorem PE.imp {X : Cx} {e : Expr} {t t' : TE} (h : PE X e t) (f : ∀ σ H Q, t' σ H Q → t σ H Q) : PE X e t' := ⟨fun pins s σ H Q I q => h.run pins s σ H Q I (f σ H Q q)⟩
theorem PT.imp {X : Cx} {e : Expr} {t t' : TT} (h : PT X e t) (f : ∀ σ H Q, t' σ H Q → t σ H Q) : PT X e t' := ⟨fun pins s σ H Q I q => h.run pins s σ H Q I (f σ H Q q)⟩
theorem PW.imp {X : Cx} {e : Expr} {t t' : TT} (h : PW X e t) (f : ∀ σ H Q, t' σ H Q → t σ H Q) : PW X e t' := ⟨fun w pins s σ H Q I q => h.run w pins s σ H Q I (f σ H Q q)⟩
theorem PA.imp {X : Cx} {e : List Expr} {t t' : TA} (h : PA X e t) (f : ∀ σ H Q, t' σ H Q → t σ H Q) : PA X e t' := ⟨fun p pins s σ H Q I q => h.run p pins s σ H Q I (f σ H Q q)⟩
theorem PS.imp {X : Cx} {e : Stmt} {t t' : TS} (h : PS X e t) (f : ∀ D σ H, t' D σ H → t D σ H) : PS X e t' := ⟨fun pins s σ H D I q => h.run pins s σ H D I (f D σ H q)⟩
theorem PSs.imp {X : Cx} {e : List Stmt} {t t' : TS} (h : PSs X e t) (f : ∀ D σ H, t' D σ H → t D σ H) : PSs X e t' := ⟨fun pins s σ H D I q => h.run pins s σ H D I (f D σ H q)⟩
end DL

/-! DL2: expressions. -/
namespace DL
open PySem L2

/-! ### readers -/
def atL (S : Sto) (n : Nat) : Option (List D) := match S[n]? with
  | some (.lst ds) => some ds
  | _ => none
theorem atL_ok {S : Sto} {n : Nat} {ds : List D} (h : atL S n = some ds) : S[n]? = some (.lst ds) := by
  unfold atL at h
  split at h
  · rename_i hs; cases h; exact hs
  · cases h
def iLst (S : Sto) : D → Option (List D)
  | .tup ds => some ds
  | .lst ds => some ds
  | .fl ds => some ds
  | .ref n => atL S n
  | _ => none
/-- a list that the heap tracks as one -/
def iTrk (S : Sto) : D → Option (List D)
  | .lst ds => some ds
  | .ref n => atL S n
  | _ => none
/-- a list, not a tuple -/
def iSeq (S : Sto) : D → Option (List D)
  | .lst ds => some ds
  | .fl ds => some ds
  | .ref n => atL S n
  | _ => none
section
variable {K : PySem.W.Frag} {μ μ' : Mu} {S : Sto} {H H' : Hp}
theorem iTrk_ok {d : D} {ds : List D} {v : V} (e : iTrk S d = some ds) (r : Rel K μ S H) (h : RD K μ H d v) : ∃ a vs, v = .ref a ∧ H a = some (.lst vs) ∧ RDs K μ H ds vs := by
  cases h with
  | lst h1 h0 h2 => cases e; exact ⟨_, _, rfl, h1, h2⟩
  | @ref n a h1 =>
    obtain ⟨vs, q, z⟩ := r.obj n a _ h1 (atL_ok (show atL S n = some ds from e))
    exact ⟨a, vs, rfl, q, z⟩
  | _ => cases e
theorem iSeq_ok {d : D} {ds : List D} {v : V} (e : iSeq S d = some ds) (r : Rel K μ S H) (h : RD K μ H d v) : ∃ a vs, v = .ref a ∧ SqL K H a vs ∧ RDs K μ H ds vs := by
  cases h with
  | lst h1 h0 h2 => cases e; exact ⟨_, _, rfl, (.inl (.inl h1)), h2⟩
  | fl h1 h2 =>
    cases e
    rcases h1 with ⟨o, h1⟩ | h1
    · exact ⟨_, _, rfl, (.inl (.inr ⟨o, h1⟩)), h2⟩
    · exact ⟨_, _, rfl, (.inr h1), h2⟩
  | @ref n a h1 =>
    obtain ⟨vs, q, z⟩ := r.obj n a _ h1 (atL_ok (show atL S n = some ds from e))
    exact ⟨a, vs, rfl, .inl (.inl q), z⟩
  | _ => cases e
theorem iLst_ok {d : D} {ds : List D} {v : V} (e : iLst S d = some ds) (r : Rel K μ S H) (h : RD K μ H d v) : ∃ a vs, v = .ref a ∧ (SqL K H a vs ∨ SqT K H a vs) ∧ RDs K μ H ds vs := by
  cases d with
  | tup ds' => cases h with | tup h1 h2 => cases e; exact ⟨_, _, rfl, .inr h1, h2⟩
  | lst ds' => obtain ⟨a, vs, q1, q2, q3⟩ := iSeq_ok (d := .lst ds') e r h; exact ⟨a, vs, q1, .inl q2, q3⟩
  | fl ds' => obtain ⟨a, vs, q1, q2, q3⟩ := iSeq_ok (d := .fl ds') e r h; exact ⟨a, vs, q1, .inl q2, q3⟩
  | ref n => obtain ⟨a, vs, q1, q2, q3⟩ := iSeq_ok (d := .ref n) e r h; exact ⟨a, vs, q1, .inl q2, q3⟩
  | _ => cases e
end

/-! ### names, constants -/
def eVar (i : Nat) : EvD := fun ρ S => match ρ[i]? with
  | some (some d) => .ok d S
  | _ => .bad
def eC (d : D) : EvD := fun _ S => .ok d S
def eBin (g : D → D → M D) (a b : EvD) : EvD := fun ρ => bnd (a ρ) fun x => bnd (b ρ) fun y => g x y
def eUn (g : D → M D) (a : EvD) : EvD := fun ρ => bnd (a ρ) g
section
variable {X : Cx} {W : WX} {pos : Pos}
theorem d_var (i : Nat) {x : Str} (hN : X.N[i]? = some x := by rfl) (hv : Vis X.env.scope x := by first | exact Or.inl rfl | exact Or.inr (Or.inl rfl) | exact Or.inr (Or.inr rfl)) (hd : (x == ("__debug__" : Str)) = false := by decide)
    (hcd : (x == ("__classdict__" : Str)) = false := by decide) : PE X (.Name x pos) (tD X.K X.mg W (eVar i)) := by
  refine PE.imp (pe_var hN hv hd hcd) fun σ H Q ⟨ρ, S, μ, e, s, h⟩ => ?_
  unfold eVar at h
  split at h
  · rename_i d hd
    obtain ⟨v, e1, z⟩ := e.val i d hd
    exact ⟨v, e1, h.now s v z⟩
  · exact h.elim
theorem d_const {e : Expr} {d : D} {v : V} (h : PE X e (tC v)) (hd : ∀ μ H, RD X.K μ H d v) : PE X e (tD X.K X.mg W (eC d)) :=
  PE.imp h fun σ H Q ⟨ρ, S, μ, e, s, h⟩ => h.now s v (hd μ H)
theorem d_int {i j} : PE X (.Constant (.int i) j pos) (tD X.K X.mg W (eC (.int i))) := d_const pe_int fun _ _ => .int i
theorem d_bl {i j} : PE X (.Constant (.bool i) j pos) (tD X.K X.mg W (eC (.bl i))) := d_const pe_bl fun _ _ => .bl i
theorem d_str {i j} : PE X (.Constant (.str i) j pos) (tD X.K X.mg W (eC (.str i))) := d_const pe_str fun _ _ => .str i
theorem d_non {j} : PE X (.Constant .none j pos) (tD X.K X.mg W (eC .non)) := d_const pe_non fun _ _ => .non
theorem d_glob {x : Str} {d : D} {v : V} {u : Value} (hg : Gl X x) (hm : X.mg x = some u) (r : RelV v u) (hd : ∀ μ H, RD X.K μ H d v) (hdb : (x == ("__debug__" : Str)) = false := by decide) : PE X (.Name x pos) (tD X.K X.mg W (eC d)) :=
  d_const (pe_glob hg hm r hdb) hd

/-! ### operations -/
def ORD (X : Cx) (W : WX) (f : Value → Value → Sem Value) (g : D → D → M D) : Prop := ∃ r : R2, OpR X f r ∧
  ∀ x y v w μ S σ H Q, Rel X.K μ S H → RD X.K μ H x v → RD X.K μ H y w → Post X.K X.mg W μ σ H (g x y S) (QD X.K Q) → r v w H Q
theorem bin_ok {r : R2} {g : D → D → M D} {ta tb : EvD} {σ : L2.St} {H : Hp} {Q : VK} (hr : ∀ x y v w μ S σ H Q, Rel X.K μ S H → RD X.K μ H x v → RD X.K μ H y w → Post X.K X.mg W μ σ H (g x y S) (QD X.K Q) → r v w H Q)
    (h : tD X.K X.mg W (eBin g ta tb) σ H Q) : tOp r (tD X.K X.mg W ta) (tD X.K X.mg W tb) σ H Q := by
  obtain ⟨ρ, S, μ, e, s, h⟩ := h
  refine ⟨ρ, S, μ, e, s, h.bnd fun x S1 μ1 H1 s1 r1 h1 v rv => ?_⟩
  refine ⟨ρ, S1, μ1, e.step s s1, r1, h1.bnd fun y S2 μ2 H2 s2 r2 h2 w rw => ?_⟩
  exact hr _ _ _ _ μ2 S2 σ H2 Q r2 (rv.step r1 s2) rw h2
theorem d_bin {a b : Expr} {op : Operator} {g : D → D → M D} {ta tb : EvD} (o : ORD X W (binaryOp op) g) (ha : PE X a (tD X.K X.mg W ta)) (hb : PE X b (tD X.K X.mg W tb)) : PE X (.BinOp a op b pos) (tD X.K X.mg W (eBin g ta tb)) := by
  obtain ⟨r, ho, hr⟩ := o
  exact PE.imp (pe_op ho ha hb) fun σ H Q h => bin_ok hr h
theorem d_cmp {a b : Expr} {op : CmpOp} {g : D → D → M D} {ta tb : EvD} (o : ORD X W (compareOp op) g) (ha : PE X a (tD X.K X.mg W ta)) (hb : PE X b (tD X.K X.mg W tb)) (hm : behindInMarks op b = false) : PE X (.Compare a [op] [b] pos) (tD X.K X.mg W (eBin g ta tb)) := by
  obtain ⟨r, ho, hr⟩ := o
  exact PE.imp (pe_cmpR ho ha hb hm) fun σ H Q h => bin_ok hr h
def URD (X : Cx) (W : WX) (f : Value → Sem Value) (g : D → M D) : Prop := ∃ r, UnR X f r ∧
  ∀ x v μ S σ H Q, Rel X.K μ S H → RD X.K μ H x v → Post X.K X.mg W μ σ H (g x S) (QD X.K Q) → r v H Q
theorem d_un {a : Expr} {op : UnaryOp} {g : D → M D} {ta : EvD} (o : URD X W (unaryOp op) g) (ha : PE X a (tD X.K X.mg W ta)) : PE X (.UnaryOp op a pos) (tD X.K X.mg W (eUn g ta)) := by
  obtain ⟨r, ho, hr⟩ := o
  refine PE.imp (pe_un ho ha) fun σ H Q ⟨ρ, S, μ, e, s, h⟩ => ?_
  exact ⟨ρ, S, μ, e, s, h.bnd fun x S1 μ1 H1 s1 r1 h1 v rv => hr _ _ μ1 S1 σ H1 Q r1 rv h1⟩

/-! arithmetic -/
def gAdd (x y : D) : M D := fun S => match x, y with
  | .int i, .int j => .ok (.int (i + j)) S
  | .str a, .str b => if a.length + b.length ≤ sizeLine then .ok (.str (a ++ b)) S else .bad
  | .tup a, .tup b => if a.length + b.length ≤ sizeLine then .ok (.tup (a ++ b)) S else .bad
  | x, y => match iTrk S x, iTrk S y with
    | some a, some b => if a.length + b.length ≤ sizeLine then .ok (.lst (a ++ b)) S else .bad
    | _, _ => .bad
theorem o_add : ORD X W (binaryOp .Add) gAdd := by
  refine ⟨_, op_add.or (op_add_str.or (op_catA.or op_cat)), fun x y v w μ S σ H Q r rx ry h => ?_⟩
  unfold gAdd at h
  split at h
  · cases rx; cases ry
    exact .inl ⟨_, _, rfl, rfl, h.now r _ (.int _)⟩
  · cases rx; cases ry
    split at h
    · rename_i hl
      exact .inr (.inl ⟨_, _, rfl, rfl, hl, h.now r _ (.str _)⟩)
    · exact h.elim
  · cases rx with
    | @tup a1 vs1 ds1 h1 h2 =>
      cases ry with
      | @tup a2 vs2 ds2 g1 g2 =>
        split at h
        · rename_i hl
          rw [h2.length, g2.length] at hl
          refine .inr (.inr (.inl ⟨_, _, _, _, rfl, rfl, h1, g1, hl, fun e => ?_, fun e1 e2 => ?_, fun e1 e2 p hp => ?_⟩))
          · subst e
            cases h2
            exact h.now r _ (.tup g1 g2)
          · subst e2
            cases g2
            exact h.now r _ (.tup h1 (by simpa using h2))
          · exact h μ _ (Stp.new hp) (r.new hp) _ (.tup (.inl (.inl upd_same)) ((h2.step r (Stp.new hp)).append (g2.step r (Stp.new hp))))
        · exact h.elim
  · split at h
    · rename_i a b ea eb
      split at h
      · rename_i hl
        obtain ⟨p1, v1, rfl, q1, z1⟩ := iTrk_ok ea r rx
        obtain ⟨p2, v2, rfl, q2, z2⟩ := iTrk_ok eb r ry
        rw [z1.length, z2.length] at hl
        refine .inr (.inr (.inr ⟨_, _, _, _, rfl, rfl, q1, q2, hl, fun p hp => ?_⟩))
        exact h μ _ (Stp.new hp) (r.new hp) _ (.lst upd_same ⟨fun z => r.there z hp, fun z => r.hid _ z hp⟩ ((z1.step r (Stp.new hp)).append (z2.step r (Stp.new hp))))
      · exact h.elim
    · exact h.elim
def gI (C : Int → Int → Bool) (f : Int → Int → Int) (x y : D) : M D := fun S => match x, y with
  | .int i, .int j => if C i j then .ok (.int (f i j)) S else .bad
  | _, _ => .bad
theorem o_int {f : Value → Value → Sem Value} {C : Int → Int → Bool} {CP : Int → Int → Prop} {k : Int → Int → Int} (ho : OpR X f (rI CP fun i j => .int (k i j))) (hC : ∀ i j, C i j = true → CP i j) : ORD X W f (gI C k) := by
  refine ⟨_, ho, fun x y v w μ S σ H Q r rx ry h => ?_⟩
  unfold gI at h
  split at h
  · cases rx; cases ry
    split at h
    · rename_i hc
      exact ⟨_, _, rfl, rfl, hC _ _ hc, h.now r _ (.int _)⟩
    · exact h.elim
  · exact h.elim
abbrev gSub := gI (fun _ _ => true) fun i j => i - j
theorem op_subC : OpR X (binaryOp .Sub) (rI (fun _ _ => True) fun i j => .int (i - j)) := fun pins s σ H x y v u Q I rx ry h => by
  obtain ⟨i, j, e1, e2, _, q⟩ := h
  exact op_sub pins s σ H x y v u Q I rx ry ⟨i, j, e1, e2, q⟩
theorem o_sub : ORD X W (binaryOp .Sub) gSub := o_int op_subC fun _ _ _ => trivial
/-- one factor below 2^64 -/
def cMul (i j : Int) : Bool := decide (i.natAbs < 18446744073709551616) || decide (j.natAbs < 18446744073709551616)
theorem cMul_ok {i j : Int} (h : cMul i j = true) : CMul i j := by
  unfold cMul at h
  simp only [Bool.or_eq_true, decide_eq_true_eq] at h
  unfold CMul
  omega
abbrev gMul := gI cMul fun i j => i * j
theorem o_mul : ORD X W (binaryOp .Mult) gMul := o_int op_mul fun _ _ h => cMul_ok h
def cDiv (_ j : Int) : Bool := decide (0 < j) && decide (j.natAbs.log2 < 9000)
abbrev gDiv := gI cDiv fun i j => i / j
theorem o_div : ORD X W (binaryOp .FloorDiv) gDiv := o_int op_fdivW fun _ _ h => by
  unfold cDiv at h
  simpa [CDivW] using h
abbrev gMod := gI (fun _ j => decide (0 < j)) fun i j => i % j
theorem o_mod : ORD X W (binaryOp .Mod) gMod := o_int op_mod fun _ _ h => by simpa using h
def cPow (i j : Int) : Bool := decide (0 ≤ j ∧ j ≤ 1000000) && decide (i.natAbs < 18446744073709551616)
abbrev gPow := gI cPow fun i j => i ^ j.toNat
theorem o_pow : ORD X W (binaryOp .Pow) gPow := o_int op_pow fun _ _ h => by
  unfold cPow at h
  simp only [Bool.and_eq_true, decide_eq_true_eq] at h
  exact ⟨h.1.1, h.1.2, h.2⟩
def gNeg (x : D) : M D := fun S => match x with
  | .int i => .ok (.int (-i)) S
  | _ => .bad
theorem o_neg : URD X W (unaryOp .USub) gNeg := by
  refine ⟨_, un_neg, fun x v μ S σ H Q r rx h => ?_⟩
  unfold gNeg at h
  split at h
  · cases rx
    exact ⟨_, rfl, h.now r _ (.int _)⟩
  · exact h.elim

/-! comparisons -/
def gC (f : Int → Int → Bool) (x y : D) : M D := fun S => match x, y with
  | .int i, .int j => .ok (.bl (f i j)) S
  | _, _ => .bad
theorem o_cmp {f : Value → Value → Sem Value} {k : Int → Int → Bool} (ho : OpR X f (rI0 fun i j => .bl (k i j))) : ORD X W f (gC k) := by
  refine ⟨_, ho, fun x y v w μ S σ H Q r rx ry h => ?_⟩
  unfold gC at h
  split at h
  · cases rx; cases ry
    exact ⟨_, _, rfl, rfl, h.now r _ (.bl _)⟩
  · exact h.elim
abbrev gLt := gC fun i j => decide (i < j)
abbrev gLe := gC fun i j => decide (i ≤ j)
abbrev gGt := gC fun i j => decide (j < i)
abbrev gGe := gC fun i j => decide (j ≤ i)
theorem o_lt : ORD X W (compareOp .Lt) gLt := o_cmp op_lt
theorem o_le : ORD X W (compareOp .LtE) gLe := o_cmp op_le
theorem o_gt : ORD X W (compareOp .Gt) gGt := o_cmp op_gt
theorem o_ge : ORD X W (compareOp .GtE) gGe := o_cmp op_ge

/-! == of data -/
end
mutual
def toPy : D → Option PyData
  | .non => some .none
  | .bl b => some (.bool b)
  | .int i => some (.int i)
  | .str x => some (.str x)
  | .tup ds => (toPys ds).map .tuple
  | .lst ds => (toPys ds).map .list
  | .fl ds => (toPys ds).map .list
  | .ref _ => none
def toPys : List D → Option (List PyData)
  | [] => some []
  | d :: ds => match toPy d, toPys ds with
    | some p, some ps => some (p :: ps)
    | _, _ => none
end
/-- .. a stored list at the top -/
def toPyS (S : Sto) : D → Option PyData
  | .ref n => match atL S n with
    | some ds => (toPys ds).map .list
    | none => none
  | d => toPy d
section
variable {K : PySem.W.Frag} {μ : Mu} {S : Sto} {H : Hp}
mutual
theorem toPy_ok : ∀ (d : D) (p : PyData) (v : V), toPy d = some p → RD K μ H d v → Dp K H v p
  | .non, _, _, e, h => by cases e; cases h; exact .non
  | .bl _, _, _, e, h => by cases e; cases h; exact .bl _
  | .int _, _, _, e, h => by cases e; cases h; exact .int _
  | .str _, _, _, e, h => by cases e; cases h; exact .str _
  | .tup ds, _, _, e, h => by
    simp only [toPy, Option.map_eq_some_iff] at e
    obtain ⟨ps, e, rfl⟩ := e
    cases h with
    | tup h1 h2 => exact .tup h1 (toPys_ok ds ps _ e h2)
  | .lst ds, _, _, e, h => by
    simp only [toPy, Option.map_eq_some_iff] at e
    obtain ⟨ps, e, rfl⟩ := e
    cases h with
    | lst h1 h0 h2 => exact .lst (.inl (.inl h1)) (toPys_ok ds ps _ e h2)
  | .fl ds, _, _, e, h => by
    simp only [toPy, Option.map_eq_some_iff] at e
    obtain ⟨ps, e, rfl⟩ := e
    cases h with
    | fl h1 h2 =>
      rcases h1 with ⟨o, h1⟩ | h1
      · exact .lst (.inl (.inr ⟨o, h1⟩)) (toPys_ok ds ps _ e h2)
      · exact .lst (.inr h1) (toPys_ok ds ps _ e h2)
  | .ref _, _, _, e, _ => by simp [toPy] at e
theorem toPys_ok : ∀ (ds : List D) (ps : List PyData) (vs : List V), toPys ds = some ps → RDs K μ H ds vs → DpAll K H vs ps
  | [], _, _, e, h => by cases h; simp [toPys] at e; subst e; exact .nil
  | d :: ds, ps, _, e, h => by
    cases h with
    | cons h1 h2 =>
      unfold toPys at e
      split at e
      · rename_i p ps' e1 e2
        cases e
        exact .cons (toPy_ok d p _ e1 h1) (toPys_ok ds ps' _ e2 h2)
      · cases e
end
theorem toPyS_ok {d : D} {p : PyData} {v : V} (e : toPyS S d = some p) (r : Rel K μ S H) (h : RD K μ H d v) : Dp K H v p := by
  cases d with
  | ref n =>
    unfold toPyS at e
    simp only at e
    split at e
    · rename_i ds hs
      simp only [Option.map_eq_some_iff] at e
      obtain ⟨ps, e, rfl⟩ := e
      cases h with
      | @ref _ a h1 =>
        obtain ⟨vs, q, z⟩ := r.obj n a _ h1 (atL_ok hs)
        exact .lst (.inl (.inl q)) (toPys_ok ds ps _ e z)
    · cases e
  | _ => exact toPy_ok _ _ _ e h
end
/-- the answer of ==, where the model tells one -/
def eqD (S : Sto) (x y : D) : Option Bool := match x, y with
  | .str a, .str b => some (decide (a = b))
  | .int a, .int b => some (decide (a = b))
  | .bl a, .bl b => some (decide (a = b))
  | .non, .non => some true
  | .non, .int _ => some false
  | .int _, .non => some false
  | .non, .str _ => some false
  | .str _, .non => some false
  | .int _, .str _ => some false
  | .str _, .int _ => some false
  | x, y => match toPyS S x, toPyS S y with
    | some p, some q => if SeqAt.shaped p && SeqAt.shaped q then some (PyData.eqv p q) else none
    | _, _ => none
def gEq (x y : D) : M D := fun S => match eqD S x y with
  | some b => .ok (.bl b) S
  | none => .bad
def gNe (x y : D) : M D := fun S => match eqD S x y with
  | some b => .ok (.bl (!b)) S
  | none => .bad
theorem eqD_ok {K : PySem.W.Frag} {μ : Mu} {S : Sto} {H : Hp} {x y : D} {v w : V} {b : Bool} (e : eqD S x y = some b) (r : Rel K μ S H) (rx : RD K μ H x v) (ry : RD K μ H y w) :
    (scal v w = true ∧ b = decide (v = w)) ∨ ∃ p q, Dp K H v p ∧ Dp K H w q ∧ SeqAt.shaped p = true ∧ SeqAt.shaped q = true ∧ b = PyData.eqv p q := by
  unfold eqD at e
  split at e
  iterate 10 (· cases rx; cases ry; cases e; refine .inl ⟨rfl, ?_⟩; first | rfl | (simp; done))
  split at e
  · rename_i p q hp hq
    split at e
    · rename_i hs
      simp only [Bool.and_eq_true] at hs
      cases e
      exact .inr ⟨p, q, toPyS_ok hp r rx, toPyS_ok hq r ry, hs.1, hs.2, rfl⟩
    · cases e
  · cases e
section
variable {X : Cx} {W : WX} {pos : Pos}
theorem o_eq (hu : X.A.units + 64 < cLine) : ORD X W (compareOp .Eq) gEq := by
  refine ⟨_, op_eq.or (op_eqD hu), fun x y v w μ S σ H Q r rx ry h => ?_⟩
  unfold gEq at h
  split at h
  · rename_i b e
    rcases eqD_ok e r rx ry with ⟨z, rfl⟩ | ⟨p, q, h1, h2, h3, h4, rfl⟩
    · exact .inl ⟨z, h.now r _ (.bl _)⟩
    · exact .inr ⟨p, q, h1, h2, h3, h4, h.now r _ (.bl _)⟩
  · exact h.elim
theorem o_ne (hu : X.A.units + 64 < cLine) : ORD X W (compareOp .NotEq) gNe := by
  refine ⟨_, op_ne.or (op_neD hu), fun x y v w μ S σ H Q r rx ry h => ?_⟩
  unfold gNe at h
  split at h
  · rename_i b e
    rcases eqD_ok e r rx ry with ⟨z, rfl⟩ | ⟨p, q, h1, h2, h3, h4, rfl⟩
    · exact .inl ⟨z, h.now r _ (.bl _)⟩
    · exact .inr ⟨p, q, h1, h2, h3, h4, h.now r _ (.bl _)⟩
  · exact h.elim

/-! is None, is True -/
def gIs (x y : D) : M D := fun S => match x, y with
  | .bl a, .bl b => .ok (.bl (decide (a = b))) S
  | .non, .non => .ok (.bl true) S
  | _, .non => .ok (.bl false) S
  | _, _ => .bad
def gIsNot (x y : D) : M D := fun S => match x, y with
  | .bl a, .bl b => .ok (.bl (!decide (a = b))) S
  | .non, .non => .ok (.bl false) S
  | _, .non => .ok (.bl true) S
  | _, _ => .bad
theorem o_is : ORD X W (compareOp .Is) gIs := by
  refine ⟨_, op_isBl.or op_isN, fun x y v w μ S σ H Q r rx ry h => ?_⟩
  unfold gIs at h
  split at h
  · cases rx; cases ry
    exact .inl ⟨_, _, rfl, rfl, h.now r _ (.bl _)⟩
  · cases rx; cases ry
    exact .inr ⟨rfl, by simpa using h.now r _ (.bl _)⟩
  · rename_i hx
    cases ry
    have : decide (v = V.non) = false := by
      cases rx <;> first | rfl | exact absurd rfl (by assumption)
    exact .inr ⟨rfl, by rw [this]; exact h.now r _ (.bl _)⟩
  · exact h.elim
theorem o_isnot : ORD X W (compareOp .IsNot) gIsNot := by
  refine ⟨_, op_notBl.or op_notN, fun x y v w μ S σ H Q r rx ry h => ?_⟩
  unfold gIsNot at h
  split at h
  · cases rx; cases ry
    exact .inl ⟨_, _, rfl, rfl, h.now r _ (.bl _)⟩
  · cases rx; cases ry
    exact .inr ⟨rfl, by simpa using h.now r _ (.bl _)⟩
  · rename_i hx
    cases ry
    have : decide (v = V.non) = false := by
      cases rx <;> first | rfl | exact absurd rfl (by assumption)
    exact .inr ⟨rfl, by rw [this]; exact h.now r _ (.bl _)⟩
  · exact h.elim

/-! in -/
def flatD : D → Option V
  | .non => some .non
  | .bl b => some (.bl b)
  | .int i => some (.int i)
  | .str x => some (.str x)
  | _ => none
def flatDs : List D → Option (List V)
  | [] => some []
  | d :: ds => match flatD d, flatDs ds with
    | some v, some vs => some (v :: vs)
    | _, _ => none
theorem flatD_ok {K : PySem.W.Frag} {μ : Mu} {H : Hp} {d : D} {v w : V} (e : flatD d = some w) (h : RD K μ H d v) : v = w ∧ flatV w = true := by
  cases h <;> first | (cases e; exact ⟨rfl, rfl⟩) | cases e
theorem flatDs_ok {K : PySem.W.Frag} {μ : Mu} {H : Hp} : ∀ {ds : List D} {vs ws : List V}, flatDs ds = some ws → RDs K μ H ds vs → vs = ws ∧ ws.all flatV = true
  | [], _, _, e, h => by cases h; cases e; exact ⟨rfl, rfl⟩
  | d :: ds, _, _, e, h => by
    cases h with
    | cons h1 h2 =>
      unfold flatDs at e
      split at e
      · rename_i v' vs' e1 e2
        cases e
        obtain ⟨rfl, f1⟩ := flatD_ok e1 h1
        obtain ⟨rfl, f2⟩ := flatDs_ok e2 h2
        exact ⟨rfl, by simp only [List.all_cons, f1, f2, Bool.and_self]⟩
      · cases e
/-- the answer of in -/
def inD (S : Sto) (x y : D) : Option Bool := match x, y with
  | .str a, .str b => some (!(Builtin.Str.occurrences b a 0 b.length 1).isEmpty)
  | x, y => match flatD x, (iLst S y).bind flatDs with
    | some v, some vs => some (inV v vs)
    | _, _ => none
def gIn (x y : D) : M D := fun S => match inD S x y with
  | some b => .ok (.bl b) S
  | none => .bad
def gNotIn (x y : D) : M D := fun S => match inD S x y with
  | some b => .ok (.bl (!b)) S
  | none => .bad
theorem inD_ok {K : PySem.W.Frag} {μ : Mu} {S : Sto} {H : Hp} {x y : D} {v w : V} {b : Bool} (e : inD S x y = some b) (r : Rel K μ S H) (rx : RD K μ H x v) (ry : RD K μ H y w) :
    (∃ i j, v = .str i ∧ w = .str j ∧ b = !(Builtin.Str.occurrences j i 0 j.length 1).isEmpty) ∨
    ∃ p xs, w = .ref p ∧ (SqL K H p xs ∨ SqT K H p xs) ∧ flatV v = true ∧ xs.all flatV = true ∧ b = inV v xs := by
  unfold inD at e
  split at e
  · cases rx; cases ry; cases e
    exact .inl ⟨_, _, rfl, rfl, rfl⟩
  · split at e
    · rename_i v' vs' e1 e2
      cases e
      rw [Option.bind_eq_some_iff] at e2
      obtain ⟨ds, e2, e3⟩ := e2
      obtain ⟨rfl, f1⟩ := flatD_ok e1 rx
      obtain ⟨a, us, rfl, q, z⟩ := iLst_ok e2 r ry
      obtain ⟨rfl, f2⟩ := flatDs_ok e3 z
      exact .inr ⟨a, _, rfl, q, f1, f2, rfl⟩
    · cases e
theorem o_in : ORD X W (compareOp .In) gIn := by
  refine ⟨_, op_in_str.or op_in_seq, fun x y v w μ S σ H Q r rx ry h => ?_⟩
  unfold gIn at h
  split at h
  · rename_i b e
    rcases inD_ok e r rx ry with ⟨i, j, rfl, rfl, rfl⟩ | ⟨p, xs, rfl, q, f1, f2, rfl⟩
    · exact .inl ⟨_, _, rfl, rfl, h.now r _ (.bl _)⟩
    · exact .inr ⟨_, _, rfl, q, f1, f2, h.now r _ (.bl _)⟩
  · exact h.elim
theorem o_notin : ORD X W (compareOp .NotIn) gNotIn := by
  refine ⟨_, op_notin_str.or op_notIn_seq, fun x y v w μ S σ H Q r rx ry h => ?_⟩
  unfold gNotIn at h
  split at h
  · rename_i b e
    rcases inD_ok e r rx ry with ⟨i, j, rfl, rfl, rfl⟩ | ⟨p, xs, rfl, q, f1, f2, rfl⟩
    · exact .inl ⟨_, _, rfl, rfl, h.now r _ (.bl _)⟩
    · exact .inr ⟨_, _, rfl, q, f1, f2, h.now r _ (.bl _)⟩
  · exact h.elim
end
end DL

/-! DL3: tests, displays, calls of built-ins, methods, subscripts, slices. -/
namespace DL
open PySem L2

def gTruth (d : D) : M Bool := fun S => match d with
  | .bl b => .ok b S
  | .non => .ok false S
  | .int i => .ok (i != 0) S
  | .str x => if x.length ≤ sizeLine then .ok ((x.length : Int) != 0) S else .bad
  | d => match iLst S d with
    | some ds => .ok (!ds.isEmpty) S
    | none => .bad
def asBl : D → M Bool
  | .bl b => ret b
  | _ => stuck
def eT (a : EvD) : EvB := fun ρ => bnd (a ρ) gTruth
def eTb (a : EvD) : EvB := fun ρ => bnd (a ρ) asBl
def bAnd (a b : EvB) : EvB := fun ρ => bnd (a ρ) fun c => if c = true then b ρ else ret false
def bOr (a b : EvB) : EvB := fun ρ => bnd (a ρ) fun c => if c = true then ret true else b ρ
def bNot (a : EvB) : EvB := fun ρ => bnd (a ρ) fun c => ret (!c)
def eIf (c : EvB) (a b : EvD) : EvD := fun ρ => bnd (c ρ) fun k => if k = true then a ρ else b ρ
def eAnd (a b : EvD) : EvD := fun ρ => bnd (a ρ) fun x => match x with
  | .bl true => b ρ
  | .bl false => ret (.bl false)
  | _ => stuck
def eOr (a b : EvD) : EvD := fun ρ => bnd (a ρ) fun x => match x with
  | .bl true => ret (.bl true)
  | .bl false => b ρ
  | _ => stuck
def eNot (a : EvD) : EvD := fun ρ => bnd (a ρ) fun x => match x with
  | .bl c => ret (.bl (!c))
  | _ => stuck
def aNil : EvL := fun _ => ret []
def aCons (a : EvD) (as : EvL) : EvL := fun ρ => bnd (a ρ) fun x => bnd (as ρ) fun xs => ret (x :: xs)
def eTup (as : EvL) : EvD := fun ρ => bnd (as ρ) fun ds S => if ds.length ≤ sizeLine then .ok (.tup ds) S else .bad
def eLst (as : EvL) : EvD := fun ρ => bnd (as ρ) fun ds S => if ds.length ≤ sizeLine then .ok (.lst ds) S else .bad
/-- a list that will change -/
def eLstM (as : EvL) : EvD := fun ρ => bnd (as ρ) fun ds S => if ds.length ≤ sizeLine then .ok (.ref S.length) (S ++ [.lst ds]) else .bad
def eCall (g : List D → M D) (as : EvL) : EvD := fun ρ => bnd (as ρ) g
/-- e1 < e2 < e3 -/
def eChain (g g' : D → D → M D) (a b c : EvD) : EvD := fun ρ => bnd (a ρ) fun x => bnd (b ρ) fun y => bnd (g x y) fun z => match z with
  | .bl true => bnd (c ρ) fun w => g' y w
  | .bl false => ret (.bl false)
  | _ => stuck

theorem new_ref {K : PySem.W.Frag} {μ : Mu} {S : Sto} {H H' : Hp} {p : Addr} (r : Rel K μ S H) : RD K (μ.push p) H' (.ref S.length) (.ref p) := .ref (by rw [← r.len]; simp [Mu.push])
section
variable {X : Cx} {W : WX} {pos : Pos}
theorem truth_ok {K : PySem.W.Frag} {mg : Str → Option Value} {μ : Mu} {S : Sto} {σ : L2.St} {H : Hp} {d : D} {v : V} {Q : Bool → Hp → Prop} (r : Rel K μ S H) (h : RD K μ H d v) (q : Post K mg W μ σ H (gTruth d S) (fun b _ H' => Q b H')) : ∃ k, TruV K v H k ∧ Q k H := by
  unfold gTruth at q
  split at q
  · cases h; exact ⟨_, rfl, q.now r⟩
  · cases h; exact ⟨_, rfl, q.now r⟩
  · cases h; exact ⟨_, rfl, q.now r⟩
  · cases h
    split at q
    · rename_i hl; exact ⟨_, ⟨hl, rfl⟩, q.now r⟩
    · exact q.elim
  · split at q
    · rename_i ds e
      obtain ⟨a, vs, rfl, qq, z⟩ := iLst_ok e r h
      have eq : (!ds.isEmpty) = !vs.isEmpty := by
        have := z.length
        cases ds <;> cases vs <;> simp_all
      refine ⟨_, ?_, q.now r⟩
      rcases qq with qq | qq
      · exact .inl ⟨vs, qq, eq⟩
      · exact .inr (.inl ⟨vs, qq, eq⟩)
    · exact q.elim
theorem t_truth {a : Expr} {ta : EvD} (ha : PE X a (tD X.K X.mg W ta)) (he : ∀ whole, isTrue a X.env whole = (do let v ← whole; standAt a.pos; holding [v] (truthy v)) := by intro _; rfl) : PT X a (tT X.K X.mg W (eT ta)) := by
  refine PT.imp (pt_truth ha he) fun σ H Q ⟨ρ, S, μ, e, s, h⟩ => ?_
  exact ⟨ρ, S, μ, e, s, h.bnd fun x S1 μ1 H1 s1 r1 h1 v rv => truth_ok r1 rv h1⟩
theorem asBl_ok {K : PySem.W.Frag} {mg : Str → Option Value} {μ : Mu} {S : Sto} {σ : L2.St} {H : Hp} {d : D} {v : V} {Q : Bool → Hp → Prop} (r : Rel K μ S H) (h : RD K μ H d v) (q : Post K mg W μ σ H (asBl d S) (fun b _ H' => Q b H')) : ∃ k, v = .bl k ∧ Q k H := by
  unfold asBl at q
  split at q
  · cases h; exact ⟨_, rfl, q.now r⟩
  · exact q.elim
theorem t_cmp {a b : Expr} {op : CmpOp} {g : D → D → M D} {ta tb : EvD} (o : ORD X W (compareOp op) g) (ha : PE X a (tD X.K X.mg W ta)) (hb : PE X b (tD X.K X.mg W tb)) (hm : behindInMarks op b = false) : PT X (.Compare a [op] [b] pos) (tT X.K X.mg W (eTb (eBin g ta tb))) := by
  obtain ⟨r, ho, hr⟩ := o
  refine PT.imp (pt_cmpR ho ha hb hm) fun σ H Q ⟨ρ, S, μ, e, s, h⟩ => ?_
  refine bin_ok hr ⟨ρ, S, μ, e, s, ?_⟩
  exact h.bnd fun x S1 μ1 H1 s1 r1 h1 v rv => asBl_ok r1 rv h1
theorem t_not {a : Expr} {ta : EvB} (ha : PT X a (tT X.K X.mg W ta)) : PT X (.UnaryOp .Not a pos) (tT X.K X.mg W (bNot ta)) := by
  refine PT.imp (pt_not ha) fun σ H Q ⟨ρ, S, μ, e, s, h⟩ => ?_
  exact ⟨ρ, S, μ, e, s, h.bnd fun x S1 μ1 H1 s1 r1 h1 => h1.now r1⟩
theorem w_one_and {a : Expr} {ta : EvB} (ha : PT X a (tT X.K X.mg W ta)) : PW X (.BoolOp .And [a] pos) (tT X.K X.mg W ta) := pw_and1 ha
theorem w_one_or {a : Expr} {ta : EvB} (ha : PT X a (tT X.K X.mg W ta)) : PW X (.BoolOp .Or [a] pos) (tT X.K X.mg W ta) := pw_or1 ha
theorem w_and {a b : Expr} {rest : List Expr} {ta tb : EvB} (ha : PT X a (tT X.K X.mg W ta)) (hb : PW X (.BoolOp .And (b :: rest) pos) (tT X.K X.mg W tb)) : PW X (.BoolOp .And (a :: b :: rest) pos) (tT X.K X.mg W (bAnd ta tb)) := by
  refine PW.imp (pw_and ha hb) fun σ H Q ⟨ρ, S, μ, e, s, h⟩ => ?_
  refine ⟨ρ, S, μ, e, s, h.bnd fun x S1 μ1 H1 s1 r1 h1 => ?_⟩
  cases x with
  | true => rw [if_pos rfl] at h1 ⊢; exact ⟨ρ, S1, μ1, e.step s s1, r1, h1⟩
  | false => rw [if_neg Bool.false_ne_true] at h1 ⊢; exact h1.now r1
theorem w_or {a b : Expr} {rest : List Expr} {ta tb : EvB} (ha : PT X a (tT X.K X.mg W ta)) (hb : PW X (.BoolOp .Or (b :: rest) pos) (tT X.K X.mg W tb)) : PW X (.BoolOp .Or (a :: b :: rest) pos) (tT X.K X.mg W (bOr ta tb)) := by
  refine PW.imp (pw_or ha hb) fun σ H Q ⟨ρ, S, μ, e, s, h⟩ => ?_
  refine ⟨ρ, S, μ, e, s, h.bnd fun x S1 μ1 H1 s1 r1 h1 => ?_⟩
  cases x with
  | true => rw [if_pos rfl] at h1 ⊢; exact h1.now r1
  | false => rw [if_neg Bool.false_ne_true] at h1 ⊢; exact ⟨ρ, S1, μ1, e.step s s1, r1, h1⟩
theorem d_ifExp {c a b : Expr} {tc : EvB} {ta tb : EvD} (hc : PT X c (tT X.K X.mg W tc)) (ha : PE X a (tD X.K X.mg W ta)) (hb : PE X b (tD X.K X.mg W tb)) : PE X (.IfExp c a b pos) (tD X.K X.mg W (eIf tc ta tb)) := by
  refine PE.imp (pe_ifExp hc ha hb) fun σ H Q ⟨ρ, S, μ, e, s, h⟩ => ?_
  refine ⟨ρ, S, μ, e, s, h.bnd fun x S1 μ1 H1 s1 r1 h1 => ?_⟩
  cases x with
  | true => rw [if_pos rfl] at h1 ⊢; exact ⟨ρ, S1, μ1, e.step s s1, r1, h1⟩
  | false => rw [if_neg Bool.false_ne_true] at h1 ⊢; exact ⟨ρ, S1, μ1, e.step s s1, r1, h1⟩
theorem d_one {op : BoolOp} {a : Expr} {ta : EvD} (ha : PE X a (tD X.K X.mg W ta)) : PE X (.BoolOp op [a] pos) (tD X.K X.mg W ta) := pe_one ha
theorem d_and {a b : Expr} {rest : List Expr} {ta tb : EvD} (ha : PE X a (tD X.K X.mg W ta)) (hb : PE X (.BoolOp .And (b :: rest) pos) (tD X.K X.mg W tb)) : PE X (.BoolOp .And (a :: b :: rest) pos) (tD X.K X.mg W (eAnd ta tb)) := by
  refine PE.imp (pe_and ha hb) fun σ H Q ⟨ρ, S, μ, e, s, h⟩ => ?_
  refine ⟨ρ, S, μ, e, s, h.bnd fun x S1 μ1 H1 s1 r1 h1 v rv => ?_⟩
  split at h1
  · cases rv; exact ⟨true, rfl, by rw [if_pos rfl]; exact ⟨ρ, S1, μ1, e.step s s1, r1, h1⟩⟩
  · cases rv; exact ⟨false, rfl, by rw [if_neg Bool.false_ne_true]; exact h1.now r1 _ (.bl _)⟩
  · exact h1.elim
theorem d_or {a b : Expr} {rest : List Expr} {ta tb : EvD} (ha : PE X a (tD X.K X.mg W ta)) (hb : PE X (.BoolOp .Or (b :: rest) pos) (tD X.K X.mg W tb)) : PE X (.BoolOp .Or (a :: b :: rest) pos) (tD X.K X.mg W (eOr ta tb)) := by
  refine PE.imp (pe_or ha hb) fun σ H Q ⟨ρ, S, μ, e, s, h⟩ => ?_
  refine ⟨ρ, S, μ, e, s, h.bnd fun x S1 μ1 H1 s1 r1 h1 v rv => ?_⟩
  split at h1
  · cases rv; exact ⟨true, rfl, by rw [if_pos rfl]; exact h1.now r1 _ (.bl _)⟩
  · cases rv; exact ⟨false, rfl, by rw [if_neg Bool.false_ne_true]; exact ⟨ρ, S1, μ1, e.step s s1, r1, h1⟩⟩
  · exact h1.elim
theorem d_not {a : Expr} {ta : EvD} (ha : PE X a (tD X.K X.mg W ta)) : PE X (.UnaryOp .Not a pos) (tD X.K X.mg W (eNot ta)) := by
  refine PE.imp (pe_not ha) fun σ H Q ⟨ρ, S, μ, e, s, h⟩ => ?_
  refine ⟨ρ, S, μ, e, s, h.bnd fun x S1 μ1 H1 s1 r1 h1 v rv => ?_⟩
  split at h1
  · cases rv; exact ⟨_, rfl, h1.now r1 _ (.bl _)⟩
  · exact h1.elim
theorem a_nil : PA X [] (tA X.K X.mg W aNil) := PA.imp pa_nil fun σ H Q ⟨ρ, S, μ, e, s, h⟩ => h.now s _ .nil
theorem a_cons {e : Expr} {es : List Expr} {te : EvD} {t : EvL} (ha : PE X e (tD X.K X.mg W te)) (hr : PA X es (tA X.K X.mg W t)) (hs : starEach (e :: es) X.env = (false, eval e X.env) :: starEach es X.env := by rfl) : PA X (e :: es) (tA X.K X.mg W (aCons te t)) := by
  refine PA.imp (pa_cons ha hr hs) fun σ H Q ⟨ρ, S, μ, e, s, h⟩ => ?_
  refine ⟨ρ, S, μ, e, s, h.bnd fun x S1 μ1 H1 s1 r1 h1 v rv => ?_⟩
  exact ⟨ρ, S1, μ1, e.step s s1, r1, h1.bnd fun xs S2 μ2 H2 s2 r2 h2 vs rvs => h2.now r2 _ (.cons (rv.step r1 s2) rvs)⟩
theorem d_tup {es : List Expr} {t : EvL} {k : Nat} (h : PA X es (tA X.K X.mg W t)) : PE X (.Tuple es k pos) (tD X.K X.mg W (eTup t)) := by
  refine PE.imp (pe_tup h) fun σ H Q ⟨ρ, S, μ, e, s, h⟩ => ?_
  refine ⟨ρ, S, μ, e, s, h.bnd fun xs S1 μ1 H1 s1 r1 h1 vs rvs => ?_⟩
  split at h1
  · rename_i hl
    exact ⟨by rw [← rvs.length]; exact hl, fun p hp => h1 μ1 _ (Stp.new hp) (r1.new hp) _ (.tup (.inl (.inl upd_same)) (rvs.step r1 (Stp.new hp)))⟩
  · exact h1.elim
theorem d_lst {es : List Expr} {t : EvL} (h : PA X es (tA X.K X.mg W t)) : PE X (.List es pos) (tD X.K X.mg W (eLst t)) := by
  refine PE.imp (pe_lst h) fun σ H Q ⟨ρ, S, μ, e, s, h⟩ => ?_
  refine ⟨ρ, S, μ, e, s, h.bnd fun xs S1 μ1 H1 s1 r1 h1 vs rvs => ?_⟩
  split at h1
  · rename_i hl
    exact ⟨by rw [← rvs.length]; exact hl, fun p hp => h1 μ1 _ (Stp.new hp) (r1.new hp) _ (.lst upd_same ⟨fun z => r1.there z hp, fun z => r1.hid _ z hp⟩ (rvs.step r1 (Stp.new hp)))⟩
  · exact h1.elim
theorem d_lstM {es : List Expr} {t : EvL} (h : PA X es (tA X.K X.mg W t)) : PE X (.List es pos) (tD X.K X.mg W (eLstM t)) := by
  refine PE.imp (pe_lst h) fun σ H Q ⟨ρ, S, μ, e, s, h⟩ => ?_
  refine ⟨ρ, S, μ, e, s, h.bnd fun xs S1 μ1 H1 s1 r1 h1 vs rvs => ?_⟩
  split at h1
  · rename_i hl
    refine ⟨by rw [← rvs.length]; exact hl, fun p hp => ?_⟩
    exact h1 (μ1.push p) _ (Stp.alloc hp) (r1.alloc hp ⟨vs, upd_same, rvs.step r1 (Stp.alloc hp)⟩) _ (new_ref r1)
  · exact h1.elim
theorem d_chain {a b c : Expr} {op op' : CmpOp} {g g' : D → D → M D} {ta tb tc : EvD} (o : ORD X W (compareOp op) g) (o' : ORD X W (compareOp op') g') (ha : PE X a (tD X.K X.mg W ta)) (hb : PE X b (tD X.K X.mg W tb)) (hc : PE X c (tD X.K X.mg W tc))
    (hm : lastMarks [op, op'] [b, c] = false) : PE X (.Compare a [op, op'] [b, c] pos) (tD X.K X.mg W (eChain g g' ta tb tc)) := by
  obtain ⟨r, ho, hr⟩ := o
  obtain ⟨r', ho', hr'⟩ := o'
  refine PE.imp (pe_chain ho ho' ha hb hc hm) fun σ H Q ⟨ρ, S, μ, e, s, h⟩ => ?_
  refine ⟨ρ, S, μ, e, s, h.bnd fun x S1 μ1 H1 s1 r1 h1 v rv => ?_⟩
  refine ⟨ρ, S1, μ1, e.step s s1, r1, h1.bnd fun y S2 μ2 H2 s2 r2 h2 w rw => ?_⟩
  refine hr _ _ _ _ μ2 S2 σ H2 _ r2 (rv.step r1 s2) rw (h2.bnd fun z S3 μ3 H3 s3 r3 h3 u ru => ?_)
  split at h3
  · cases ru
    refine ⟨true, rfl, ?_⟩
    rw [if_pos rfl]
    refine ⟨ρ, S3, μ3, ((e.step s s1).step r1 s2).step r2 s3, r3, h3.bnd fun q S4 μ4 H4 s4 r4 h4 uu ruu => ?_⟩
    exact hr' _ _ _ _ μ4 S4 σ H4 Q r4 ((rw.step r2 s3).step r3 s4) ruu h4
  · cases ru
    refine ⟨false, rfl, ?_⟩
    rw [if_neg Bool.false_ne_true]
    exact h3.now r3 _ (.bl _)
  · exact h3.elim

theorem chain_ok {r r' : R2} {g g' : D → D → M D} {ta tb tc : EvD} {σ : L2.St} {H : Hp} {Q : VK} (hr : ∀ x y v w μ S σ H Q, Rel X.K μ S H → RD X.K μ H x v → RD X.K μ H y w → Post X.K X.mg W μ σ H (g x y S) (QD X.K Q) → r v w H Q)
    (hr' : ∀ x y v w μ S σ H Q, Rel X.K μ S H → RD X.K μ H x v → RD X.K μ H y w → Post X.K X.mg W μ σ H (g' x y S) (QD X.K Q) → r' v w H Q) (hh : tD X.K X.mg W (eChain g g' ta tb tc) σ H Q) : tChain r r' (tD X.K X.mg W ta) (tD X.K X.mg W tb) (tD X.K X.mg W tc) σ H Q := by
  obtain ⟨ρ, S, μ, e, s, h⟩ := hh
  refine ⟨ρ, S, μ, e, s, h.bnd fun x S1 μ1 H1 s1 r1 h1 v rv => ?_⟩
  refine ⟨ρ, S1, μ1, e.step s s1, r1, h1.bnd fun y S2 μ2 H2 s2 r2 h2 w rw => ?_⟩
  refine hr _ _ _ _ μ2 S2 σ H2 _ r2 (rv.step r1 s2) rw (h2.bnd fun z S3 μ3 H3 s3 r3 h3 u ru => ?_)
  split at h3
  · cases ru
    refine ⟨true, rfl, ?_⟩
    rw [if_pos rfl]
    refine ⟨ρ, S3, μ3, ((e.step s s1).step r1 s2).step r2 s3, r3, h3.bnd fun q S4 μ4 H4 s4 r4 h4 uu ruu => ?_⟩
    exact hr' _ _ _ _ μ4 S4 σ H4 Q r4 ((rw.step r2 s3).step r3 s4) ruu h4
  · cases ru
    refine ⟨false, rfl, ?_⟩
    rw [if_neg Bool.false_ne_true]
    exact h3.now r3 _ (.bl _)
  · exact h3.elim
theorem t_chain {a b c : Expr} {op op' : CmpOp} {g g' : D → D → M D} {ta tb tc : EvD} (o : ORD X W (compareOp op) g) (o' : ORD X W (compareOp op') g') (ha : PE X a (tD X.K X.mg W ta)) (hb : PE X b (tD X.K X.mg W tb)) (hc : PE X c (tD X.K X.mg W tc))
    (hm : lastMarks [op, op'] [b, c] = false) : PT X (.Compare a [op, op'] [b, c] pos) (tT X.K X.mg W (eTb (eChain g g' ta tb tc))) := by
  obtain ⟨r, ho, hr⟩ := o
  obtain ⟨r', ho', hr'⟩ := o'
  refine PT.imp (pt_chain ho ho' ha hb hc hm) fun σ H Q ⟨ρ, S, μ, e, s, h⟩ => ?_
  refine chain_ok hr hr' ⟨ρ, S, μ, e, s, ?_⟩
  exact h.bnd fun x S1 μ1 H1 s1 r1 h1 v rv => asBl_ok r1 rv h1

/-! ### calls of built-ins -/
def CRD (X : Cx) (W : WX) (f : Value) (g : List D → M D) : Prop := ∃ r, CallR X f r ∧
  ∀ ds vs μ S σ H Q, Rel X.K μ S H → RDs X.K μ H ds vs → Post X.K X.mg W μ σ H (g ds S) (QD X.K Q) → r vs H Q
theorem d_callB {id : String} {x : Str} {p : Pos} {e : Expr} {es : List Expr} {g : List D → M D} {t : EvL} (o : CRD X W (.builtin id) g) (hg : Gl X x) (hm : X.mg x = none) (hv : bootBuiltins x = some (.builtin id)) (ha : PA X (e :: es) (tA X.K X.mg W t))
    (hn : x ≠ "__name__" := by decide) (hdb : (x == ("__debug__" : Str)) = false := by decide)
    (he : starEach (e :: es) X.env = (false, eval e X.env) :: starEach es X.env := by rfl) (hpl : (backTo pos (starEach es X.env)).any (·.1) = false := by rfl) : PE X (.Call (.Name x p) (e :: es) [] pos) (tD X.K X.mg W (eCall g t)) := by
  obtain ⟨r, ho, hr⟩ := o
  refine PE.imp (pe_callB ho hg hm hv ha hn hdb he hpl) fun σ H Q ⟨ρ, S, μ, e, s, h⟩ => ?_
  exact ⟨ρ, S, μ, e, s, h.bnd fun xs S1 μ1 H1 s1 r1 h1 vs rvs => hr _ _ _ _ _ _ _ r1 rvs h1⟩
theorem d_callTy {T : String} {x : Str} {p : Pos} {e : Expr} {es : List Expr} {g : List D → M D} {t : EvL} (o : CRD X W (.type T) g) (hg : Gl X x) (hm : X.mg x = none) (hv : bootBuiltins x = some (.type T)) (ha : PA X (e :: es) (tA X.K X.mg W t))
    (hn : x ≠ "__name__" := by decide) (hdb : (x == ("__debug__" : Str)) = false := by decide)
    (he : starEach (e :: es) X.env = (false, eval e X.env) :: starEach es X.env := by rfl) (hpl : (backTo pos (starEach es X.env)).any (·.1) = false := by rfl) : PE X (.Call (.Name x p) (e :: es) [] pos) (tD X.K X.mg W (eCall g t)) := by
  obtain ⟨r, ho, hr⟩ := o
  refine PE.imp (pe_callTy ho hg hm hv ha hn hdb he hpl) fun σ H Q ⟨ρ, S, μ, e, s, h⟩ => ?_
  exact ⟨ρ, S, μ, e, s, h.bnd fun xs S1 μ1 H1 s1 r1 h1 vs rvs => hr _ _ _ _ _ _ _ r1 rvs h1⟩

def gLen (xs : List D) : M D := fun S => match xs with
  | [.str x] => if x.length ≤ sizeLine then .ok (.int x.length) S else .bad
  | [d] => match iLst S d with
    | some ds => .ok (.int ds.length) S
    | none => .bad
  | _ => .bad
theorem c_len : CRD X W (.builtin "len") gLen := by
  refine ⟨_, call_len, fun ds vs μ S σ H Q r rds h => ?_⟩
  unfold gLen at h
  split at h
  · split at h
    · rename_i hl
      cases rds with
      | cons h1 h2 => cases h1; cases h2; exact ⟨_, _, rfl, ⟨hl, rfl⟩, h.now r _ (.int _)⟩
    · exact h.elim
  · cases rds with
    | cons h1 h2 =>
      cases h2
      split at h
      · rename_i ds e
        obtain ⟨a, vs, rfl, q, z⟩ := iLst_ok e r h1
        have hl := z.length
        refine ⟨_, vs.length, rfl, ?_, by rw [← hl]; exact h.now r _ (.int _)⟩
        rcases q with q | q
        · exact .inl ⟨vs, q, rfl⟩
        · exact .inr ⟨vs, q, rfl⟩
      · exact h.elim
  · exact h.elim
def gInt (xs : List D) : M D := fun S => match xs with
  | [.int i] => .ok (.int i) S
  | [.bl k] => .ok (.int (if k then 1 else 0)) S
  | _ => .bad
theorem c_int : CRD X W (.type "int") gInt := by
  refine ⟨_, call_int1, fun ds vs μ S σ H Q r rds h => ?_⟩
  unfold gInt at h
  split at h
  · cases rds with
    | cons h1 h2 => cases h1; cases h2; exact .inl ⟨_, rfl, h.now r _ (.int _)⟩
  · cases rds with
    | cons h1 h2 => cases h1; cases h2; exact .inr ⟨_, rfl, h.now r _ (.int _)⟩
  · exact h.elim
def gStr (xs : List D) : M D := fun S => match xs with
  | [.int i] => if i.natAbs.log2 < 1920 then .ok (.str (toString i)) S else .bad
  | _ => .bad
theorem c_str : CRD X W (.type "str") gStr := by
  refine ⟨_, call_str_int, fun ds vs μ S σ H Q r rds h => ?_⟩
  unfold gStr at h
  split at h
  · cases rds with
    | cons h1 h2 =>
      cases h1; cases h2
      split at h
      · rename_i hl; exact ⟨_, rfl, hl, h.now r _ (.str _)⟩
      · exact h.elim
  · exact h.elim
def gList (xs : List D) : M D := fun S => match xs with
  | [d] => match iLst S d with
    | some ds => .ok (.lst ds) S
    | none => .bad
  | _ => .bad
def gListM (xs : List D) : M D := fun S => match xs with
  | [d] => match iLst S d with
    | some ds => .ok (.ref S.length) (S ++ [.lst ds])
    | none => .bad
  | _ => .bad
theorem c_list : CRD X W (.type "list") gList := by
  refine ⟨_, call_list_of, fun ds vs μ S σ H Q r rds h => ?_⟩
  unfold gList at h
  split at h
  · cases rds with
    | cons h1 h2 =>
      cases h2
      split at h
      · rename_i ds e
        obtain ⟨a, vs, rfl, q, z⟩ := iLst_ok e r h1
        exact ⟨_, _, rfl, q, fun p hp => h μ _ (Stp.new hp) (r.new hp) _ (.lst upd_same ⟨fun z => r.there z hp, fun z => r.hid _ z hp⟩ (z.step r (Stp.new hp)))⟩
      · exact h.elim
  · exact h.elim
theorem c_listM : CRD X W (.type "list") gListM := by
  refine ⟨_, call_list_of, fun ds vs μ S σ H Q r rds h => ?_⟩
  unfold gListM at h
  split at h
  · cases rds with
    | cons h1 h2 =>
      cases h2
      split at h
      · rename_i ds e
        obtain ⟨a, vs, rfl, q, z⟩ := iLst_ok e r h1
        exact ⟨_, _, rfl, q, fun p hp => h (μ.push p) _ (Stp.alloc hp) (r.alloc hp ⟨vs, upd_same, z.step r (Stp.alloc hp)⟩) _ (new_ref r)⟩
      · exact h.elim
  · exact h.elim
def gTuple (xs : List D) : M D := fun S => match xs with
  | [d] => match iLst S d with
    | some ds => .ok (.tup ds) S
    | none => .bad
  | _ => .bad
theorem c_tuple : CRD X W (.type "tuple") gTuple := by
  refine ⟨_, call_tuple_of, fun ds vs μ S σ H Q r rds h => ?_⟩
  unfold gTuple at h
  split at h
  · cases rds with
    | cons h1 h2 =>
      cases h2
      split at h
      · rename_i ds e
        obtain ⟨a, vs, rfl, q, z⟩ := iLst_ok e r h1
        refine ⟨_, vs, rfl, ?_⟩
        rcases q with q | q
        · exact .inl ⟨q, fun p hp => h μ _ (Stp.new hp) (r.new hp) _ (.tup (.inl (.inl upd_same)) (z.step r (Stp.new hp)))⟩
        · exact .inr ⟨q, h.now r _ (.tup q z)⟩
      · exact h.elim
  · exact h.elim
def blsOf : List D → Option (List Bool)
  | [] => some []
  | .bl b :: ds => (blsOf ds).map (b :: ·)
  | _ :: _ => none
def intsOf : List D → Option (List Int)
  | [] => some []
  | .int b :: ds => (intsOf ds).map (b :: ·)
  | _ :: _ => none
def strsOf : List D → Option (List Str)
  | [] => some []
  | .str b :: ds => (strsOf ds).map (b :: ·)
  | _ :: _ => none
theorem blsOf_ok : ∀ {ds : List D} {bs : List Bool}, blsOf ds = some bs → ds = bs.map D.bl
  | [], _, h => by cases h; rfl
  | d :: ds, bs, h => by
    unfold blsOf at h
    split at h
    · rename_i e; cases e
    · rename_i b ds' e; cases e
      rw [Option.map_eq_some_iff] at h
      obtain ⟨bs', e, rfl⟩ := h
      simp [blsOf_ok e]
    · cases h
theorem intsOf_ok : ∀ {ds : List D} {bs : List Int}, intsOf ds = some bs → ds = bs.map D.int
  | [], _, h => by cases h; rfl
  | d :: ds, bs, h => by
    unfold intsOf at h
    split at h
    · rename_i e; cases e
    · rename_i b ds' e; cases e
      rw [Option.map_eq_some_iff] at h
      obtain ⟨bs', e, rfl⟩ := h
      simp [intsOf_ok e]
    · cases h
theorem strsOf_ok : ∀ {ds : List D} {bs : List Str}, strsOf ds = some bs → ds = bs.map D.str
  | [], _, h => by cases h; rfl
  | d :: ds, bs, h => by
    unfold strsOf at h
    split at h
    · rename_i e; cases e
    · rename_i b ds' e; cases e
      rw [Option.map_eq_some_iff] at h
      obtain ⟨bs', e, rfl⟩ := h
      simp [strsOf_ok e]
    · cases h
theorem intsOf_map : ∀ ns : List Int, intsOf (ns.map D.int) = some ns
  | [] => rfl
  | n :: ns => by simp [intsOf, intsOf_map ns]
theorem blsOf_map : ∀ ns : List Bool, blsOf (ns.map D.bl) = some ns
  | [] => rfl
  | n :: ns => by simp [blsOf, blsOf_map ns]
theorem strsOf_map : ∀ ns : List Str, strsOf (ns.map D.str) = some ns
  | [] => rfl
  | n :: ns => by simp [strsOf, strsOf_map ns]
def gAll (xs : List D) : M D := fun S => match xs with
  | [d] => match (iSeq S d).bind blsOf with
    | some bs => .ok (.bl (bs.all id)) S
    | none => .bad
  | _ => .bad
def gAny (xs : List D) : M D := fun S => match xs with
  | [d] => match (iSeq S d).bind blsOf with
    | some bs => .ok (.bl (bs.any id)) S
    | none => .bad
  | _ => .bad
def gSum (xs : List D) : M D := fun S => match xs with
  | [d] => match (iSeq S d).bind intsOf with
    | some ns => .ok (.int ns.sum) S
    | none => .bad
  | _ => .bad
theorem c_all (hc : X.calm = true) : CRD X W (.builtin "all") gAll := by
  refine ⟨_, cr_all hc, fun ds vs μ S σ H Q r rds h => ?_⟩
  unfold gAll at h
  split at h
  · cases rds with
    | cons h1 h2 =>
      cases h2
      split at h
      · rename_i bs e
        rw [Option.bind_eq_some_iff] at e
        obtain ⟨ds, e1, e2⟩ := e
        obtain ⟨a, vs, rfl, q, z⟩ := iSeq_ok e1 r h1
        rw [blsOf_ok e2] at z
        rw [z.bls] at q
        exact ⟨_, _, rfl, q, h.now r _ (.bl _)⟩
      · exact h.elim
  · exact h.elim
theorem c_any (hc : X.calm = true) : CRD X W (.builtin "any") gAny := by
  refine ⟨_, cr_any hc, fun ds vs μ S σ H Q r rds h => ?_⟩
  unfold gAny at h
  split at h
  · cases rds with
    | cons h1 h2 =>
      cases h2
      split at h
      · rename_i bs e
        rw [Option.bind_eq_some_iff] at e
        obtain ⟨ds, e1, e2⟩ := e
        obtain ⟨a, vs, rfl, q, z⟩ := iSeq_ok e1 r h1
        rw [blsOf_ok e2] at z
        rw [z.bls] at q
        exact ⟨_, _, rfl, q, h.now r _ (.bl _)⟩
      · exact h.elim
  · exact h.elim
theorem c_sum (hc : X.calm = true) : CRD X W (.builtin "sum") gSum := by
  refine ⟨_, cr_sum hc, fun ds vs μ S σ H Q r rds h => ?_⟩
  unfold gSum at h
  split at h
  · cases rds with
    | cons h1 h2 =>
      cases h2
      split at h
      · rename_i bs e
        rw [Option.bind_eq_some_iff] at e
        obtain ⟨ds, e1, e2⟩ := e
        obtain ⟨a, vs, rfl, q, z⟩ := iSeq_ok e1 r h1
        rw [intsOf_ok e2] at z
        rw [z.ints] at q
        exact ⟨_, _, rfl, q, h.now r _ (.int _)⟩
      · exact h.elim
  · exact h.elim
def gMax2 (xs : List D) : M D := fun S => match xs with
  | [.int i, .int j] => .ok (.int (if j > i then j else i)) S
  | _ => .bad
def gMin2 (xs : List D) : M D := fun S => match xs with
  | [.int i, .int j] => .ok (.int (if j < i then j else i)) S
  | _ => .bad
theorem c_max2 (hc : X.calm = true) : CRD X W (.builtin "max") gMax2 := by
  refine ⟨_, call_max2 hc, fun ds vs μ S σ H Q r rds h => ?_⟩
  unfold gMax2 at h
  split at h
  · cases rds with
    | cons h1 h2 => cases h1; cases h2 with
      | cons h3 h4 => cases h3; cases h4; exact ⟨_, _, rfl, h.now r _ (.int _)⟩
  · exact h.elim
theorem c_min2 (hc : X.calm = true) : CRD X W (.builtin "min") gMin2 := by
  refine ⟨_, call_min2 hc, fun ds vs μ S σ H Q r rds h => ?_⟩
  unfold gMin2 at h
  split at h
  · cases rds with
    | cons h1 h2 => cases h1; cases h2 with
      | cons h3 h4 => cases h3; cases h4; exact ⟨_, _, rfl, h.now r _ (.int _)⟩
  · exact h.elim

/-! isinstance with a built-in type -/
def typN (S : Sto) : D → Option String
  | .non => some "NoneType"
  | .bl _ => some "bool"
  | .int _ => some "int"
  | .str _ => some "str"
  | .tup _ => some "tuple"
  | .lst _ => some "list"
  | .fl _ => some "list"
  | .ref n => match S[n]? with
    | some (.lst _) => some "list"
    | some (.dct _) => some "dict"
    | none => none
def isiN (a b : String) : Bool := a == b || (a == "bool" && b == "int")
def gIsi (T : String) (d : D) : M D := fun S => match typN S d with
  | some a => .ok (.bl (isiN a T)) S
  | none => .bad
def eIsi (T : String) (a : EvD) : EvD := fun ρ => bnd (a ρ) (gIsi T)
theorem typN_ok {K : PySem.W.Frag} {μ : Mu} {S : Sto} {H : Hp} {d : D} {v : V} {a : String} (e : typN S d = some a) (r : Rel K μ S H) (h : RD K μ H d v) : TyX K H v (.type a) ∧ a ∈ ["NoneType", "bool", "int", "str", "tuple", "list", "dict"] := by
  cases h with
  | non => cases e; exact ⟨.base .non, by decide⟩
  | bl b => cases e; exact ⟨.base (.bl _), by decide⟩
  | int b => cases e; exact ⟨.base (.int _), by decide⟩
  | str b => cases e; exact ⟨.base (.str _), by decide⟩
  | tup h1 h2 =>
    cases e
    refine ⟨?_, by decide⟩
    rcases h1 with (h1 | ⟨o, h1⟩) | ⟨o, its, n, h1, h3, _⟩
    · exact .base (.tup h1)
    · exact .fTuple h1
    · exact .kTuple h1 h3
  | lst h1 _ _ => cases e; exact ⟨.base (.lst h1), by decide⟩
  | fl h1 _ =>
    cases e
    refine ⟨?_, by decide⟩
    rcases h1 with ⟨o, h1⟩ | ⟨o, its, n, h1, h3, _⟩
    · exact .base (.frz h1)
    · exact .kList h1 h3
  | @ref n a h1 =>
    unfold typN at e
    simp only at e
    split at e
    · rename_i hs; cases e
      obtain ⟨vs, q, z⟩ := r.obj _ _ _ h1 hs
      exact ⟨.base (.lst q), by decide⟩
    · rename_i hs; cases e
      obtain ⟨vs, q, z⟩ := r.obj _ _ _ h1 hs
      exact ⟨.base (.dK q), by decide⟩
    · cases e
theorem isiN_ok {K : PySem.W.Frag} {a b : String} (ha : a ∈ ["NoneType", "bool", "int", "str", "tuple", "list", "dict"]) (hb : b ∈ ["bool", "int", "str", "tuple", "list", "dict"]) : PySem.W.kitOne K (.type a) (.type b) = some (isiN a b) := by
  have key : (["NoneType", "bool", "int", "str", "tuple", "list", "dict"].all fun a => ["bool", "int", "str", "tuple", "list", "dict"].all fun b => decide (kitB a b = some (isiN a b))) = true := by decide +kernel
  exact kit_ty (of_decide_eq_true (List.all_eq_true.mp (List.all_eq_true.mp key a ha) b hb))
theorem d_isi {e : Expr} {te : EvD} {p1 p2 : Pos} (T : String) {tn : Str} (hg : Gl X "isinstance") (hm : X.mg "isinstance" = none) (he : PE X e (tD X.K X.mg W te)) (gt : Gl X tn) (mt : X.mg tn = none) (bt : bootBuiltins tn = some (.type T)) (hT : T ∈ ["bool", "int", "str", "tuple", "list", "dict"])
    (nt : tn ≠ "__name__" := by decide) (dt : (tn == ("__debug__" : Str)) = false := by decide)
    (hs : starEach [e, .Name tn p2] X.env = (false, eval e X.env) :: starEach [.Name tn p2] X.env := by rfl) :
    PE X (.Call (.Name "isinstance" p1) [e, .Name tn p2] [] pos) (tD X.K X.mg W (eIsi T te)) := by
  refine PE.imp (pe_callB call_isi hg hm (by decide +kernel) (pa_cons he (pa_cons (pe_bltn gt mt bt (v := .ty T) rfl nt dt) pa_nil) hs) (by decide) (by decide) hs) fun σ H Q ⟨ρ, S, μ, e, s, h⟩ => ?_
  refine ⟨ρ, S, μ, e, s, h.bnd fun d S1 μ1 H1 s1 r1 h1 v rv => ?_⟩
  unfold gIsi at h1
  split at h1
  · rename_i a ea
    obtain ⟨ty, ma⟩ := typN_ok ea r1 rv
    exact ⟨_, _, _, _, _, rfl, .ty T, ty, isiN_ok ma hT, h1.now r1 _ (.bl _)⟩
  · exact h1.elim

/-! ### subscripts, slices -/
def gIx (x i : D) : M D := fun S => match x, i with
  | .str z, .int k => if z.length ≤ sizeLine then match atI z.cps.toList k with
      | some c => .ok (.str ⟨#[c]⟩) S
      | none => .bad
    else .bad
  | x, .int k => match iLst S x with
    | some ds => match atI ds k with
      | some d => .ok d S
      | none => .bad
    | none => .bad
  | _, _ => .bad
theorem atI_rel {K : PySem.W.Frag} {μ : Mu} {H : Hp} {ds : List D} {vs : List V} {i : Int} {d : D} (z : RDs K μ H ds vs) (e : atI ds i = some d) : ∃ v, atI vs i = some v ∧ RD K μ H d v := by
  unfold atI at e ⊢
  rw [Option.bind_eq_some_iff] at e
  obtain ⟨j, e1, e2⟩ := e
  obtain ⟨v, e3, rv⟩ := z.get e2
  exact ⟨v, by rw [← z.length, e1]; exact e3, rv⟩
theorem d_ix {a b : Expr} {ta tb : EvD} (ha : PE X a (tD X.K X.mg W ta)) (hb : PE X b (tD X.K X.mg W tb)) (hs : PlainIx b := by exact fun _ _ => rfl) : PE X (.Subscript a b pos) (tD X.K X.mg W (eBin gIx ta tb)) := by
  refine PE.imp (pe_ix ix_seq ha hb hs) fun σ H Q h => bin_ok (fun x y v w μ S σ H Q r rx ry h => ?_) h
  unfold gIx at h
  split at h
  · cases rx; cases ry
    split at h
    · rename_i hl
      split at h
      · rename_i c hc
        exact .inr (.inr ⟨_, _, _, rfl, rfl, hl, hc, h.now r _ (.str _)⟩)
      · exact h.elim
    · exact h.elim
  · cases ry
    split at h
    · rename_i ds e
      split at h
      · rename_i d ed
        obtain ⟨a, vs, rfl, q, z⟩ := iLst_ok e r rx
        obtain ⟨v, ev, rv⟩ := atI_rel z ed
        rcases q with q | q
        · exact .inl ⟨_, _, _, _, rfl, rfl, q, ev, h.now r _ rv⟩
        · exact .inr (.inl ⟨_, _, _, _, rfl, rfl, q, ev, h.now r _ rv⟩)
      · exact h.elim
    · exact h.elim
  · exact h.elim
abbrev EvO := Rho → M (Option Int)
def oNone : EvO := fun _ => ret none
def oSome (a : EvD) : EvO := fun ρ => bnd (a ρ) fun x => match x with
  | .int i => ret (some i)
  | _ => stuck
def tO (K : PySem.W.Frag) (mg : Str → Option Value) (W : WX) (F : EvO) : TO := fun σ H Q => ∃ ρ S μ, RE K μ H σ ρ ∧ Rel K μ S H ∧ Post K mg W μ σ H (F ρ S) (fun o _ H' => Q o H')
theorem PO.imp {e : Option Expr} {t t' : TO} (h : PO X e t) (f : ∀ σ H Q, t' σ H Q → t σ H Q) : PO X e t' := ⟨fun pins s σ H Q I q => h.run pins s σ H Q I (f σ H Q q)⟩
theorem o_none : PO X none (tO X.K X.mg W oNone) := PO.imp po_none fun σ H Q ⟨ρ, S, μ, e, s, h⟩ => h.now s
theorem o_some {e : Expr} {te : EvD} (h : PE X e (tD X.K X.mg W te)) : PO X (some e) (tO X.K X.mg W (oSome te)) := by
  refine PO.imp (po_some h) fun σ H Q ⟨ρ, S, μ, e, s, h⟩ => ?_
  refine ⟨ρ, S, μ, e, s, h.bnd fun x S1 μ1 H1 s1 r1 h1 v rv => ?_⟩
  split at h1
  · cases rv; exact ⟨_, rfl, h1.now r1⟩
  · exact h1.elim
def cutD (xs : List D) (lo hi : Option Int) : List D := (xs.drop (HT.sIx xs.length 0 lo)).take (HT.sIx xs.length xs.length hi - HT.sIx xs.length 0 lo)
theorem cut_rel {K : PySem.W.Frag} {μ : Mu} {H : Hp} {ds : List D} {vs : List V} (z : RDs K μ H ds vs) (lo hi : Option Int) : RDs K μ H (cutD ds lo hi) (cutV vs lo hi) := by
  unfold cutD cutV
  rw [z.length]
  exact (z.drop _).take _
def gSl (mu : Bool) (x : D) (lo hi : Option Int) : M D := fun S => match x with
  | .str z => if z.length ≤ sizeLine then .ok (.str (cutS z lo hi)) S else .bad
  | .tup ds => .ok (.tup (cutD ds lo hi)) S
  | x => match iSeq S x with
    | some ds => if mu then .ok (.ref S.length) (S ++ [.lst (cutD ds lo hi)]) else .ok (.lst (cutD ds lo hi)) S
    | none => .bad
def eSl (mu : Bool) (a : EvD) (lo hi : EvO) : EvD := fun ρ => bnd (a ρ) fun x => bnd (lo ρ) fun l => bnd (hi ρ) fun h => gSl mu x l h
theorem d_slice (mu : Bool) {e : Expr} {lo hi : Option Expr} {te : EvD} {tl th : EvO} {p2 : Pos} (he : PE X e (tD X.K X.mg W te)) (hl : PO X lo (tO X.K X.mg W tl)) (hu : PO X hi (tO X.K X.mg W th)) : PE X (.Subscript e (.Slice lo hi none p2) pos) (tD X.K X.mg W (eSl mu te tl th)) := by
  refine PE.imp (pe_slice (sl_str.or (sl_tupA.or sl_list)) he hl hu) fun σ H Q ⟨ρ, S, μ, e, s, h⟩ => ?_
  refine ⟨ρ, S, μ, e, s, h.bnd fun x S1 μ1 H1 s1 r1 h1 v rv => ?_⟩
  refine ⟨ρ, S1, μ1, e.step s s1, r1, h1.bnd fun l S2 μ2 H2 s2 r2 h2 => ?_⟩
  refine ⟨ρ, S2, μ2, (e.step s s1).step r1 s2, r2, h2.bnd fun u S3 μ3 H3 s3 r3 h3 => ?_⟩
  have rv3 := (rv.step r1 s2).step r2 s3
  unfold gSl at h3
  split at h3
  · cases rv3
    split at h3
    · rename_i hz; exact .inl ⟨_, rfl, hz, h3.now r3 _ (.str _)⟩
    · exact h3.elim
  · cases rv3 with
    | @tup a vs ds q z =>
      have hcut : HT.sIx vs.length 0 l = 0 ∧ HT.sIx vs.length vs.length u = vs.length → cutV vs l u = vs := fun ⟨e1, e2⟩ => by
        unfold cutV; rw [e1, e2]; simp
      refine .inr (.inl ⟨_, _, rfl, q, fun w => h3.now r3 _ (.tup q ?_), fun _ p hp => h3 μ3 _ (Stp.new hp) (r3.new hp) _ (.tup (.inl (.inl upd_same)) ((cut_rel z l u).step r3 (Stp.new hp)))⟩)
      have := cut_rel z l u
      rw [hcut w] at this
      exact this
  · split at h3
    · rename_i ds e
      obtain ⟨a, vs, rfl, q, z⟩ := iSeq_ok e r3 rv3
      refine .inr (.inr ⟨_, _, rfl, q, fun p hp => ?_⟩)
      cases mu with
      | true => exact h3 (μ3.push p) _ (Stp.alloc hp) (r3.alloc hp ⟨_, upd_same, (cut_rel z l u).step r3 (Stp.alloc hp)⟩) _ (new_ref r3)
      | false => exact h3 μ3 _ (Stp.new hp) (r3.new hp) _ (.lst upd_same ⟨fun z => r3.there z hp, fun z => r3.hid _ z hp⟩ ((cut_rel z l u).step r3 (Stp.new hp)))
    · exact h3.elim
def gRev (mu : Bool) (x : D) : M D := fun S => match iSeq S x with
  | some ds => if mu then .ok (.ref S.length) (S ++ [.lst ds.reverse]) else .ok (.lst ds.reverse) S
  | none => .bad
/-- xs[::-1] -/
theorem d_rev (mu : Bool) {e : Expr} {te : EvD} {k : Nat} {p1 p2 p3 : Pos} (he : PE X e (tD X.K X.mg W te)) : PE X (.Subscript e (.Slice none none (some (.UnaryOp .USub (.Constant (.int 1) k p1) p2)) p3) pos) (tD X.K X.mg W (eUn (gRev mu) te)) := by
  refine PE.imp (pe_revL he) fun σ H Q ⟨ρ, S, μ, e, s, h⟩ => ?_
  refine ⟨ρ, S, μ, e, s, h.bnd fun x S1 μ1 H1 s1 r1 h1 v rv => ?_⟩
  unfold gRev at h1
  split at h1
  · rename_i ds e
    obtain ⟨a, vs, rfl, q, z⟩ := iSeq_ok e r1 rv
    refine ⟨_, _, rfl, q, fun p hp => ?_⟩
    cases mu with
    | true => exact h1 (μ1.push p) _ (Stp.alloc hp) (r1.alloc hp ⟨_, upd_same, z.reverse.step r1 (Stp.alloc hp)⟩) _ (new_ref r1)
    | false => exact h1 μ1 _ (Stp.new hp) (r1.new hp) _ (.lst upd_same ⟨fun z => r1.there z hp, fun z => r1.hid _ z hp⟩ (z.reverse.step r1 (Stp.new hp)))
  · exact h1.elim
end
end DL

/-! DL4: methods, what is walked, comprehensions. -/
namespace DL
open PySem L2

/-! ### methods -/
def isTy (S : Sto) (T : String) (d : D) : Bool := match d with
  | .str _ => T == "str"
  | .lst _ => T == "list"
  | .fl _ => T == "list"
  | .ref n => match S[n]? with
    | some (.lst _) => T == "list"
    | some (.dct _) => T == "dict"
    | none => false
  | _ => false
def chkT (T : String) (d : D) : M D := fun S => if isTy S T d = true then .ok d S else .bad
def eMeth (T : String) (g : D → List D → M D) (o : EvD) (as : EvL) : EvD := fun ρ => bnd (o ρ) fun x => bnd (chkT T x) fun x => bnd (as ρ) fun xs => g x xs
section
variable {X : Cx} {W : WX} {pos : Pos}
theorem isTy_ok {K : PySem.W.Frag} {μ : Mu} {S : Sto} {H : Hp} {T : String} {d : D} {v : V} (e : isTy S T d = true) (r : Rel K μ S H) (h : RD K μ H d v) : tyV K T v H := by
  unfold isTy at e
  split at e
  · cases h; exact eq_of_beq e
  · cases h with | lst h1 _ _ => exact .inl ⟨eq_of_beq e, _, .inl (.inl h1)⟩
  · cases h with
    | fl h1 _ =>
      rcases h1 with ⟨o, h1⟩ | h1
      · exact .inl ⟨eq_of_beq e, _, .inl (.inr ⟨o, h1⟩)⟩
      · exact .inl ⟨eq_of_beq e, _, .inr h1⟩
  · cases h with
    | @ref n a h1 =>
      split at e
      · rename_i hs
        obtain ⟨vs, q, z⟩ := r.obj _ _ _ h1 hs
        exact .inl ⟨eq_of_beq e, _, .inl (.inl q)⟩
      · rename_i hs
        obtain ⟨vs, q, z⟩ := r.obj _ _ _ h1 hs
        exact .inr (.inr (.inl ⟨eq_of_beq e, .inl ⟨_, q⟩⟩))
      · cases e
  · cases e
def MRD (X : Cx) (W : WX) (id : String) (g : D → List D → M D) : Prop := ∃ r, MtR X id r ∧
  ∀ d ds v vs μ S σ H Q, Rel X.K μ S H → RD X.K μ H d v → RDs X.K μ H ds vs → Post X.K X.mg W μ σ H (g d ds S) (QD X.K Q) → r v vs H Q
theorem d_meth {o e : Expr} {es : List Expr} {to : EvD} {t : EvL} {name : Str} {apos cpos : Pos} {T id : String} {g : D → List D → M D} (pa : PlainAttrs T) (slot : Slot T name id) (hty : typeOf (.builtin id) = pure (.type "method_descriptor")) (m : MRD X W id g) (ho : PE X o (tD X.K X.mg W to)) (ha : PA X (e :: es) (tA X.K X.mg W t))
    (hbase : attributeBase o name X.env (eval o X.env) = eval o X.env := by rfl)
    (hfew : ((backTo cpos (starEach (e :: es) X.env)).all (fun x => !x.1) && (backToKw cpos (keywordEach [] X.env)).all (fun x => x.1.isSome)
      && decide ((e :: es).length + ([] : List Keyword).length + (if ([] : List Keyword).isEmpty then 0 else 1) < 30)) = true := by rfl)
    (hline : (apos.endLine == cpos.line) = true := by rfl) (hs : starEach (e :: es) X.env = (false, eval e X.env) :: starEach es X.env := by rfl) (hplain : (backTo cpos (starEach es X.env)).any (·.1) = false := by rfl) :
    PE X (.Call (.Attribute o name apos) (e :: es) [] cpos) (tD X.K X.mg W (eMeth T g to t)) := by
  obtain ⟨r, hm, hr⟩ := m
  refine PE.imp (pe_bm pa slot hty hm ho ha hbase hfew hline hs hplain) fun σ H Q ⟨ρ, S, μ, e, s, h⟩ => ?_
  refine ⟨ρ, S, μ, e, s, h.bnd fun x S1 μ1 H1 s1 r1 h1 v rv => ?_⟩
  by_cases ty : isTy S1 T x = true
  · have h1' : Post X.K X.mg W μ1 σ H1 (bnd (t ρ) (fun xs => g x xs) S1) (QD X.K Q) := by
      unfold bnd chkT at h1
      rw [if_pos ty] at h1
      exact h1
    exact ⟨isTy_ok ty r1 rv, ρ, S1, μ1, e.step s s1, r1, h1'.bnd fun xs S2 μ2 H2 s2 r2 h2 vs rvs => hr _ _ _ _ _ _ _ _ _ r2 (rv.step r1 s2) rvs h2⟩
  · unfold bnd chkT at h1
    rw [if_neg ty] at h1
    exact h1.elim
theorem d_meth0 {o : Expr} {to : EvD} {name : Str} {apos cpos : Pos} {T id : String} {g : D → List D → M D} (pa : PlainAttrs T) (slot : Slot T name id) (hty : typeOf (.builtin id) = pure (.type "method_descriptor")) (m : MRD X W id g) (ho : PE X o (tD X.K X.mg W to))
    (hbase : attributeBase o name X.env (eval o X.env) = eval o X.env := by rfl) (hline : (apos.endLine == cpos.line) = true := by rfl) :
    PE X (.Call (.Attribute o name apos) [] [] cpos) (tD X.K X.mg W (eMeth T g to aNil)) := by
  obtain ⟨r, hm, hr⟩ := m
  refine PE.imp (pe_bm0 pa slot hty hm ho hbase hline) fun σ H Q ⟨ρ, S, μ, e, s, h⟩ => ?_
  refine ⟨ρ, S, μ, e, s, h.bnd fun x S1 μ1 H1 s1 r1 h1 v rv => ?_⟩
  by_cases ty : isTy S1 T x = true
  · have h1' : Post X.K X.mg W μ1 σ H1 (g x [] S1) (QD X.K Q) := by
      unfold bnd chkT at h1
      rw [if_pos ty] at h1
      exact h1
    exact ⟨isTy_ok ty r1 rv, hr _ _ _ _ _ _ _ _ _ r1 rv .nil h1'⟩
  · unfold bnd chkT at h1
    rw [if_neg ty] at h1
    exact h1.elim

def gAppend (x : D) (xs : List D) : M D := fun S => match x, xs with
  | .ref n, [d] => match atL S n with
    | some ds => if ds.length < sizeLine then .ok .non (S.set n (.lst (ds ++ [d]))) else .bad
    | none => .bad
  | _, _ => .bad
theorem m_append : MRD X W "list.append" gAppend := by
  refine ⟨_, mt_append, fun d ds v vs μ S σ H Q r rd rds h => ?_⟩
  unfold gAppend at h
  split at h
  · cases rds with
    | cons h1 h2 =>
      cases h2
      split at h
      · rename_i ds e
        split at h
        · rename_i hl
          cases rd with
          | @ref n a hn =>
            obtain ⟨vs, q, z⟩ := r.obj _ a _ hn (atL_ok e)
            have hm : a ∈ μ.v := List.mem_of_getElem? hn
            refine ⟨a, vs, _, rfl, rfl, q, by rw [← z.length]; exact hl, ?_⟩
            exact h μ _ (Stp.put hm) (r.put hn ⟨_, upd_same, (z.step r (Stp.put hm)).append (.cons (h1.step r (Stp.put hm)) .nil)⟩) _ .non
        · exact h.elim
      · exact h.elim
  · exact h.elim
def gPop (x : D) (xs : List D) : M D := fun S => match x, xs with
  | .ref n, [] => match atL S n with
    | some ds => match ds[ds.length - 1]? with
      | some d => .ok d (S.set n (.lst ds.dropLast))
      | none => .bad
    | none => .bad
  | .ref n, [.int i] => match atL S n with
    | some ds => match seqIndex? i ds.length with
      | some k => match ds[k]? with
        | some d => if -(2 ^ 63) ≤ i ∧ i < 2 ^ 63 then .ok d (S.set n (.lst (ds.eraseIdx k))) else .bad
        | none => .bad
      | none => .bad
    | none => .bad
  | _, _ => .bad
theorem m_pop : MRD X W "list.pop" gPop := by
  refine ⟨_, MtR.or mt_pop mt_popAt, fun d ds v vs μ S σ H Q r rd rds h => ?_⟩
  unfold gPop at h
  split at h
  · cases rds
    split at h
    · rename_i ds e
      split at h
      · rename_i d ed
        cases rd with
        | @ref n a hn =>
          obtain ⟨vs, q, z⟩ := r.obj _ a _ hn (atL_ok e)
          have hm : a ∈ μ.v := List.mem_of_getElem? hn
          obtain ⟨v, ev, rv⟩ := z.get ed
          refine .inl ⟨a, vs, v, rfl, rfl, q, by rw [← z.length]; exact ev, ?_⟩
          exact h μ _ (Stp.put hm) (r.put hn ⟨_, upd_same, (z.step r (Stp.put hm)).dropLast⟩) _ (rv.step r (Stp.put hm))
      · exact h.elim
    · exact h.elim
  · cases rds with
    | cons h1 h2 =>
      cases h2; cases h1
      split at h
      · rename_i ds e
        split at h
        · rename_i k ek
          split at h
          · rename_i d ed
            split at h
            · rename_i hb
              cases rd with
              | @ref n a hn =>
                obtain ⟨vs, q, z⟩ := r.obj _ a _ hn (atL_ok e)
                have hm : a ∈ μ.v := List.mem_of_getElem? hn
                obtain ⟨v, ev, rv⟩ := z.get ed
                refine .inr ⟨a, vs, _, k, v, rfl, rfl, q, hb.1, hb.2, by rw [← z.length]; exact ek, ev, ?_⟩
                exact h μ _ (Stp.put hm) (r.put hn ⟨_, upd_same, (z.step r (Stp.put hm)).eraseIdx k⟩) _ (rv.step r (Stp.put hm))
            · exact h.elim
          · exact h.elim
        · exact h.elim
      · exact h.elim
  · exact h.elim
def gExtend (x : D) (xs : List D) : M D := fun S => match x, xs with
  | .ref n, [d] => match atL S n, iTrk S d with
    | some ds, some es => if ds.length + es.length ≤ sizeLine then .ok .non (S.set n (.lst (ds ++ es))) else .bad
    | _, _ => .bad
  | _, _ => .bad
theorem m_extend : MRD X W "list.extend" gExtend := by
  refine ⟨_, mt_extend, fun d ds v vs μ S σ H Q r rd rds h => ?_⟩
  unfold gExtend at h
  split at h
  · cases rds with
    | cons h1 h2 =>
      cases h2
      split at h
      · rename_i ds es e e2
        split at h
        · rename_i hl
          cases rd with
          | @ref n a hn =>
            obtain ⟨vs, q, z⟩ := r.obj _ a _ hn (atL_ok e)
            have hm : a ∈ μ.v := List.mem_of_getElem? hn
            obtain ⟨b, ws, rfl, q2, z2⟩ := iTrk_ok e2 r h1
            refine ⟨a, b, vs, ws, rfl, rfl, q, q2, by rw [← z.length, ← z2.length]; exact hl, ?_⟩
            exact h μ _ (Stp.put hm) (r.put hn ⟨_, upd_same, (z.step r (Stp.put hm)).append (z2.step r (Stp.put hm))⟩) _ .non
        · exact h.elim
      · exact h.elim
  · exact h.elim
def gSplit (mu : Bool) (x : D) (xs : List D) : M D := fun S => match x, xs with
  | .str a, [.str b] => if (b.length == 0) = false ∧ a.length + 2 ≤ sizeLine then
      (if mu then .ok (.ref S.length) (S ++ [.lst ((Txt.split a b).map .str)]) else .ok (.lst ((Txt.split a b).map .str)) S) else .bad
  | _, _ => .bad
theorem m_split (mu : Bool) : MRD X W "str.split" (gSplit mu) := by
  refine ⟨_, mt_split, fun d ds v vs μ S σ H Q r rd rds h => ?_⟩
  unfold gSplit at h
  split at h
  · cases rds with
    | cons h1 h2 =>
      cases h2; cases h1; cases rd
      split at h
      · rename_i hl
        refine ⟨_, _, rfl, rfl, hl.1, hl.2, fun p hp => ?_⟩
        cases mu with
        | true => exact h (μ.push p) _ (Stp.alloc hp) (r.alloc hp ⟨_, upd_same, RDs.of_strs _⟩) _ (new_ref r)
        | false => exact h μ _ (Stp.new hp) (r.new hp) _ (.lst upd_same ⟨fun z => r.there z hp, fun z => r.hid _ z hp⟩ (RDs.of_strs _))
      · exact h.elim
  · exact h.elim
def gJoin (x : D) (xs : List D) : M D := fun S => match x, xs with
  | .str a, [d] => match (iLst S d).bind strsOf with
    | some ys => if (ys.map (·.length)).sum + ys.length * a.length ≤ 16777216 then .ok (.str (Txt.join a ys)) S else .bad
    | none => .bad
  | _, _ => .bad
theorem m_join : MRD X W "str.join" gJoin := by
  refine ⟨_, mt_join, fun d ds v vs μ S σ H Q r rd rds h => ?_⟩
  unfold gJoin at h
  split at h
  · cases rds with
    | cons h1 h2 =>
      cases h2; cases rd
      split at h
      · rename_i ys e
        split at h
        · rename_i hl
          rw [Option.bind_eq_some_iff] at e
          obtain ⟨ds, e1, e2⟩ := e
          obtain ⟨a, vs, rfl, q, z⟩ := iLst_ok e1 r h1
          rw [strsOf_ok e2] at z
          rw [z.strs] at q
          exact ⟨_, _, _, rfl, rfl, q, hl, h.now r _ (.str _)⟩
        · exact h.elim
      · exact h.elim
  · exact h.elim
end

/-! ### what is walked -/
/-- the iterator J hands out what ds says; src: the stored list that must stand as ds meanwhile -/
def liveOk (src : Option Nat) (ds : List D) (S : Sto) : Prop := match src with
  | none => True
  | some n => S[n]? = some (.lst ds)
structure ItOk (K : PySem.W.Frag) (J : It) (src : Option Nat) (ds : List D) (G : Mu → Hp → Prop) : Prop where
  go : ∀ (i : Nat) (μ : Mu) (S : Sto) (H : Hp), i < ds.length → Rel K μ S H → liveOk src ds S → G μ H → J.go i H
  yld : ∀ (i : Nat) (x : V) (μ : Mu) (S : Sto) (H H' : Hp), i < ds.length → Rel K μ S H → liveOk src ds S → G μ H → J.yld i H x H' → Stp μ H μ H' ∧ Rel K μ S H' ∧ ∃ d, ds[i]? = some d ∧ RD K μ H' d x
  stop : ∀ (μ : Mu) (S : Sto) (H : Hp), Rel K μ S H → liveOk src ds S → G μ H → J.stop ds.length H
  step : ∀ (μ : Mu) (S : Sto) (H : Hp) (μ' : Mu) (H' : Hp), G μ H → Rel K μ S H → Stp μ H μ' H' → G μ' H'
  hide : ∀ (μ : Mu) (H : Hp) (p : Addr) (o : HO), G μ H → H p = none → G (μ.hide p) (upd H p o)
  seen : ∀ (μ : Mu) (H : Hp) (p : Addr) (xs ys : List V), G (μ.hide p) H → H p = some (.lst xs) → G (μ.hide p) (upd H p (.lst ys))
abbrev EvI := Rho → M (Option Nat × List D)
def tI (K : PySem.W.Frag) (mg : Str → Option Value) (W : WX) (F : EvI) : TI := fun σ H R => ∃ ρ S μ, RE K μ H σ ρ ∧ Rel K μ S H ∧
  Post K mg W μ σ H (F ρ S) (fun p μ' H' => ∀ J G, ItOk K J p.1 p.2 G → G μ' H' → R J H')
def srcL (d : D) : M (Option Nat × List D) := fun S => match d with
  | .tup ds => .ok (none, ds) S
  | .lst ds => .ok (none, ds) S
  | .fl ds => .ok (none, ds) S
  | .ref n => match atL S n with
    | some ds => .ok (some n, ds) S
    | none => .bad
  | .str x => .ok (none, x.cps.toList.map fun c => .str ⟨#[c]⟩) S
  | _ => .bad
def iIt (a : EvD) : EvI := fun ρ => bnd (a ρ) srcL
section
variable {K : PySem.W.Frag}
theorem it_tup {a : Addr} {ds : List D} : ItOk K (Itt K a) none ds (fun μ H => RD K μ H (.tup ds) (.ref a)) where
  go := fun i μ S H hi r _ g => by
    cases g with
    | tup q z =>
      obtain ⟨v, ev, _⟩ := z.get (List.getElem?_eq_getElem hi)
      exact ⟨_, v, q, ev⟩
  yld := fun i x μ S H H' hi r _ g y => by
    obtain ⟨rfl, y⟩ := y
    cases g with
    | tup q z =>
      obtain ⟨v, ev, rv⟩ := z.get (List.getElem?_eq_getElem hi)
      have := y _ q
      rw [this] at ev
      cases ev
      exact ⟨.refl, r, _, List.getElem?_eq_getElem hi, rv⟩
  stop := fun μ S H r _ g => by
    cases g with
    | tup q z => exact ⟨_, q, by rw [z.length]; exact Nat.le_refl _⟩
  step := fun μ S H μ' H' g r s => RD.step g r s
  hide := fun μ H p o g h => RD.hide h _ _ g
  seen := fun μ H p xs ys g h => RD.seen h _ _ g
theorem it_seq {a : Addr} {d : D} {src : Option Nat} {ds : List D} (hd : d = .lst ds ∨ d = .fl ds ∨ ∃ n, d = .ref n ∧ src = some n) : ItOk K (Itl K a) src ds (fun μ H => RD K μ H d (.ref a)) := by
  have key : ∀ (μ : Mu) (S : Sto) (H : Hp), Rel K μ S H → liveOk src ds S → RD K μ H d (.ref a) → ∃ vs, SqL K H a vs ∧ RDs K μ H ds vs := fun μ S H r l g => by
    have e : iSeq S d = some ds := by
      rcases hd with rfl | rfl | ⟨n, rfl, rfl⟩
      · rfl
      · rfl
      · show atL S n = some ds
        unfold atL
        have l' : S[n]? = some (.lst ds) := l
        rw [l']
    obtain ⟨a', vs, e1, q, z⟩ := iSeq_ok e r g
    cases e1
    exact ⟨vs, q, z⟩
  refine ⟨fun i μ S H hi r l g => ?_, fun i x μ S H H' hi r l g y => ?_, fun μ S H r l g => ?_, fun μ S H μ' H' g r s => RD.step g r s, fun μ H p o g h => RD.hide h _ _ g, fun μ H p xs ys g h => RD.seen h _ _ g⟩
  · obtain ⟨vs, q, z⟩ := key μ S H r l g
    obtain ⟨v, ev, _⟩ := z.get (List.getElem?_eq_getElem hi)
    exact ⟨_, v, q, ev⟩
  · obtain ⟨rfl, y⟩ := y
    obtain ⟨vs, q, z⟩ := key μ S _ r l g
    obtain ⟨v, ev, rv⟩ := z.get (List.getElem?_eq_getElem hi)
    have := y _ q
    rw [this] at ev
    cases ev
    exact ⟨.refl, r, _, List.getElem?_eq_getElem hi, rv⟩
  · obtain ⟨vs, q, z⟩ := key μ S H r l g
    exact ⟨_, q, by rw [z.length]; exact Nat.le_refl _⟩
theorem it_str {x : Str} : ItOk K (Its x) none (x.cps.toList.map fun c => D.str ⟨#[c]⟩) (fun _ _ => True) where
  go := fun i μ S H hi r _ g => by show i < x.cps.size; simpa using hi
  yld := fun i v μ S H H' hi r _ g y => by
    obtain ⟨rfl, c, ec, rfl⟩ := y
    refine ⟨.refl, r, _, ?_, .str _⟩
    rw [List.getElem?_map, Array.getElem?_toList, ec]
    rfl
  stop := fun μ S H r _ g => by show x.cps.size ≤ _; simp
  step := fun _ _ _ _ _ _ _ _ => trivial
  hide := fun _ _ _ _ _ _ => trivial
  seen := fun _ _ _ _ _ _ _ => trivial
def rangeD (lo : Int) (n : Nat) : List D := (List.range n).map fun i => .int (lo + (i : Nat))
theorem it_range {lo : Int} {n : Nat} : ItOk K (Itr lo n) none (rangeD lo n) (fun _ _ => True) where
  go := fun i μ S H hi r _ g => by show i < n; simpa [rangeD] using hi
  yld := fun i v μ S H H' hi r _ g y => by
    obtain ⟨rfl, rfl⟩ := y
    have hi' : i < n := by simpa [rangeD] using hi
    refine ⟨.refl, r, .int (lo + (i : Nat)), ?_, .int _⟩
    unfold rangeD
    rw [List.getElem?_map, List.getElem?_range hi']
    rfl
  stop := fun μ S H r _ g => by show n ≤ _; simp [rangeD]
  step := fun _ _ _ _ _ _ _ _ => trivial
  hide := fun _ _ _ _ _ _ => trivial
  seen := fun _ _ _ _ _ _ _ => trivial
theorem it_rev {a : Addr} {ds : List D} {d : D} {src : Option Nat} (hd : d = .lst ds ∨ d = .fl ds ∨ ∃ n, d = .ref n ∧ src = some n) : True := trivial
end
section
variable {X : Cx} {W : WX} {tg : Expr}
theorem PI.or {l : Expr} {w w' : TI} (h : PI X tg l w) (h' : PI X tg l w') : PI X tg l (fun σ H R => w σ H R ∨ w' σ H R) := ⟨fun pins s σ H R I q => by
  rcases q with q | q
  · exact h.run pins s σ H R I q
  · exact h'.run pins s σ H R I q⟩
theorem PI.imp {l : Expr} {w w' : TI} (h : PI X tg l w) (f : ∀ σ H R, w' σ H R → w σ H R) : PI X tg l w' := ⟨fun pins s σ H R I q => h.run pins s σ H R I (f σ H R q)⟩
theorem i_it {e : Expr} {te : EvD} (he : PE X e (tD X.K X.mg W te)) : PI X tg e (tI X.K X.mg W (iIt te)) := by
  refine PI.imp (PI.or (pi_list he) (PI.or (pi_tup he) (pi_str he))) fun σ H R ⟨ρ, S, μ, e, s, h⟩ => ?_
  cases hr : te ρ S with
  | bad => simp only [iIt, bnd, hr] at h; exact h.elim
  | ex x S1 =>
    refine .inl ⟨ρ, S, μ, e, s, ?_⟩
    simp only [iIt, bnd, hr] at h
    rw [hr]
    exact h
  | ok d S1 =>
    have h' : Post X.K X.mg W μ σ H (srcL d S1) (fun p μ' H' => ∀ J G, ItOk X.K J p.1 p.2 G → G μ' H' → R J H') := by
      simp only [iIt, bnd, hr] at h; exact h
    unfold srcL at h'
    split at h'
    · refine .inr (.inl ⟨ρ, S, μ, e, s, ?_⟩)
      rw [hr]
      intro μ1 H1 s1 r1 v rv
      have rv0 := rv
      cases rv with
      | tup q z => exact ⟨_, rfl, ⟨_, q⟩, (h'.mono s1).now r1 _ _ it_tup rv0⟩
    · refine .inl ⟨ρ, S, μ, e, s, ?_⟩
      rw [hr]
      intro μ1 H1 s1 r1 v rv
      have rv0 := rv
      cases rv with
      | lst q _ z => exact ⟨_, rfl, ⟨_, .inl (.inl q)⟩, (h'.mono s1).now r1 _ _ (it_seq (.inl rfl)) rv0⟩
    · refine .inl ⟨ρ, S, μ, e, s, ?_⟩
      rw [hr]
      intro μ1 H1 s1 r1 v rv
      obtain ⟨a, vs, rfl, q, z⟩ := iSeq_ok (d := .fl _) (S := S1) rfl r1 rv
      exact ⟨_, rfl, ⟨_, q⟩, (h'.mono s1).now r1 _ _ (it_seq (.inr (.inl rfl))) rv⟩
    · split at h'
      · rename_i ds e1
        refine .inl ⟨ρ, S, μ, e, s, ?_⟩
        rw [hr]
        intro μ1 H1 s1 r1 v rv
        obtain ⟨a, vs, rfl, q, z⟩ := iSeq_ok (d := .ref _) (S := S1) e1 r1 rv
        exact ⟨_, rfl, ⟨_, q⟩, (h'.mono s1).now r1 _ _ (it_seq (.inr (.inr ⟨_, rfl, rfl⟩))) rv⟩
      · exact h'.elim
    · refine .inr (.inr ⟨ρ, S, μ, e, s, ?_⟩)
      rw [hr]
      intro μ1 H1 s1 r1 v rv
      cases rv
      exact ⟨_, rfl, (h'.mono s1).now r1 _ _ it_str trivial⟩
    · exact h'.elim
def bnd62 (j : Int) : Bool := decide (-(2 ^ 62) ≤ j ∧ j < 2 ^ 62)
def srcR1 (xs : List D) : M (Option Nat × List D) := fun S => match xs with
  | [.int j] => if bnd62 j = true then .ok (none, rangeD 0 j.toNat) S else .bad
  | _ => .bad
def srcR2 (xs : List D) : M (Option Nat × List D) := fun S => match xs with
  | [.int i, .int j] => if bnd62 i = true ∧ bnd62 j = true then .ok (none, rangeD i (j - i).toNat) S else .bad
  | _ => .bad
def iRange1 (as : EvL) : EvI := fun ρ => bnd (as ρ) srcR1
def iRange2 (as : EvL) : EvI := fun ρ => bnd (as ρ) srcR2
theorem i_range1 {a : Expr} {ta : EvL} {p pos : Pos} (hg : Gl X "range") (hm : X.mg "range" = none) (ha : PA X [a] (tA X.K X.mg W ta)) (hs : starEach [a] X.env = [(false, eval a X.env)] := by rfl) : PI X tg (.Call (.Name "range" p) [a] [] pos) (tI X.K X.mg W (iRange1 ta)) := by
  refine PI.imp (pi_range1 hg hm ha hs) fun σ H R ⟨ρ, S, μ, e, s, h⟩ => ?_
  refine ⟨ρ, S, μ, e, s, h.bnd fun xs S1 μ1 H1 s1 r1 h1 vs rvs => ?_⟩
  unfold srcR1 at h1
  split at h1
  · split at h1
    · rename_i hb
      unfold bnd62 at hb
      rw [decide_eq_true_eq] at hb
      cases rvs with
      | cons q1 q2 => cases q1; cases q2; exact ⟨_, rfl, hb.1, hb.2, h1.now r1 _ _ it_range trivial⟩
    · exact h1.elim
  · exact h1.elim
theorem i_range2 {a b : Expr} {ta : EvL} {p pos : Pos} (hg : Gl X "range") (hm : X.mg "range" = none) (ha : PA X [a, b] (tA X.K X.mg W ta)) (hs : starEach [a, b] X.env = [(false, eval a X.env), (false, eval b X.env)] := by rfl) (hs2 : starEach [b] X.env = [(false, eval b X.env)] := by rfl) :
    PI X tg (.Call (.Name "range" p) [a, b] [] pos) (tI X.K X.mg W (iRange2 ta)) := by
  refine PI.imp (pi_range2 hg hm ha hs hs2) fun σ H R ⟨ρ, S, μ, e, s, h⟩ => ?_
  refine ⟨ρ, S, μ, e, s, h.bnd fun xs S1 μ1 H1 s1 r1 h1 vs rvs => ?_⟩
  unfold srcR2 at h1
  split at h1
  · split at h1
    · rename_i hb
      unfold bnd62 at hb
      simp only [decide_eq_true_eq] at hb
      cases rvs with
      | cons q1 q2 => cases q2 with
        | cons q2 q3 => cases q1; cases q2; cases q3; exact ⟨_, _, rfl, ⟨hb.1.1, hb.1.2, hb.2.1, hb.2.2⟩, h1.now r1 _ _ it_range trivial⟩
    · exact h1.elim
  · exact h1.elim

/-! ### targets -/
theorem wipe_get (σ : L2.St) : ∀ (vs : List Nat) (j : Nat), (L2.wipe σ vs)[j]? = if j ∈ vs ∧ j < σ.length then some none else σ[j]?
  | [], j => by simp [L2.wipe]
  | v :: vs, j => by
    unfold L2.wipe
    rw [List.getElem?_set, wipe_get σ vs j, L2.wipe_length]
    by_cases h : v = j
    · subst h
      by_cases h2 : v < σ.length
      · simp [h2]
      · simp [h2]
    · have h' : ¬ j = v := fun e => h e.symm
      simp [h, h']
theorem wipe_twice (σ : L2.St) (vs : List Nat) : L2.wipe (L2.wipe σ vs) vs = L2.wipe σ vs := by
  apply List.ext_getElem?
  intro j
  rw [wipe_get, wipe_get, L2.wipe_length]
  split <;> rfl
theorem wipe_set {σ : L2.St} {i : Nat} {x : Option V} {vs : List Nat} (h : i ∈ vs) : L2.wipe (σ.set i x) vs = L2.wipe σ vs := by
  apply List.ext_getElem?
  intro j
  rw [wipe_get, wipe_get, List.length_set]
  by_cases hj : j ∈ vs ∧ j < σ.length
  · rw [if_pos hj, if_pos hj]
  · rw [if_neg hj, if_neg hj, List.getElem?_set]
    by_cases e : i = j
    · subst e
      have hl : ¬ i < σ.length := fun z => hj ⟨h, z⟩
      rw [if_pos rfl, if_neg hl, List.getElem?_eq_none (by omega)]
    · rw [if_neg e]
def GRD (X : Cx) (is : List Nat) (tgt : D → Rho → Option Rho) (g : TG) : Prop := ∀ (d : D) (v : V) (ρ ρ' : Rho) (σ : L2.St) (μ : Mu) (S : Sto) (H : Hp) (Q : L2.St → Hp → Prop), RE X.K μ H σ ρ → Rel X.K μ S H → RD X.K μ H d v → tgt d ρ = some ρ' →
  (∀ σ', RE X.K μ H σ' ρ' → (∀ vs, (∀ i ∈ is, i ∈ vs) → L2.wipe σ' vs = L2.wipe σ vs) → Q σ' H) → g v σ H Q
def gN (i : Nat) : D → Rho → Option Rho := fun d ρ => some (ρ.set i (some d))
theorem g_name (i : Nat) : GRD X [i] (gN i) (gName i) := fun d v ρ ρ' σ μ S H Q e r rd h q => by
  cases h
  exact q _ (e.set rd i) fun vs hv => wipe_set (hv i (by simp))
abbrev TgL := List D → Rho → Option Rho
def gN0 : TgL := fun ds ρ => match ds with
  | [] => some ρ
  | _ => none
def gNs (i : Nat) (t : TgL) : TgL := fun ds ρ => match ds with
  | d :: ds => t ds (ρ.set i (some d))
  | [] => none
def GRDs (X : Cx) (is : List Nat) (tgt : TgL) (g : TGs) : Prop := ∀ (ds : List D) (vs : List V) (ρ ρ' : Rho) (σ : L2.St) (μ : Mu) (S : Sto) (H : Hp) (Q : L2.St → Hp → Prop), RE X.K μ H σ ρ → Rel X.K μ S H → RDs X.K μ H ds vs → tgt ds ρ = some ρ' →
  (∀ σ', RE X.K μ H σ' ρ' → (∀ vs, (∀ i ∈ is, i ∈ vs) → L2.wipe σ' vs = L2.wipe σ vs) → Q σ' H) → g vs σ H Q
theorem gs_nil : GRDs X [] gN0 gNil := fun ds vs ρ ρ' σ μ S H Q e r rd h q => by
  unfold gN0 at h
  split at h
  · cases h; cases rd; exact ⟨rfl, q _ e fun _ _ => rfl⟩
  · cases h
theorem gs_cons (i : Nat) {is : List Nat} {t : TgL} {g : TGs} (ht : GRDs X is t g) : GRDs X (i :: is) (gNs i t) (gCons (gName i) g) := fun ds vs ρ ρ' σ μ S H Q e r rd h q => by
  unfold gNs at h
  split at h
  · cases rd with
    | cons h1 h2 => exact ⟨_, _, rfl, ht _ _ _ _ _ _ _ _ _ (e.set h1 i) r h2 h fun σ' e' w => q σ' e' fun vs hv => (w vs fun j hj => hv j (by simp [hj])).trans (wipe_set (hv i (by simp)))⟩
  · cases h
def gTp (n : Nat) (t : TgL) : D → Rho → Option Rho := fun d ρ => match d with
  | .tup ds => if ds.length = n then t ds ρ else none
  | _ => none
theorem g_tup {n : Nat} {is : List Nat} {t : TgL} {g : TGs} (ht : GRDs X is t g) : GRD X is (gTp n t) (gTup X.K n g) := fun d v ρ ρ' σ μ S H Q e r rd h q => by
  unfold gTp at h
  split at h
  · split at h
    · rename_i hl
      cases rd with
      | tup h1 h2 => exact ⟨_, _, rfl, h1, by rw [← h2.length]; exact hl, ht _ _ _ _ _ _ _ _ _ e r h2 h q⟩
    · cases h
  · cases h

/-! ### comprehensions -/
open Classical in
noncomputable def compM (src : Option Nat) (all : List D) (tgt : D → Rho → Option Rho) (test : EvB) (el : EvD) (ρ : Rho) : List D → M (List D)
  | [] => fun S => if liveOk src all S then .ok [] S else .bad
  | d :: ds => fun S => if liveOk src all S then (match tgt d ρ with
    | some ρ1 => bnd (test ρ1) (fun b => if b = true then bnd (el ρ1) (fun y => bnd (compM src all tgt test el ρ ds) fun ys => ret (y :: ys)) else compM src all tgt test el ρ ds) S
    | none => .bad) else .bad
def noEx {α : Type} (m : M α) : M α := fun S => match m S with
  | .ex _ _ => .bad
  | r => r
noncomputable def eComp (it : EvI) (tgt : D → Rho → Option Rho) (test : EvB) (el : EvD) (vs : List Nat) : EvD := fun ρ => bnd (it ρ) fun p => noEx (fun S => if p.2.length ≤ sizeLine then
  (match compM p.1 p.2 tgt test el (wipeR ρ vs) p.2 S with
    | .ok ys S' => .ok (.lst ys) S'
    | .ex e S' => .ex e S'
    | .bad => .bad) else .bad)
def bYes : EvB := fun _ => ret true
abbrev W0 : WX := fun _ _ _ _ => False
theorem ts_nil : PTs X [] (tT X.K X.mg W bYes) := ⟨fun pins s σ H Q I ⟨ρ, S, μ, e, r, h⟩ => (pts_nil (X := X)).run pins s σ H Q I (show Q true H from h.now r)⟩
theorem ts_one {c : Expr} {t : EvB} (h : PT X c (tT X.K X.mg W t)) : PTs X [c] (tT X.K X.mg W t) := pts_one h
def okR {α : Type} (c : R α) (F : α → Sto → Prop) : Prop := match c with
  | .ok a S => F a S
  | _ => False
theorem Stp.side {μ μ' : Mu} {H H' : Hp} {p : Addr} {o : HO} (s : Stp μ H μ' H') (hp : H p = none) : Stp μ H μ' (upd H' p o) := by
  obtain ⟨q, k, t⟩ := s
  refine ⟨q, fun a u e z => by rw [upd_ne (ne_of_none e hp)]; exact k a u e z, fun a e => ?_⟩
  by_cases z : a = p
  · rw [z, upd_same]; simp
  · rw [upd_ne z]; exact t a e
theorem okR_bnd {α β : Type} {m : M α} {k : α → M β} {S : Sto} {F : β → Sto → Prop} (h : okR (bnd m k S) F) : okR (m S) fun a S' => okR (k a S') F := by
  unfold bnd at h
  cases e : m S with
  | ok a S' => rw [e] at h; exact h
  | ex x S' => rw [e] at h; exact h
  | bad => rw [e] at h; exact h
theorem okR_post {K : PySem.W.Frag} {mg : Str → Option Value} {W : WX} {μ : Mu} {σ : L2.St} {H : Hp} {α : Type} {r : R α} {F : α → Sto → Prop} {Q : α → Mu → Hp → Prop} (h : okR r F) (f : ∀ a S' μ' H', F a S' → Stp μ H μ' H' → Rel K μ' S' H' → Q a μ' H') : Post K mg W μ σ H r Q := by
  cases r with
  | ok a S => exact fun μ' H' s r => f a S μ' H' h s r
  | ex e S => exact False.elim h
  | bad => exact False.elim h
theorem comp_ok {it : EvI} {tgt : D → Rho → Option Rho} {g : TG} {test : EvB} {el : EvD} {is vs : List Nat} (hG : GRD X is tgt g) (his : ∀ i ∈ is, i ∈ vs) {σ : L2.St} {H : Hp} {Q : VK}
    (hh : tD X.K X.mg W (eComp it tgt test el vs) σ H Q) : tLc (tI X.K X.mg W it) g (tT X.K X.mg W0 test) (tD X.K X.mg W0 el) vs σ H Q := by
  obtain ⟨ρ, S, μ, e, s, h⟩ := hh
  refine ⟨ρ, S, μ, e, s, h.bnd fun p S1 μ1 H1 s1 r1 h1 J G io gg D hD => ?_⟩
  obtain ⟨src, all⟩ := p
  simp only [] at io h1
  -- what the denotation says
  obtain ⟨hlen, fin⟩ : all.length ≤ sizeLine ∧ okR (compM src all tgt test el (wipeR ρ vs) all S1) (fun ys S' => ∀ μ' H', Stp μ1 H1 μ' H' → Rel X.K μ' S' H' → QD X.K Q (.lst ys) μ' H') := by
    unfold noEx at h1
    simp only [] at h1
    by_cases hl : all.length ≤ sizeLine
    · refine ⟨hl, ?_⟩
      rw [if_pos hl] at h1
      cases ec : compM src all tgt test el (wipeR ρ vs) all S1 with
      | ok ys S' => rw [ec] at h1; exact h1
      | ex e S' => rw [ec] at h1; exact h1
      | bad => rw [ec] at h1; exact h1
    · rw [if_neg hl] at h1; exact h1.elim
  have hDx : D ∉ μ1.x := fun z => r1.hid D z hD
  let Inv (i : Nat) (Hc : Hp) : Prop := ∃ Sc μc acc as, i ≤ all.length ∧ Stp μ1 H1 μc Hc ∧ Rel X.K (μc.hide D) Sc Hc ∧ RE X.K (μc.hide D) Hc (L2.wipe σ vs) (wipeR ρ vs) ∧ G (μc.hide D) Hc ∧ Hc D = some (.lst acc) ∧ RDs X.K (μc.hide D) Hc as acc ∧ as.length ≤ i ∧
    okR (compM src all tgt test el (wipeR ρ vs) (all.drop i) Sc) (fun ys S' => ∀ μ' H', Stp μ1 H1 μ' H' → Rel X.K μ' S' H' → QD X.K Q (.lst (as ++ ys)) μ' H')
  refine ⟨fun i m Hc => m = all.length - i ∧ Inv i Hc, ⟨all.length, by simp, ?_⟩, ?_⟩
  · refine ⟨S1, μ1, [], [], Nat.zero_le _, Stp.new hD, r1.hide hD, ((e.step s s1).wipe vs).mapR (RD.hide hD), io.hide _ _ _ _ gg hD, upd_same, .nil, Nat.le_refl _, ?_⟩
    simpa using fin
  · rintro i m Hc ⟨rfl, Sc, μc, acc, as, hi2, st, rel, re, hG2, hacc, rds, hal, done⟩
    by_cases hlt : i < all.length
    · right
      have hdrop : all.drop i = all[i] :: all.drop (i + 1) := List.drop_eq_getElem_cons hlt
      rw [hdrop] at done
      unfold compM at done
      by_cases hlive : liveOk src all Sc
      · rw [if_pos hlive] at done
        split at done
        · rename_i ρ1 hρ1
          refine ⟨io.go i _ Sc Hc hlt rel hlive hG2, fun H' => Inv (i + 1) H', fun H' q => ⟨all.length - (i + 1), by omega, rfl, q⟩, fun x H' y => ?_⟩
          obtain ⟨sy, ry, d, hd, rd⟩ := io.yld i x _ Sc Hc H' hlt rel hlive hG2 y
          rw [List.getElem?_eq_getElem hlt] at hd
          cases hd
          obtain ⟨μy, ey, sty⟩ := sy.show
          have eμ : μy = μc := by
            obtain ⟨v1, x1⟩ := μy
            obtain ⟨v2, x2⟩ := μc
            simp only [Mu.hide, Mu.mk.injEq, List.cons.injEq, true_and] at ey
            obtain ⟨rfl, rfl⟩ := ey
            rfl
          subst eμ
          have notv : ∀ (μ : Mu) (Sx : Sto) (Hx : Hp), Rel X.K (μ.hide D) Sx Hx → D ∉ (μ.hide D).v := fun μ Sx Hx r z => r.apt D z List.mem_cons_self
          have haccy : H' D = some (.lst acc) := sy.keep D _ hacc (notv _ _ _ rel)
          refine hG _ _ _ ρ1 _ _ Sc H' _ (re.step rel sy) ry rd hρ1 fun σ2 re2 hw => ⟨(hw vs his).trans (wipe_twice σ vs), ρ1, Sc, _, re2, ry, ?_⟩
          have done2 := okR_bnd done
          refine okR_post done2 fun b S2 μ2 H3 db s3 r3 => ?_
          obtain ⟨μ2', rfl, st3⟩ := s3.show
          have haccb : H3 D = some (.lst acc) := s3.keep D _ haccy (notv _ _ _ ry)
          have rds3 := (rds.step rel sy).step ry s3
          have re3 := (re.step rel sy).step ry s3
          have g3 := io.step _ _ _ _ _ (io.step _ _ _ _ _ hG2 rel sy) ry s3
          have stt := (st.trans sty).trans st3
          cases b with
          | false =>
            rw [if_neg Bool.false_ne_true] at db ⊢
            exact ⟨S2, μ2', acc, as, hlt, stt, r3, re3, g3, haccb, rds3, Nat.le_succ_of_le hal, db⟩
          | true =>
            rw [if_pos rfl] at db ⊢
            refine ⟨ρ1, S2, _, re2.step ry s3, r3, ?_⟩
            refine okR_post (okR_bnd db) fun yv S4 μ4 H4 d4 s4 r4 v rv => ?_
            obtain ⟨μ4', rfl, st4⟩ := s4.show
            have hacc4 : H4 D = some (.lst acc) := s4.keep D _ haccb (notv _ _ _ r3)
            have rds4 := rds3.step r3 s4
            refine ⟨acc, hacc4, by rw [← rds4.length]; omega, S4, μ4', acc ++ [v], as ++ [yv], hlt, (stt.trans st4).side hD, r4.seen hacc4, (re3.step r3 s4).mapR (RD.seen hacc4), io.seen _ _ _ _ _ (io.step _ _ _ _ _ g3 r3 s4) hacc4, upd_same,
              RDs.seen hacc4 _ _ (rds4.append (.cons rv .nil)), by simp; omega, ?_⟩
            have d5 := okR_bnd d4
            unfold okR at d5 ⊢
            split
            · rename_i ys S' hys
              rw [hys] at d5
              intro μ' H5 sx rx
              have := d5 μ' H5 sx rx
              simpa using this
            · rename_i hno
              split at d5
              · rename_i a S' hh; exact absurd hh (hno a S')
              · exact d5
        · exact done.elim
      · rw [if_neg hlive] at done; exact done.elim
    · left
      have hi3 : i = all.length := by omega
      subst hi3
      rw [List.drop_length] at done
      unfold compM at done
      by_cases hlive : liveOk src all Sc
      · rw [if_pos hlive] at done
        refine ⟨io.stop _ Sc Hc rel hlive hG2, ?_⟩
        have z := done μc Hc st rel.show
        refine z _ (.lst hacc ⟨fun w => rel.apt D w List.mem_cons_self, by rw [st.x]; exact hDx⟩ ?_)
        simpa using rds.show
      · rw [if_neg hlive] at done; exact done.elim
theorem d_comp {elt iter : Expr} {ifs : List Expr} {scope : Scope} {own : List (Str × Nat)} {vs : List Nat} {pos : Pos} {it : EvI} {tgt : D → Rho → Option Rho} {g : TG} {test : EvB} {el : EvD} {is : List Nat} (hc : X.calm = true) (hN : X.N.Nodup)
    (hi : PI X tg iter (tI X.K X.mg W it)) (ok : BlkOk X.N X.env.scope scope own) (hv : own.map (·.2) = vs) (hG : GRD X is tgt g) (his : ∀ i ∈ is, i ∈ vs)
    (hg : ∀ (s : Shared) (H : Hp) (C : Addr) (cl : List (Str × Addr)) (fp : List Addr), PG (X.blk s H scope (compEnvC scope cl C X.env) fp) tg g)
    (ht : ∀ (s : Shared) (H : Hp) (C : Addr) (cl : List (Str × Addr)) (fp : List Addr), PTs (X.blk s H scope (compEnvC scope cl C X.env) fp) ifs (tT X.K X.mg W0 test))
    (he : ∀ (s : Shared) (H : Hp) (C : Addr) (cl : List (Str × Addr)) (fp : List Addr), PE (X.blk s H scope (compEnvC scope cl C X.env) fp) elt (tD X.K X.mg W0 el)) (hs : ∀ x, foldedSetIterable iter X.env x = pure x := by intro _; rfl) :
    PE X (.ListComp elt [⟨tg, iter, ifs, 0⟩] scope pos) (tD X.K X.mg W (eComp it tgt test el vs)) := by
  subst hv
  exact PE.imp (pe_lc hc hN hi ok hg ht he hs) fun σ H Q h => comp_ok hG his h
end
end DL

/-! DL5: statements, defs. -/
namespace DL
open PySem L2 PyProof.Rows

inductive Out where
  | nx (ρ : Rho) | rt (d : D) | bk (ρ : Rho) | ct (ρ : Rho) | xc (e : Exc) (ρ : Rho)
abbrev EvS := Rho → M Out
/-- an expression within a statement -/
def lft {α : Type} (ρ : Rho) (m : M α) (k : α → M Out) : M Out := fun S => match m S with
  | .ok a S' => k a S'
  | .ex e S' => .ok (.xc e ρ) S'
  | .bad => .bad
section
variable (K : PySem.W.Frag) (mg : Str → Option Value) (W : WX)
def OutOk (E : Ends) (o : Out) (μ : Mu) (H : Hp) : Prop := match o with
  | .nx ρ => ∀ σ, RE K μ H σ ρ → E.nx σ H
  | .rt d => ∀ v, RD K μ H d v → E.rt v H
  | .bk ρ => ∀ σ, RE K μ H σ ρ → E.bk σ H
  | .ct ρ => ∀ σ, RE K μ H σ ρ → E.ct σ H
  | .xc e ρ => ∀ σ c od, RE K μ H σ ρ → RX K mg μ H e c od → W c od σ H
def PostO (E : Ends) (μ : Mu) (H : Hp) (r : R Out) : Prop := okR r fun o S' => ∀ μ' H', Stp μ H μ' H' → Rel K μ' S' H' → OutOk K mg W E o μ' H'
def tS (G : EvS) : TS := fun E σ H => ∃ ρ S μ, RE K μ H σ ρ ∧ Rel K μ S H ∧ PostO K mg W E μ H (G ρ S)
end
section
variable {K : PySem.W.Frag} {mg : Str → Option Value} {W : WX} {μ μ1 : Mu} {σ : L2.St} {H H1 : Hp} {E : Ends}
theorem PostO.mono {r : R Out} (h : PostO K mg W E μ H r) (s : Stp μ H μ1 H1) : PostO K mg W E μ1 H1 r := by
  cases r with
  | ok o S => exact fun μ' H' q r => h μ' H' (s.trans q) r
  | ex e S => exact h
  | bad => exact h
theorem PostO.now {o : Out} {S : Sto} (h : PostO K mg W E μ H (.ok o S)) (r : Rel K μ S H) : OutOk K mg W E o μ H := h μ H .refl r
theorem PostO.lft {α : Type} {m : M α} {k : α → M Out} {S : Sto} {ρ : Rho} {Q : α → Mu → Hp → Prop} (h : PostO K mg W E μ H (lft ρ m k S)) (e : RE K μ H σ ρ) (r : Rel K μ S H)
    (f : ∀ a S1 μ1 H1, Stp μ H μ1 H1 → Rel K μ1 S1 H1 → RE K μ1 H1 σ ρ → PostO K mg W E μ1 H1 (k a S1) → Q a μ1 H1) : Post K mg W μ σ H (m S) Q := by
  unfold DL.lft at h
  cases hm : m S with
  | ok a S1 =>
    rw [hm] at h
    exact fun μ' H' s r' => f a S1 μ' H' s r' (e.step r s) (h.mono s)
  | ex x S1 =>
    rw [hm] at h
    exact fun μ' H' c od s r' rx => h μ' H' s r' σ c od (e.step r s) rx
  | bad => rw [hm] at h; exact h
end
def sAsg (tgt : D → Rho → Option Rho) (F : EvD) : EvS := fun ρ => lft ρ (F ρ) fun d S => match tgt d ρ with
  | some ρ' => .ok (.nx ρ') S
  | none => .bad
def sExpr (F : EvD) : EvS := fun ρ => lft ρ (F ρ) fun _ => ret (.nx ρ)
def sRet (F : EvD) : EvS := fun ρ => lft ρ (F ρ) fun d => ret (.rt d)
def sRetN : EvS := fun _ => ret (.rt .non)
def sIf (c : EvB) (a b : EvS) : EvS := fun ρ => lft ρ (c ρ) fun k => if k = true then a ρ else b ρ
def sNil : EvS := fun ρ => ret (.nx ρ)
def sBrk : EvS := fun ρ => ret (.bk ρ)
def sCnt : EvS := fun ρ => ret (.ct ρ)
def sBad : EvS := fun _ => stuck
def sSeq (a b : EvS) : EvS := fun ρ S => match a ρ S with
  | .ok (.nx ρ') S' => b ρ' S'
  | r => r
def gSet (o i d : D) : M Unit := fun S => match o, i with
  | .ref n, .int k => match atL S n with
    | some ds => match ixN ds.length k with
      | some j => .ok () (S.set n (.lst (ds.set j d)))
      | none => .bad
    | none => .bad
  | _, _ => .bad
def sSub (F Fo Fi : EvD) : EvS := fun ρ => lft ρ (F ρ) fun d => lft ρ (Fo ρ) fun o => lft ρ (Fi ρ) fun i => lft ρ (gSet o i d) fun _ => ret (.nx ρ)
open Classical in
noncomputable def forM (src : Option Nat) (all : List D) (tgt : D → Rho → Option Rho) (body : EvS) : List D → Rho → M Out
  | [], ρ => fun S => if liveOk src all S then .ok (.nx ρ) S else .bad
  | d :: ds, ρ => fun S => if liveOk src all S then (match tgt d ρ with
    | some ρ1 => match body ρ1 S with
      | .ok (.nx ρ2) S2 => forM src all tgt body ds ρ2 S2
      | .ok (.ct ρ2) S2 => forM src all tgt body ds ρ2 S2
      | .ok (.bk ρ2) S2 => .ok (.nx ρ2) S2
      | r => r
    | none => .bad) else .bad
noncomputable def sFor (it : EvI) (tgt : D → Rho → Option Rho) (body : EvS) : EvS := fun ρ => lft ρ (it ρ) fun p => forM p.1 p.2 tgt body p.2 ρ
def whileM (c : EvB) (body : EvS) : Nat → Rho → M Out
  | 0, _ => stuck
  | f + 1, ρ => lft ρ (c ρ) fun k => if k = true then (fun S => match body ρ S with
    | .ok (.nx ρ2) S2 => whileM c body f ρ2 S2
    | .ok (.ct ρ2) S2 => whileM c body f ρ2 S2
    | .ok (.bk ρ2) S2 => .ok (.nx ρ2) S2
    | r => r) else ret (.nx ρ)
def sWhile (fu : Nat) (c : EvB) (body : EvS) : EvS := whileM c body fu

section
variable {X : Cx} {W : WX} {pos : Pos}
theorem s_asg {tg e : Expr} {F : EvD} {is : List Nat} {tgt : D → Rho → Option Rho} {g : TG} (he : PE X e (tD X.K X.mg W F)) (hG : GRD X is tgt g) (hg : PG X tg g) (hs : swapsWithSole [tg] e pos.line X.env = pure false := by rfl) (hw : swappedStores [tg] e X.env = pure none := by rfl)
    (h1 : (assignEach [tg] X.env).map (·.2) = [assign tg X.env] := by rfl) : PS X (.Assign [tg] e pos) (tS X.K X.mg W (sAsg tgt F)) := by
  refine PS.imp (ps_asg he hg hs hw h1) fun E σ H ⟨ρ, S, μ, e, s, h⟩ => ?_
  refine ⟨ρ, S, μ, e, s, h.lft e s fun d S1 μ1 H1 s1 r1 e1 h1 v rv => ?_⟩
  split at h1
  · rename_i ρ' et
    exact hG _ _ _ _ _ _ _ _ _ e1 r1 rv et fun σ' e' _ => h1.now r1 σ' e'
  · exact h1.elim
theorem s_expr {e : Expr} {F : EvD} (he : PE X e (tD X.K X.mg W F)) (hs : swapsWith e none pos.line X.env = pure false := by rfl) : PS X (.Expr e pos) (tS X.K X.mg W (sExpr F)) := by
  refine PS.imp (ps_expr he hs) fun E σ H ⟨ρ, S, μ, e, s, h⟩ => ?_
  exact ⟨ρ, S, μ, e, s, h.lft e s fun d S1 μ1 H1 s1 r1 e1 h1 v rv => h1.now r1 σ e1⟩
theorem s_ret {e : Expr} {F : EvD} (he : PE X e (tD X.K X.mg W F)) : PS X (.Return (some e) pos) (tS X.K X.mg W (sRet F)) := by
  refine PS.imp (ps_ret he) fun E σ H ⟨ρ, S, μ, e, s, h⟩ => ?_
  exact ⟨ρ, S, μ, e, s, h.lft e s fun d S1 μ1 H1 s1 r1 e1 h1 v rv => h1.now r1 v rv⟩
theorem s_retN : PS X (.Return none pos) (tS X.K X.mg W sRetN) := by
  refine PS.imp ps_retN fun E σ H ⟨ρ, S, μ, e, s, h⟩ => ?_
  exact h.now s _ .non
theorem s_if {c : Expr} {a b : List Stmt} {tc : EvB} {ta tb : EvS} (hc : PT X c (tT X.K X.mg W tc)) (ha : PSs X a (tS X.K X.mg W ta)) (hb : PSs X b (tS X.K X.mg W tb)) : PS X (.If c a b pos) (tS X.K X.mg W (sIf tc ta tb)) := by
  refine PS.imp (ps_if hc ha hb) fun E σ H ⟨ρ, S, μ, e, s, h⟩ => ?_
  refine ⟨ρ, S, μ, e, s, h.lft e s fun k S1 μ1 H1 s1 r1 e1 h1 => ?_⟩
  cases k with
  | true => rw [if_pos rfl] at h1 ⊢; exact ⟨ρ, S1, μ1, e1, r1, h1⟩
  | false => rw [if_neg Bool.false_ne_true] at h1 ⊢; exact ⟨ρ, S1, μ1, e1, r1, h1⟩
theorem s_pass : PS X (.Pass pos) (tS X.K X.mg W sNil) := PS.imp ps_pass fun E σ H ⟨ρ, S, μ, e, s, h⟩ => h.now s σ e
theorem s_brk : PS X (.Break pos) (tS X.K X.mg W sBrk) := PS.imp ps_break fun E σ H ⟨ρ, S, μ, e, s, h⟩ => h.now s σ e
theorem s_cnt : PS X (.Continue pos) (tS X.K X.mg W sCnt) := PS.imp ps_continue fun E σ H ⟨ρ, S, μ, e, s, h⟩ => h.now s σ e
theorem s_bad {st : Stmt} : PS X st (tS X.K X.mg W sBad) := PS.imp ps_never fun E σ H ⟨ρ, S, μ, e, s, h⟩ => h
theorem ss_nil : PSs X [] (tS X.K X.mg W sNil) := PSs.imp pss_nil fun E σ H ⟨ρ, S, μ, e, s, h⟩ => h.now s σ e
theorem ss_one {st : Stmt} {t : EvS} (h : PS X st (tS X.K X.mg W t)) : PSs X [st] (tS X.K X.mg W t) := pss_one h
theorem ss_cons {st : Stmt} {rest : List Stmt} {t u : EvS} (h1 : PS X st (tS X.K X.mg W t)) (h2 : PSs X rest (tS X.K X.mg W u)) : PSs X (st :: rest) (tS X.K X.mg W (sSeq t u)) := by
  refine PSs.imp (pss_cons h1 h2) fun E σ H ⟨ρ, S, μ, e, s, h⟩ => ?_
  refine ⟨ρ, S, μ, e, s, ?_⟩
  unfold sSeq at h
  cases ht : t ρ S with
  | ok o S1 =>
    rw [ht] at h
    intro μ1 H1 s1 r1
    cases o with
    | nx ρ' => exact fun σ' e' => ⟨ρ', S1, μ1, e', r1, h.mono s1⟩
    | rt d => exact (h.mono s1).now r1
    | bk ρ' => exact (h.mono s1).now r1
    | ct ρ' => exact (h.mono s1).now r1
    | xc x ρ' => exact (h.mono s1).now r1
  | ex x S1 => rw [ht] at h; exact h
  | bad => rw [ht] at h; exact h
theorem s_sub {o i e : Expr} {F Fo Fi : EvD} {p2 : Pos} (he : PE X e (tD X.K X.mg W F)) (ho : PE X o (tD X.K X.mg W Fo)) (hi : PE X i (tD X.K X.mg W Fi))
    (ha : ∀ v, assign (.Subscript o i p2) X.env v = (do
      let ov ← holding [v] (eval o X.env)
      let iv ← holding [v, ov] (eval i X.env)
      standAt p2
      holding [v, ov, iv] (setItem ov iv v)
      release [v, ov, iv] []) := by intro _; rfl)
    (hs : swapsWithSole [.Subscript o i p2] e pos.line X.env = pure false := by rfl) (hw : swappedStores [.Subscript o i p2] e X.env = pure none := by rfl)
    (h1 : (assignEach [.Subscript o i p2] X.env).map (·.2) = [assign (.Subscript o i p2) X.env] := by rfl) : PS X (.Assign [.Subscript o i p2] e pos) (tS X.K X.mg W (sSub F Fo Fi)) := by
  refine PS.imp (ps_asg he (pg_sub ho hi set_list ha) hs hw h1) fun E σ H ⟨ρ, S, μ, e, s, h⟩ => ?_
  refine ⟨ρ, S, μ, e, s, h.lft e s fun d S1 μ1 H1 s1 r1 e1 h1 v rv => ?_⟩
  refine ⟨ρ, S1, μ1, e1, r1, h1.lft e1 r1 fun ov S2 μ2 H2 s2 r2 e2 h2 w rw => ?_⟩
  refine ⟨ρ, S2, μ2, e2, r2, h2.lft e2 r2 fun iv S3 μ3 H3 s3 r3 e3 h3 u ru => ?_⟩
  have rv3 := (rv.step r1 s2).step r2 s3
  have rw3 := rw.step r2 s3
  unfold lft gSet at h3
  simp only [] at h3
  split at h3
  · rename_i a S4 heq
    split at heq
    · split at heq
      · rename_i ds eL
        split at heq
        · rename_i j ej
          cases heq
          cases ru
          cases rw3 with
          | @ref n a hn =>
            obtain ⟨vs, q, z⟩ := r3.obj _ a _ hn (atL_ok eL)
            have hm : a ∈ μ3.v := List.mem_of_getElem? hn
            refine ⟨a, vs, _, j, rfl, rfl, q, by rw [← z.length]; exact ej, ?_⟩
            exact h3 μ3 _ (Stp.put hm) (r3.put hn ⟨_, upd_same, (z.step r3 (Stp.put hm)).set j (rv3.step r3 (Stp.put hm))⟩) σ (e3.step r3 (Stp.put hm))
        · cases heq
      · cases heq
    · cases heq
  · rename_i x S4 heq
    split at heq
    · split at heq
      · split at heq <;> cases heq
      · cases heq
    · cases heq
  · exact h3.elim
theorem s_for {tg iter : Expr} {body : List Stmt} {it : EvI} {is : List Nat} {tgt : D → Rho → Option Rho} {g : TG} {tb : EvS} (hp : PassesOwn (model X.prog X.w) X.A X.env X.xe) (hc : X.calm = true) (hi : PI X tg iter (tI X.K X.mg W it)) (hG : GRD X is tgt g) (hg : PG X tg g) (hb : PSs X body (tS X.K X.mg W tb))
    (hs : ∀ x, foldedSetIterable iter X.env x = pure x := by intro _; rfl) : PS X (.For tg iter body [] pos) (tS X.K X.mg W (sFor it tgt tb)) := by
  refine PS.imp (ps_for hp hc hi hg hb hs) fun E σ H ⟨ρ, S, μ, e, s, h⟩ => ?_
  refine ⟨ρ, S, μ, e, s, h.lft e s fun p S1 μ1 H1 s1 r1 e1 h1 J G io gg => ?_⟩
  obtain ⟨src, all⟩ := p
  simp only [] at io h1
  let Iv (i : Nat) (σc : L2.St) (Hc : Hp) : Prop := ∃ ρc Sc μc, i ≤ all.length ∧ RE X.K μc Hc σc ρc ∧ Rel X.K μc Sc Hc ∧ G μc Hc ∧ PostO X.K X.mg W E μc Hc (forM src all tgt tb (all.drop i) ρc Sc)
  refine ⟨fun i m σc Hc => m = all.length - i ∧ Iv i σc Hc, ⟨all.length, by simp, ρ, S1, μ1, Nat.zero_le _, e1, r1, gg, by simpa using h1⟩, ?_⟩
  rintro i m σc Hc ⟨rfl, ρc, Sc, μc, hi2, ec, rc, gc, done⟩
  by_cases hlt : i < all.length
  · right
    have hdrop : all.drop i = all[i] :: all.drop (i + 1) := List.drop_eq_getElem_cons hlt
    rw [hdrop] at done
    unfold forM at done
    by_cases hlive : liveOk src all Sc
    · rw [if_pos hlive] at done
      split at done
      · rename_i ρ1 hρ1
        refine ⟨io.go i _ Sc Hc hlt rc hlive gc, fun σ' H' => Iv (i + 1) σ' H', fun σ' H' q => ⟨all.length - (i + 1), by omega, rfl, q⟩, fun x H' y => ?_⟩
        obtain ⟨sy, ry, d, hd, rd⟩ := io.yld i x _ Sc Hc H' hlt rc hlive gc y
        rw [List.getElem?_eq_getElem hlt] at hd
        cases hd
        have gy := io.step _ _ _ _ _ gc rc sy
        refine hG _ _ _ ρ1 _ _ Sc H' _ (ec.step rc sy) ry rd hρ1 fun σ2 re2 _ => ⟨ρ1, Sc, _, re2, ry, ?_⟩
        unfold PostO at done ⊢
        cases hbd : tb ρ1 Sc with
        | ok o S2 =>
          rw [hbd] at done
          intro μ2 H2 s2 r2
          have sa := sy.trans s2
          cases o with
          | nx ρ2 => exact fun σ3 e3 => ⟨ρ2, S2, μ2, hlt, e3, r2, io.step _ _ _ _ _ gy ry s2, PostO.mono done sa⟩
          | ct ρ2 => exact fun σ3 e3 => ⟨ρ2, S2, μ2, hlt, e3, r2, io.step _ _ _ _ _ gy ry s2, PostO.mono done sa⟩
          | bk ρ2 => exact fun σ3 e3 => (PostO.mono done sa).now r2 σ3 e3
          | rt d2 => exact (PostO.mono done sa).now r2
          | xc x2 ρ2 => exact (PostO.mono done sa).now r2
        | ex x2 S2 => rw [hbd] at done; exact done
        | bad => rw [hbd] at done; exact done
      · exact done.elim
    · rw [if_neg hlive] at done; exact done.elim
  · left
    have hi3 : i = all.length := by omega
    subst hi3
    rw [List.drop_length] at done
    unfold forM at done
    by_cases hlive : liveOk src all Sc
    · rw [if_pos hlive] at done
      exact ⟨io.stop _ Sc Hc rc hlive gc, done.now rc σc ec⟩
    · rw [if_neg hlive] at done; exact done.elim
theorem s_while (fu : Nat) {c : Expr} {body : List Stmt} {tc : EvB} {tb : EvS} (hp : PassesOwn (model X.prog X.w) X.A X.env X.xe) (hc : PT X c (tT X.K X.mg W tc)) (hb : PSs X body (tS X.K X.mg W tb)) : PS X (.While c body [] pos) (tS X.K X.mg W (sWhile fu tc tb)) := by
  refine PS.imp (ps_while hp hc hb) fun E σ H ⟨ρ, S, μ, e, s, h⟩ => ?_
  refine ⟨fun m σc Hc => ∃ ρc Sc μc, RE X.K μc Hc σc ρc ∧ Rel X.K μc Sc Hc ∧ PostO X.K X.mg W E μc Hc (whileM tc tb m ρc Sc), ⟨fu, ρ, S, μ, e, s, h⟩, ?_⟩
  rintro m σc Hc ⟨ρc, Sc, μc, ec, rc, done⟩
  cases m with
  | zero => exact done.elim
  | succ m =>
    unfold whileM at done
    refine ⟨ρc, Sc, μc, ec, rc, done.lft ec rc fun k S1 μ1 H1 s1 r1 e1 h1 => ?_⟩
    cases k with
    | false => rw [if_neg Bool.false_ne_true] at h1 ⊢; exact h1.now r1 σc e1
    | true =>
      rw [if_pos rfl] at h1 ⊢
      refine ⟨fun σ' H' => ∃ ρc Sc μc, RE X.K μc H' σ' ρc ∧ Rel X.K μc Sc H' ∧ PostO X.K X.mg W E μc H' (whileM tc tb m ρc Sc), fun σ' H' q => ⟨m, Nat.lt_succ_self m, q⟩, ρc, S1, μ1, e1, r1, ?_⟩
      cases hbd : tb ρc S1 with
      | ok o S2 =>
        rw [hbd] at h1
        intro μ2 H2 s2 r2
        cases o with
        | nx ρ2 => exact fun σ3 e3 => ⟨ρ2, S2, μ2, e3, r2, PostO.mono h1 s2⟩
        | ct ρ2 => exact fun σ3 e3 => ⟨ρ2, S2, μ2, e3, r2, PostO.mono h1 s2⟩
        | bk ρ2 => exact fun σ3 e3 => (PostO.mono h1 s2).now r2 σ3 e3
        | rt d2 => exact (PostO.mono h1 s2).now r2
        | xc x2 ρ2 => exact (PostO.mono h1 s2).now r2
      | ex x2 S2 => rw [hbd] at h1; exact h1
      | bad => rw [hbd] at h1; exact h1
end

/-! ### defs -/
def startR (n : Nat) (ds : List D) : Rho := ds.map some ++ List.replicate (n - ds.length) none
/-- a def's end: what it made and nobody sees any more is forgotten; keep: nothing is -/
def finD (keep : Bool) (n : Nat) (d : D) : M D := fun S => if keep = true then .ok d S else
  if (S.take n).all (MO.lo n) = true then
    (if d.lo n = true then .ok d (S.take n) else match d with
      | .ref k => match atL S k with
        | some ds => if n ≤ k ∧ D.los n ds = true then .ok (.lst ds) (S.take n) else .bad
        | none => .bad
      | _ => .bad)
  else .bad
def runDef (keep : Bool) (n : Nat) (body : EvS) (ds : List D) : M D := fun S => match body (startR n ds) S with
  | .ok (.rt d) S' => finD keep S.length d S'
  | .ok (.nx _) S' => finD keep S.length .non S'
  | .ok (.xc e _) S' => .ex e S'
  | _ => .bad
def spD (K : PySem.W.Frag) (mg : Str → Option Value) (ar : Nat) (G : List D → M D) : Sp := fun vs H Q E => ∃ μ S ds, ds.length = ar ∧ RDs K μ H ds vs ∧ Rel K μ S H ∧ Post K mg (fun c od _ H => E c od H) μ [] H (G ds S) (QD K Q)
theorem start_rel {K : PySem.W.Frag} {μ : Mu} {H : Hp} {N : List Str} {ds : List D} {vs : List V} (h : RDs K μ H ds vs) : RE K μ H (L2.start N vs) (startR N.length ds) := by
  have hl := h.length
  refine ⟨by simp [L2.start, startR, hl], fun i d e => ?_⟩
  unfold startR at e
  unfold L2.start
  by_cases hi : i < ds.length
  · rw [List.getElem?_append_left (by simpa using hi), List.getElem?_map, Option.map_eq_some_iff] at e
    obtain ⟨d', e1, e2⟩ := e
    cases e2
    obtain ⟨v, ev, rv⟩ := h.get e1
    exact ⟨v, by rw [List.getElem?_append_left (by rw [List.length_map]; omega), List.getElem?_map, ev]; rfl, rv⟩
  · rw [List.getElem?_append_right (by simpa using hi), List.getElem?_replicate] at e
    split at e <;> simp at e
theorem fin_ok {K : PySem.W.Frag} {mg : Str → Option Value} {W : WX} {μ : Mu} {S : Sto} {σ : L2.St} {H : Hp} {keep : Bool} {d : D} {S' : Sto} {Q : VK} (h : Post K mg W μ σ H (finD keep S.length d S') (QD K Q)) (r : Rel K μ S H) :
    ∀ μ' H', Stp μ H μ' H' → Rel K μ' S' H' → ∀ v, RD K μ' H' d v → Q v H' := by
  intro μ' H' s r' v rv
  unfold finD at h
  split at h
  · exact h μ' H' s r' v rv
  · split at h
    · rename_i hb
      have sc := s.cut
      rw [r.len] at sc
      split at h
      · rename_i hd
        exact h _ H' sc (r'.cut hb) v (rv.cut _ _ hd)
      · split at h
        · rename_i k
          split at h
          · rename_i ds e
            split at h
            · rename_i hc
              exact h _ H' sc (r'.cut hb) v (RD.freed r' rv hc.1 (atL_ok e) hc.2)
            · exact h.elim
          · exact h.elim
        · exact h.elim
    · exact h.elim
section
variable {P : Program} {w : World} {K : PySem.W.Frag} {mg : Str → Option Value} {base : Heap}
abbrev WD (E : XK) : WX := fun c od _ H => E c od H
/-- a def by its body -/
theorem fn_ok {x qual : Str} {st : Stmt} {f : Addr} {fd : FuncData} {N ps : List Str} {k : Nat} {keep : Bool} {body : EvS} (F : Fun K x qual st f fd) (S : FnScope N ps (defScope st))
    (hbody : ∀ (cdv : Value) (A : Around) (outer : List Env) (s : Shared) (H : Hp) (E : XK), Room k (A.deeper (envOfC qual (defScope st) s.heap.objs.size f cdv)) →
      PSs (cxOf (L2.CX P w) P w K mg base N qual (defScope st) f cdv A outer s H E) (defBody st) (tS K mg (WD E) body)) :
    FnOk P w K mg base (L2.CX P w) (k + 1) f fd ps (spD K mg ps.length (runDef keep N.length body)) := by
  refine F.okX S (fun vs H Q E ⟨μ, S, ds, hl, h, _⟩ => by rw [← h.length]; exact hl) fun cdv A outer s H vs Q E hr ⟨μ, Sx, ds, hl, hd, r, hp⟩ => ?_
  refine ⟨_, hbody cdv A outer s H E hr, startR N.length ds, Sx, μ, start_rel hd, r, ?_⟩
  unfold runDef at hp
  cases hb : body (startR N.length ds) Sx with
  | ok o S' =>
    rw [hb] at hp
    cases o with
    | nx ρ' => exact fun μ' H' s' r' σ' _ => fin_ok hp r μ' H' s' r' _ .non
    | rt d => exact fun μ' H' s' r' v rv => fin_ok hp r μ' H' s' r' v rv
    | bk ρ' => exact hp.elim
    | ct ρ' => exact hp.elim
    | xc e ρ' => exact fun μ' H' s' r' σ' c od _ rx => hp μ' H' c od s' r' rx
  | ex e S' => rw [hb] at hp; exact hp.elim
  | bad => rw [hb] at hp; exact hp.elim
end
section
variable {X : Cx} {W : WX} {pos : Pos}
/-- so many arguments -/
def cl (n : Nat) (G : List D → M D) : List D → M D := fun ds => if ds.length = n then G ds else stuck
/-- a call of a def -/
theorem d_call {k n : Nat} {f : Addr} {fd : FuncData} {ps : List Str} {x : Str} {p : Pos} {e : Expr} {es : List Expr} {G : List D → M D} {t : EvL} (F : FnOk X.prog X.w X.K X.mg X.base (L2.CX X.prog X.w) k f fd ps (spD X.K X.mg ps.length G)) (hr : Room k X.A)
    (hg : Gl X x) (hm : X.mg x = some (.ref f)) (hk : PySem.W.keepIn X.K (.ref f) = true) (hb : Binds X.K fd ps []) (tk : Takes X W) (ha : PA X (e :: es) (tA X.K X.mg W t)) (hlen : ps.length = n := by rfl) (hdb : (x == ("__debug__" : Str)) = false := by decide)
    (he : starEach (e :: es) X.env = (false, eval e X.env) :: starEach es X.env := by rfl) (hpl : (backTo pos (starEach es X.env)).any (·.1) = false := by rfl) :
    PE X (.Call (.Name x p) (e :: es) [] pos) (tD X.K X.mg W (eCall (cl n G) t)) := by
  subst hlen
  refine PE.imp (pe_callS F hr hg hm hk hb (fun σ => passAt tk σ) ha hdb he hpl) fun σ H Q ⟨ρ, S, μ, e, s, h⟩ => ?_
  refine ⟨ρ, S, μ, e, s, h.bnd fun ds S1 μ1 H1 s1 r1 h1 vs rvs => ?_⟩
  unfold cl at h1
  split at h1
  · rename_i hl
    refine ⟨μ1, S1, ds, hl, rvs, r1, ?_⟩
    cases hg : G ds S1 with
    | ok d S2 => rw [hg] at h1; exact h1
    | ex x S2 => rw [hg] at h1; exact h1
    | bad => rw [hg] at h1; exact h1
  · exact h1.elim
end
end DL

/-! DL6: short words. -/
namespace DL
open PySem L2 PyProof.Rows
/-- a module's constant -/
def GV (K : PySem.W.Frag) (mg : Str → Option Value) (x : Str) (d : D) : Prop := ∃ u v, mg x = some u ∧ RelV v u ∧ ∀ μ H, RD K μ H d v
structure DefAt (K : PySem.W.Frag) (mg : Str → Option Value) (x : Str) (st : Stmt) (ps : List Str) (f : Addr) (fd : FuncData) : Prop where
  fn : Fun K x x st f fd
  mg : mg x = some (.ref f)
  bi : Binds K fd ps []
section
variable {X : Cx} {W : WX} {pos : Pos}
theorem d_globv {x : Str} {d : D} (g : GV X.K X.mg x d) (hg : Gl X x := by rfl) (hdb : (x == ("__debug__" : Str)) = false := by decide) : PE X (.Name x pos) (tD X.K X.mg W (eC d)) := by
  obtain ⟨u, v, h1, h2, h3⟩ := g
  exact d_glob hg h1 h2 h3 hdb
theorem s_set (i : Nat) {x : Str} {p : Pos} {e : Expr} {F : EvD} (hN : X.N.Nodup) (he : PE X e (tD X.K X.mg W F)) (hi : X.N[i]? = some x := by rfl) (hx : Loc X.env.scope x := by first | exact Or.inl rfl | exact Or.inr rfl)
    (hf : X.fn x = true ∨ X.env.scope.names.lookup x = some .local := by first | exact .inl rfl | exact .inr rfl | assumption)
    (hs : swapsWithSole [.Name x p] e pos.line X.env = pure false := by rfl) (hw : swappedStores [.Name x p] e X.env = pure none := by rfl)
    (h1 : (assignEach [.Name x p] X.env).map (·.2) = [assign (.Name x p) X.env] := by rfl) : PS X (.Assign [.Name x p] e pos) (tS X.K X.mg W (sAsg (gN i) F)) :=
  s_asg he (g_name i) (pg_name hN hi hx hf) hs hw h1
/-- y = [..], y a local -/
theorem s_setLc (i : Nat) {y : Str} {py : Pos} {tg elt iter : Expr} {ifs : List Expr} {scope : Scope} {own : List (Str × Nat)} {vs : List Nat} {pos spos : Pos} {it : EvI} {tgt : D → Rho → Option Rho} {g : TG} {test : EvB} {el : EvD} {is : List Nat} (hc : X.calm = true) (hN : X.N.Nodup)
    (hi : PI X tg iter (tI X.K X.mg W it)) (ok : BlkOk X.N X.env.scope scope own) (hv : own.map (·.2) = vs) (hG : GRD X is tgt g) (his : ∀ i ∈ is, i ∈ vs)
    (hg : ∀ (s : Shared) (H : Hp) (C : Addr) (cl : List (Str × Addr)) (fp : List Addr), PG (X.blk s H scope (compEnvC scope cl C X.env) fp) tg g)
    (ht : ∀ (s : Shared) (H : Hp) (C : Addr) (cl : List (Str × Addr)) (fp : List Addr), PTs (X.blk s H scope (compEnvC scope cl C X.env) fp) ifs (tT X.K X.mg W0 test))
    (he : ∀ (s : Shared) (H : Hp) (C : Addr) (cl : List (Str × Addr)) (fp : List Addr), PE (X.blk s H scope (compEnvC scope cl C X.env) fp) elt (tD X.K X.mg W0 el))
    (hy : X.N[i]? = some y := by rfl) (hyl : X.env.scope.names.lookup y = some .local := by rfl) (hsw : swapsWith (.ListComp elt [⟨tg, iter, ifs, 0⟩] scope pos) (some (.Name y py)) spos.line X.env = pure true := by exact sw_true rfl rfl rfl (by decide +kernel))
    (hs : ∀ x, foldedSetIterable iter X.env x = pure x := by intro _; rfl) :
    PS X (.Assign [.Name y py] (.ListComp elt [⟨tg, iter, ifs, 0⟩] scope pos) spos) (tS X.K X.mg W (sAsg (gN i) (eComp it tgt test el vs))) := by
  subst hv
  refine PS.imp (ps_setLc hc hN hy hyl hsw hi ok hg ht he hs) fun E σ H ⟨ρ, S, μ, e, s, h⟩ => ?_
  refine comp_ok hG his ⟨ρ, S, μ, e, s, h.lft e s fun d S1 μ1 H1 s1 r1 e1 h1 v rv => ?_⟩
  exact h1.now r1 _ (e1.set rv i)
end
/-- a def by its body, the text read once -/
theorem fn_okL {P : Program} {w : World} {K : PySem.W.Frag} {mg : Str → Option Value} {base : Heap} {x qual : Str} {st : Stmt} {f : Addr} {fd : FuncData} {N ps : List Str} {k : Nat} {keep : Bool} {body : EvS} {B : List Stmt} {sc : Scope} (F : Fun K x qual st f fd) (S : FnScope N ps (defScope st)) (hB : defBody st = B) (hS : defScope st = sc)
    (hbody : ∀ (cdv : Value) (A : Around) (outer : List Env) (s : Shared) (H : Hp) (E : XK), Room k (A.deeper (envOfC qual sc s.heap.objs.size f cdv)) → N.Nodup →
      Takes (cxOf (L2.CX P w) P w K mg base N qual sc f cdv A outer s H E) (WD E) →
      PassesOwn (model P w) (cxOf (L2.CX P w) P w K mg base N qual sc f cdv A outer s H E).A (cxOf (L2.CX P w) P w K mg base N qual sc f cdv A outer s H E).env (cxOf (L2.CX P w) P w K mg base N qual sc f cdv A outer s H E).xe →
      PSs (cxOf (L2.CX P w) P w K mg base N qual sc f cdv A outer s H E) B (tS (cxOf (L2.CX P w) P w K mg base N qual sc f cdv A outer s H E).K (cxOf (L2.CX P w) P w K mg base N qual sc f cdv A outer s H E).mg (WD E) body)) :
    FnOk P w K mg base (L2.CX P w) (k + 1) f fd ps (spD K mg ps.length (runDef keep N.length body)) := by
  subst hB hS
  exact fn_ok F S fun cdv A outer s H E hr => hbody cdv A outer s H E hr S.nd (takes_of rfl rfl rfl rfl) (passes_of rfl)
/-- no promise at all -/
theorem fn_zero {P : Program} {w : World} {K : PySem.W.Frag} {mg : Str → Option Value} {base : Heap} {k : Nat} {f : Addr} {fd : FuncData} {ps : List Str} {CX : CXT} : FnOk P w K mg base CX k f fd ps (spD K mg ps.length fun _ => stuck) :=
  ⟨fun vs H Q E ⟨_, _, _, _, _, _, h⟩ => h.elim, fun A outer s H args us vs Q E _ _ _ _ ⟨_, _, _, _, _, _, h⟩ => h.elim⟩
end DL

/-! DL7: what a denotation does, by what is wanted behind it. -/
namespace DL
open PySem L2

def wp {α : Type} (r : R α) (F : α → Sto → Prop) (E : Exc → Sto → Prop) : Prop := match r with
  | .ok a S => F a S
  | .ex e S => E e S
  | .bad => False
/-- nothing is raised -/
abbrev nx : Exc → Sto → Prop := fun _ _ => False
def wps (r : R Out) (N : Rho → Sto → Prop) (T : D → Sto → Prop) (B C : Rho → Sto → Prop) (X : Exc → Rho → Sto → Prop) : Prop := match r with
  | .ok (.nx ρ) S => N ρ S
  | .ok (.rt d) S => T d S
  | .ok (.bk ρ) S => B ρ S
  | .ok (.ct ρ) S => C ρ S
  | .ok (.xc e ρ) S => X e ρ S
  | _ => False
section
variable {α β : Type} {F : α → Sto → Prop} {E : Exc → Sto → Prop} {N : Rho → Sto → Prop} {T : D → Sto → Prop} {B C : Rho → Sto → Prop} {X : Exc → Rho → Sto → Prop} {S : Sto} {ρ : Rho}
theorem wp_mono {r : R α} {F' : α → Sto → Prop} {E' : Exc → Sto → Prop} (h : wp r F E) (f : ∀ a S, F a S → F' a S) (g : ∀ e S, E e S → E' e S) : wp r F' E' := by
  cases r with
  | ok a S => exact f a S h
  | ex e S => exact g e S h
  | bad => exact h
theorem wps_mono {r : R Out} {N' : Rho → Sto → Prop} {T' : D → Sto → Prop} {B' C' : Rho → Sto → Prop} {X' : Exc → Rho → Sto → Prop} (h : wps r N T B C X) (f1 : ∀ ρ S, N ρ S → N' ρ S) (f2 : ∀ d S, T d S → T' d S) (f3 : ∀ ρ S, B ρ S → B' ρ S) (f4 : ∀ ρ S, C ρ S → C' ρ S) (f5 : ∀ e ρ S, X e ρ S → X' e ρ S) : wps r N' T' B' C' X' := by
  cases r with
  | ok o S =>
    cases o with
    | nx ρ => exact f1 _ _ h
    | rt d => exact f2 _ _ h
    | bk ρ => exact f3 _ _ h
    | ct ρ => exact f4 _ _ h
    | xc e ρ => exact f5 _ _ _ h
  | ex e S => exact h
  | bad => exact h
theorem wp_ok {a : α} : wp (.ok a S) F E ↔ F a S := Iff.rfl
theorem wp_ret {a : α} : wp (ret a S) F E ↔ F a S := Iff.rfl
theorem wp_stuck : wp ((stuck : M α) S) F E ↔ False := Iff.rfl
theorem wp_bad : wp (.bad : R α) F E ↔ False := Iff.rfl
theorem wp_bnd {m : M β} {k : β → M α} : wp (bnd m k S) F E ↔ wp (m S) (fun a S' => wp (k a S') F E) E := by
  unfold bnd
  cases m S <;> rfl
theorem wp_if {c : Prop} [Decidable c] {a b : R α} : wp (if c then a else b) F E ↔ if c then wp a F E else wp b F E := by
  split <;> rfl
theorem wp_fif {c : Prop} [Decidable c] {a b : M α} : wp ((if c then a else b) S) F E ↔ if c then wp (a S) F E else wp (b S) F E := by
  split <;> rfl
theorem wps_ok_nx {ρ' : Rho} : wps (.ok (.nx ρ') S) N T B C X ↔ N ρ' S := Iff.rfl
theorem wps_ok_rt {d : D} : wps (.ok (.rt d) S) N T B C X ↔ T d S := Iff.rfl
theorem wps_ok_bk {ρ' : Rho} : wps (.ok (.bk ρ') S) N T B C X ↔ B ρ' S := Iff.rfl
theorem wps_ok_ct {ρ' : Rho} : wps (.ok (.ct ρ') S) N T B C X ↔ C ρ' S := Iff.rfl
theorem wps_ok_xc {e : Exc} {ρ' : Rho} : wps (.ok (.xc e ρ') S) N T B C X ↔ X e ρ' S := Iff.rfl
theorem wps_bad : wps .bad N T B C X ↔ False := Iff.rfl
theorem wps_lft {m : M α} {k : α → M Out} : wps (lft ρ m k S) N T B C X ↔ wp (m S) (fun a S' => wps (k a S') N T B C X) (fun e S' => X e ρ S') := by
  unfold lft
  cases m S <;> rfl
theorem wps_seq {a b : EvS} : wps (sSeq a b ρ S) N T B C X ↔ wps (a ρ S) (fun ρ' S' => wps (b ρ' S') N T B C X) T B C X := by
  unfold sSeq
  cases a ρ S with
  | ok o S' => cases o <;> rfl
  | ex e S' => rfl
  | bad => rfl
theorem wps_nil : wps (sNil ρ S) N T B C X ↔ N ρ S := Iff.rfl
theorem wps_ret {e : EvD} : wps (sRet e ρ S) N T B C X ↔ wp (e ρ S) T (fun e S' => X e ρ S') := by
  unfold sRet; rw [wps_lft]; rfl
theorem wps_expr {e : EvD} : wps (sExpr e ρ S) N T B C X ↔ wp (e ρ S) (fun _ S' => N ρ S') (fun e S' => X e ρ S') := by
  unfold sExpr; rw [wps_lft]; rfl
theorem wps_asg {i : Nat} {e : EvD} : wps (sAsg (gN i) e ρ S) N T B C X ↔ wp (e ρ S) (fun d S' => N (ρ.set i (some d)) S') (fun e S' => X e ρ S') := by
  unfold sAsg; rw [wps_lft]; rfl
theorem wps_if {c : EvB} {a b : EvS} : wps (sIf c a b ρ S) N T B C X ↔ wp (c ρ S) (fun k S' => if k = true then wps (a ρ S') N T B C X else wps (b ρ S') N T B C X) (fun e S' => X e ρ S') := by
  unfold sIf; rw [wps_lft]
  constructor <;> intro h <;> refine wp_mono h (fun k S' h => ?_) (fun _ _ h => h) <;> cases k <;> exact h
theorem wp_run {keep : Bool} {n : Nat} {body : EvS} {ds : List D} {F : D → Sto → Prop} : wp (runDef keep n body ds S) F E ↔
    wps (body (startR n ds) S) (fun _ S' => wp (finD keep S.length .non S') F E) (fun d S' => wp (finD keep S.length d S') F E) (fun _ _ => False) (fun _ _ => False) (fun e _ S' => E e S') := by
  unfold runDef
  cases body (startR n ds) S with
  | ok o S' => cases o <;> rfl
  | ex e S' => rfl
  | bad => rfl
/-- a def's value that names no stored thing, of a store that names none -/
theorem wp_fin {n : Nat} {d : D} {F : D → Sto → Prop} (h1 : (S.take n).all (MO.lo n) = true) (h2 : d.lo n = true) (h : F d (S.take n)) : wp (finD false n d S) F E := by
  unfold finD
  rw [if_neg (by decide), if_pos h1, if_pos h2]
  exact h
/-- for over what is walked -/
theorem wps_for {it : EvI} {tgt : D → Rho → Option Rho} {body : EvS} : wps (sFor it tgt body ρ S) N T B C X ↔ wp (it ρ S) (fun p S' => wps (forM p.1 p.2 tgt body p.2 ρ S') N T B C X) (fun e S' => X e ρ S') := by
  unfold sFor; rw [wps_lft]
/-- the loop by an invariant over the items gone through -/
theorem wps_forM {src : Option Nat} {all : List D} {tgt : D → Rho → Option Rho} {body : EvS} (I : Nat → Rho → Sto → Prop) (hl : ∀ i ρ S, I i ρ S → liveOk src all S)
    (turn : ∀ i d ρ S, all[i]? = some d → I i ρ S → ∃ ρ1, tgt d ρ = some ρ1 ∧ wps (body ρ1 S) (I (i + 1)) T N (I (i + 1)) X) (done : ∀ ρ S, I all.length ρ S → N ρ S) (h0 : I 0 ρ S) : wps (forM src all tgt body all ρ S) N T B C X := by
  have key : ∀ (k i : Nat) (ρ : Rho) (S : Sto), i + k = all.length → I i ρ S → wps (forM src all tgt body (all.drop i) ρ S) N T B C X := by
    intro k
    induction k with
    | zero =>
      intro i ρ S hi h
      have : i = all.length := by omega
      subst this
      rw [List.drop_length]
      unfold forM
      rw [if_pos (hl _ _ _ h)]
      exact done ρ S h
    | succ k ih =>
      intro i ρ S hi h
      have hlt : i < all.length := by omega
      rw [List.drop_eq_getElem_cons hlt]
      unfold forM
      rw [if_pos (hl _ _ _ h)]
      obtain ⟨ρ1, e1, hb⟩ := turn i _ ρ S (List.getElem?_eq_getElem hlt) h
      simp only [e1]
      cases hr : body ρ1 S with
      | ok o S2 =>
        rw [hr] at hb
        cases o with
        | nx ρ2 => exact ih (i + 1) ρ2 S2 (by omega) hb
        | ct ρ2 => exact ih (i + 1) ρ2 S2 (by omega) hb
        | bk ρ2 => exact hb
        | rt d => exact hb
        | xc e ρ2 => exact hb
      | ex e S2 => rw [hr] at hb; exact hb
      | bad => rw [hr] at hb; exact hb
  have := key all.length 0 ρ S (by omega) h0
  rwa [List.drop_zero] at this
theorem wps_while {fu : Nat} {c : EvB} {body : EvS} : wps (sWhile fu c body ρ S) N T B C X ↔ wps (whileM c body fu ρ S) N T B C X := Iff.rfl
theorem wps_whileM {c : EvB} {body : EvS} {fu : Nat} (I : Nat → Rho → Sto → Prop)
    (turn : ∀ m ρ S, I m ρ S → m < fu + 1 ∧ wp (c ρ S) (fun k S' => if k = true then wps (body ρ S') (fun ρ' S'' => ∃ m', m' < m ∧ I m' ρ' S'') T N (fun ρ' S'' => ∃ m', m' < m ∧ I m' ρ' S'') X else N ρ S') (fun e S' => X e ρ S')) (m : Nat) (hm : m < fu) (h0 : I m ρ S) : wps (whileM c body fu ρ S) N T B C X := by
  have key : ∀ (f m : Nat) (ρ : Rho) (S : Sto), m < f → I m ρ S → wps (whileM c body f ρ S) N T B C X := by
    intro f
    induction f with
    | zero => intro m ρ S h; exact absurd h (Nat.not_lt_zero _)
    | succ f ih =>
      intro m ρ S hm h
      unfold whileM
      rw [wps_lft]
      refine wp_mono (turn m ρ S h).2 (fun k S' hk => ?_) (fun _ _ h => h)
      cases k with
      | false => rw [if_neg Bool.false_ne_true] at hk ⊢; exact hk
      | true =>
        rw [if_pos rfl] at hk ⊢
        show wps (match body ρ S' with
          | .ok (.nx ρ2) S2 => whileM c body f ρ2 S2
          | .ok (.ct ρ2) S2 => whileM c body f ρ2 S2
          | .ok (.bk ρ2) S2 => .ok (.nx ρ2) S2
          | r => r) N T B C X
        cases hr : body ρ S' with
        | ok o S2 =>
          rw [hr] at hk
          cases o with
          | nx ρ2 => obtain ⟨m', hl, hi⟩ := hk; exact ih m' ρ2 S2 (by omega) hi
          | ct ρ2 => obtain ⟨m', hl, hi⟩ := hk; exact ih m' ρ2 S2 (by omega) hi
          | bk ρ2 => exact hk
          | rt d => exact hk
          | xc e ρ2 => exact hk
        | ex e S2 => rw [hr] at hk; exact hk.elim
        | bad => rw [hr] at hk; exact hk.elim
  exact key fu m ρ S hm h0
/-- a comprehension -/
theorem wp_comp {it : EvI} {tgt : D → Rho → Option Rho} {test : EvB} {el : EvD} {vs : List Nat} {F : D → Sto → Prop} : wp (eComp it tgt test el vs ρ S) F E ↔
    wp (it ρ S) (fun p S' => p.2.length ≤ sizeLine ∧ wp (compM p.1 p.2 tgt test el (wipeR ρ vs) p.2 S') (fun ys S'' => F (.lst ys) S'') nx) E := by
  unfold eComp
  rw [wp_bnd]
  constructor <;> intro h <;> refine wp_mono h (fun p S' h => ?_) (fun _ _ h => h)
  · unfold noEx at h
    by_cases hl : p.2.length ≤ sizeLine
    · refine ⟨hl, ?_⟩
      simp only [if_pos hl] at h
      cases hc : compM p.1 p.2 tgt test el (wipeR ρ vs) p.2 S' with
      | ok ys S'' => rw [hc] at h; exact h
      | ex e S'' => rw [hc] at h; exact h.elim
      | bad => rw [hc] at h; exact h.elim
    · simp only [if_neg hl] at h; exact h.elim
  · obtain ⟨hl, h⟩ := h
    unfold noEx
    simp only [if_pos hl]
    cases hc : compM p.1 p.2 tgt test el (wipeR ρ vs) p.2 S' with
    | ok ys S'' => rw [hc] at h; exact h
    | ex e S'' => rw [hc] at h; exact h.elim
    | bad => rw [hc] at h; exact h.elim
/-- .. by an invariant: the items gone through, what is made so far -/
theorem wp_compM {src : Option Nat} {all : List D} {tgt : D → Rho → Option Rho} {test : EvB} {el : EvD} {F : List D → Sto → Prop} (I : Nat → List D → Sto → Prop) (hl : ∀ i ys S, I i ys S → liveOk src all S)
    (turn : ∀ i d ys S, all[i]? = some d → I i ys S → ∃ ρ1, tgt d ρ = some ρ1 ∧ wp (test ρ1 S) (fun b S' => if b = true then wp (el ρ1 S') (fun y S'' => I (i + 1) (ys ++ [y]) S'') nx else I (i + 1) ys S') nx)
    (done : ∀ ys S, I all.length ys S → F ys S) (h0 : I 0 [] S) : wp (compM src all tgt test el ρ all S) F nx := by
  have key : ∀ (k i : Nat) (ys : List D) (S : Sto), i + k = all.length → I i ys S → wp (compM src all tgt test el ρ (all.drop i) S) (fun zs S' => F (ys ++ zs) S') nx := by
    intro k
    induction k with
    | zero =>
      intro i ys S hi h
      have : i = all.length := by omega
      subst this
      rw [List.drop_length]
      unfold compM
      rw [if_pos (hl _ _ _ h)]
      rw [wp_ok, List.append_nil]
      exact done ys S h
    | succ k ih =>
      intro i ys S hi h
      have hlt : i < all.length := by omega
      rw [List.drop_eq_getElem_cons hlt]
      unfold compM
      rw [if_pos (hl _ _ _ h)]
      obtain ⟨ρ1, e1, hb⟩ := turn i _ ys S (List.getElem?_eq_getElem hlt) h
      simp only [e1]
      rw [wp_bnd]
      refine wp_mono hb (fun b S' hb => ?_) (fun _ _ h => h)
      cases b with
      | false => rw [if_neg Bool.false_ne_true] at hb ⊢; exact ih (i + 1) ys S' (by omega) hb
      | true =>
        rw [if_pos rfl] at hb ⊢
        rw [wp_bnd]
        refine wp_mono hb (fun y S'' hy => ?_) (fun _ _ h => h)
        rw [wp_bnd]
        refine wp_mono (ih (i + 1) _ S'' (by omega) hy) (fun zs S3 hz => ?_) (fun _ _ h => h)
        rw [wp_ret]
        simpa using hz
  have := key all.length 0 [] S (by omega) h0
  rw [List.drop_zero] at this
  simpa using this
end
end DL

/-! DL8: the words of an expression, one by one. -/
namespace DL
open PySem L2

theorem ofString_inj {a b : String} : Str.ofString a = Str.ofString b ↔ a = b := by
  constructor
  · intro h
    rw [Str.ofString_eq_toList, Str.ofString_eq_toList] at h
    injection h with h
    have h2 : a.toList.map Char.toNat = b.toList.map Char.toNat := by simpa using congrArg Array.toList h
    have inj : ∀ x y : Char, x.toNat = y.toNat → x = y := fun x y e => by
      have : x.val = y.val := UInt32.toNat_inj.mp e
      exact Char.ext this
    have key : ∀ l m : List Char, l.map Char.toNat = m.map Char.toNat → l = m := by
      intro l
      induction l with
      | nil => intro m h; cases m with | nil => rfl | cons c m => simp at h
      | cons c l ih =>
        intro m h
        cases m with
        | nil => simp at h
        | cons d m =>
          simp only [List.map_cons, List.cons.injEq] at h
          rw [inj _ _ h.1, ih _ h.2]
    exact String.ext (key _ _ h2)
  · intro h; rw [h]
theorem ofString_length (s : String) : (Str.ofString s).length = s.length := by
  rw [Str.ofString_eq_toList]
  simp [Str.length]
  rfl

section
variable {α β : Type} {F : D → Sto → Prop} {FB : Bool → Sto → Prop} {FL : List D → Sto → Prop} {FO : Option Int → Sto → Prop} {FI : Option Nat × List D → Sto → Prop} {E : Exc → Sto → Prop} {S : Sto} {ρ : Rho} {a b c : EvD} {s t : EvB} {as : EvL}
theorem wp_var {i : Nat} : wp (eVar i ρ S) F E ↔ ∃ d, ρ[i]? = some (some d) ∧ F d S := by
  unfold eVar
  split
  · rename_i d h
    constructor
    · intro q; exact ⟨d, h, q⟩
    · rintro ⟨d', h', q⟩; rw [h] at h'; cases h'; exact q
  · rename_i h
    constructor
    · intro q; exact q.elim
    · rintro ⟨d', h', q⟩; exact absurd h' (h d')
theorem wp_C {d : D} : wp (eC d ρ S) F E ↔ F d S := Iff.rfl
theorem wp_bin {g : D → D → M D} : wp (eBin g a b ρ S) F E ↔ wp (a ρ S) (fun x S1 => wp (b ρ S1) (fun y S2 => wp (g x y S2) F E) E) E := by
  unfold eBin; simp only [wp_bnd]
theorem wp_un {g : D → M D} : wp (eUn g a ρ S) F E ↔ wp (a ρ S) (fun x S1 => wp (g x S1) F E) E := by
  unfold eUn; simp only [wp_bnd]
theorem wp_T : wp (eT a ρ S) FB E ↔ wp (a ρ S) (fun x S1 => wp (gTruth x S1) FB E) E := by
  unfold eT; simp only [wp_bnd]
theorem wp_Tb : wp (eTb a ρ S) FB E ↔ wp (a ρ S) (fun x S1 => wp (asBl x S1) FB E) E := by
  unfold eTb; simp only [wp_bnd]
theorem wp_asBl {k : Bool} : wp (asBl (.bl k) S) FB E ↔ FB k S := Iff.rfl
theorem wp_truthBl {k : Bool} : wp (gTruth (.bl k) S) FB E ↔ FB k S := Iff.rfl
theorem wp_bAnd : wp (bAnd s t ρ S) FB E ↔ wp (s ρ S) (fun x S1 => if x = true then wp (t ρ S1) FB E else FB false S1) E := by
  unfold bAnd; simp only [wp_bnd, wp_fif, wp_ret]
theorem wp_bOr : wp (bOr s t ρ S) FB E ↔ wp (s ρ S) (fun x S1 => if x = true then FB true S1 else wp (t ρ S1) FB E) E := by
  unfold bOr; simp only [wp_bnd, wp_fif, wp_ret]
theorem wp_bNot : wp (bNot s ρ S) FB E ↔ wp (s ρ S) (fun x S1 => FB (!x) S1) E := by
  unfold bNot; simp only [wp_bnd, wp_ret]
theorem wp_eIf : wp (eIf s a b ρ S) F E ↔ wp (s ρ S) (fun x S1 => if x = true then wp (a ρ S1) F E else wp (b ρ S1) F E) E := by
  unfold eIf; simp only [wp_bnd, wp_fif]
def blCase (x : D) (p q : Prop) : Prop := match x with
  | .bl true => p
  | .bl false => q
  | _ => False
theorem blCase_bl {k : Bool} {p q : Prop} : blCase (.bl k) p q ↔ if k = true then p else q := by
  cases k <;> simp [blCase]
theorem wp_eAnd : wp (eAnd a b ρ S) F E ↔ wp (a ρ S) (fun x S1 => blCase x (wp (b ρ S1) F E) (F (.bl false) S1)) E := by
  unfold eAnd; simp only [wp_bnd]
  constructor <;> intro h <;> refine wp_mono h (fun x S' h => ?_) (fun _ _ h => h)
  · unfold blCase; split at h <;> first | exact h | exact h.elim
  · unfold blCase at h; split at h <;> first | exact h | exact h.elim
theorem wp_eOr : wp (eOr a b ρ S) F E ↔ wp (a ρ S) (fun x S1 => blCase x (F (.bl true) S1) (wp (b ρ S1) F E)) E := by
  unfold eOr; simp only [wp_bnd]
  constructor <;> intro h <;> refine wp_mono h (fun x S' h => ?_) (fun _ _ h => h)
  · unfold blCase; split at h <;> first | exact h | exact h.elim
  · unfold blCase at h; split at h <;> first | exact h | exact h.elim
theorem wp_eNot : wp (eNot a ρ S) F E ↔ wp (a ρ S) (fun x S1 => blCase x (F (.bl false) S1) (F (.bl true) S1)) E := by
  unfold eNot; simp only [wp_bnd]
  constructor <;> intro h <;> refine wp_mono h (fun x S' h => ?_) (fun _ _ h => h)
  · unfold blCase
    split at h
    · rename_i k; cases k <;> exact h
    · exact h.elim
  · unfold blCase at h; split at h <;> first | exact h | exact h.elim
theorem wp_chain {g g' : D → D → M D} : wp (eChain g g' a b c ρ S) F E ↔ wp (a ρ S) (fun x S1 => wp (b ρ S1) (fun y S2 => wp (g x y S2) (fun z S3 => blCase z (wp (c ρ S3) (fun w S4 => wp (g' y w S4) F E) E) (F (.bl false) S3)) E) E) E := by
  unfold eChain; simp only [wp_bnd]
  constructor <;> intro h <;> refine wp_mono h (fun x S1 h => wp_mono h (fun y S2 h => wp_mono h (fun z S3 h => ?_) fun _ _ h => h) fun _ _ h => h) (fun _ _ h => h)
  · cases z with
    | bl k => cases k with
      | true => exact wp_bnd.mp h
      | false => exact h
    | _ => exact False.elim h
  · cases z with
    | bl k => cases k with
      | true => exact wp_bnd.mpr h
      | false => exact h
    | _ => exact False.elim h
theorem wp_aNil : wp (aNil ρ S) FL E ↔ FL [] S := Iff.rfl
theorem wp_aCons : wp (aCons a as ρ S) FL E ↔ wp (a ρ S) (fun x S1 => wp (as ρ S1) (fun xs S2 => FL (x :: xs) S2) E) E := by
  unfold aCons; simp only [wp_bnd, wp_ret]
theorem wp_tup : wp (eTup as ρ S) F E ↔ wp (as ρ S) (fun ds S1 => ds.length ≤ sizeLine ∧ F (.tup ds) S1) E := by
  unfold eTup; simp only [wp_bnd]
  constructor <;> intro h <;> refine wp_mono h (fun x S' h => ?_) (fun _ _ h => h)
  · by_cases hl : x.length ≤ sizeLine
    · rw [if_pos hl] at h; exact ⟨hl, h⟩
    · rw [if_neg hl] at h; exact h.elim
  · rw [if_pos h.1]; exact h.2
theorem wp_lst : wp (eLst as ρ S) F E ↔ wp (as ρ S) (fun ds S1 => ds.length ≤ sizeLine ∧ F (.lst ds) S1) E := by
  unfold eLst; simp only [wp_bnd]
  constructor <;> intro h <;> refine wp_mono h (fun x S' h => ?_) (fun _ _ h => h)
  · by_cases hl : x.length ≤ sizeLine
    · rw [if_pos hl] at h; exact ⟨hl, h⟩
    · rw [if_neg hl] at h; exact h.elim
  · rw [if_pos h.1]; exact h.2
theorem wp_lstM : wp (eLstM as ρ S) F E ↔ wp (as ρ S) (fun ds S1 => ds.length ≤ sizeLine ∧ F (.ref S1.length) (S1 ++ [.lst ds])) E := by
  unfold eLstM; simp only [wp_bnd]
  constructor <;> intro h <;> refine wp_mono h (fun x S' h => ?_) (fun _ _ h => h)
  · by_cases hl : x.length ≤ sizeLine
    · rw [if_pos hl] at h; exact ⟨hl, h⟩
    · rw [if_neg hl] at h; exact h.elim
  · rw [if_pos h.1]; exact h.2
theorem wp_call {g : List D → M D} : wp (eCall g as ρ S) F E ↔ wp (as ρ S) (fun ds S1 => wp (g ds S1) F E) E := by
  unfold eCall; simp only [wp_bnd]
theorem wp_cl {n : Nat} {G : List D → M D} {ds : List D} (h : ds.length = n) : wp (cl n G ds S) F E ↔ wp (G ds S) F E := by
  unfold cl; rw [if_pos h]
theorem wp_cl1 {G : List D → M D} {x : D} : wp (cl 1 G [x] S) F E ↔ wp (G [x] S) F E := wp_cl rfl
theorem wp_cl2 {G : List D → M D} {x y : D} : wp (cl 2 G [x, y] S) F E ↔ wp (G [x, y] S) F E := wp_cl rfl
theorem wp_cl3 {G : List D → M D} {x y z : D} : wp (cl 3 G [x, y, z] S) F E ↔ wp (G [x, y, z] S) F E := wp_cl rfl
theorem wp_cl4 {G : List D → M D} {x y z u : D} : wp (cl 4 G [x, y, z, u] S) F E ↔ wp (G [x, y, z, u] S) F E := wp_cl rfl
theorem wp_cl5 {G : List D → M D} {x y z u v : D} : wp (cl 5 G [x, y, z, u, v] S) F E ↔ wp (G [x, y, z, u, v] S) F E := wp_cl rfl
theorem wp_meth {T : String} {g : D → List D → M D} : wp (eMeth T g a as ρ S) F E ↔ wp (a ρ S) (fun x S1 => isTy S1 T x = true ∧ wp (as ρ S1) (fun xs S2 => wp (g x xs S2) F E) E) E := by
  unfold eMeth; simp only [wp_bnd]
  constructor <;> intro h <;> refine wp_mono h (fun x S' h => ?_) (fun _ _ h => h)
  · unfold chkT at h
    by_cases ht : isTy S' T x = true
    · rw [if_pos ht] at h; exact ⟨ht, h⟩
    · rw [if_neg ht] at h; exact h.elim
  · unfold chkT
    rw [if_pos h.1]; exact h.2
theorem wp_isi {T : String} : wp (eIsi T a ρ S) F E ↔ wp (a ρ S) (fun x S1 => ∃ n, typN S1 x = some n ∧ F (.bl (isiN n T)) S1) E := by
  unfold eIsi; simp only [wp_bnd]
  constructor <;> intro h <;> refine wp_mono h (fun x S' h => ?_) (fun _ _ h => h)
  · unfold gIsi at h
    split at h
    · rename_i n hn; exact ⟨n, hn, h⟩
    · exact h.elim
  · obtain ⟨n, hn, h⟩ := h
    unfold gIsi
    rw [hn]; exact h
theorem wp_oNone : wp (oNone ρ S) FO E ↔ FO none S := Iff.rfl
theorem wp_oSome : wp (oSome a ρ S) FO E ↔ wp (a ρ S) (fun x S1 => ∃ i, x = .int i ∧ FO (some i) S1) E := by
  unfold oSome; simp only [wp_bnd]
  constructor <;> intro h <;> refine wp_mono h (fun x S' h => ?_) (fun _ _ h => h)
  · split at h
    · exact ⟨_, rfl, h⟩
    · exact h.elim
  · obtain ⟨i, rfl, h⟩ := h; exact h
theorem wp_sl {m : Bool} {lo hi : EvO} : wp (eSl m a lo hi ρ S) F E ↔ wp (a ρ S) (fun x S1 => wp (lo ρ S1) (fun l S2 => wp (hi ρ S2) (fun h S3 => wp (gSl m x l h S3) F E) E) E) E := by
  unfold eSl; simp only [wp_bnd]
theorem wp_it : wp (iIt a ρ S) FI E ↔ wp (a ρ S) (fun x S1 => wp (srcL x S1) FI E) E := by
  unfold iIt; simp only [wp_bnd]
theorem wp_range1 : wp (iRange1 as ρ S) FI E ↔ wp (as ρ S) (fun x S1 => wp (srcR1 x S1) FI E) E := by
  unfold iRange1; simp only [wp_bnd]
theorem wp_range2 : wp (iRange2 as ρ S) FI E ↔ wp (as ρ S) (fun x S1 => wp (srcR2 x S1) FI E) E := by
  unfold iRange2; simp only [wp_bnd]
theorem wp_bYes : wp (bYes ρ S) FB E ↔ FB true S := Iff.rfl

/-! the operations on values -/
theorem gEq_str {x y : Str} : wp (gEq (.str x) (.str y) S) F E ↔ F (.bl (decide (x = y))) S := Iff.rfl
theorem gNe_str {x y : Str} : wp (gNe (.str x) (.str y) S) F E ↔ F (.bl (!decide (x = y))) S := Iff.rfl
theorem gEq_int {x y : Int} : wp (gEq (.int x) (.int y) S) F E ↔ F (.bl (decide (x = y))) S := Iff.rfl
theorem gNe_int {x y : Int} : wp (gNe (.int x) (.int y) S) F E ↔ F (.bl (!decide (x = y))) S := Iff.rfl
theorem gEq_bl {x y : Bool} : wp (gEq (.bl x) (.bl y) S) F E ↔ F (.bl (decide (x = y))) S := Iff.rfl
theorem gNe_bl {x y : Bool} : wp (gNe (.bl x) (.bl y) S) F E ↔ F (.bl (!decide (x = y))) S := Iff.rfl
theorem gIs_bl {x y : Bool} : wp (gIs (.bl x) (.bl y) S) F E ↔ F (.bl (decide (x = y))) S := Iff.rfl
theorem gIsNot_bl {x y : Bool} : wp (gIsNot (.bl x) (.bl y) S) F E ↔ F (.bl (!decide (x = y))) S := Iff.rfl
theorem gAdd_int {x y : Int} : wp (gAdd (.int x) (.int y) S) F E ↔ F (.int (x + y)) S := Iff.rfl
theorem gSub_int {x y : Int} : wp (gSub (.int x) (.int y) S) F E ↔ F (.int (x - y)) S := by
  unfold gSub gI; simp only [if_true]; rfl
theorem gC_int {f : Int → Int → Bool} {x y : Int} : wp (gC f (.int x) (.int y) S) F E ↔ F (.bl (f x y)) S := Iff.rfl
theorem gI_int {C : Int → Int → Bool} {f : Int → Int → Int} {x y : Int} : wp (gI C f (.int x) (.int y) S) F E ↔ C x y = true ∧ F (.int (f x y)) S := by
  unfold gI
  simp only []
  by_cases h : C x y = true
  · rw [if_pos h]; exact ⟨fun q => ⟨h, q⟩, fun q => q.2⟩
  · rw [if_neg h]; exact ⟨fun q => q.elim, fun q => absurd q.1 h⟩
theorem gAdd_str {x y : Str} : wp (gAdd (.str x) (.str y) S) F E ↔ x.length + y.length ≤ sizeLine ∧ F (.str (x ++ y)) S := by
  unfold gAdd
  simp only []
  by_cases h : x.length + y.length ≤ sizeLine
  · rw [if_pos h]; exact ⟨fun q => ⟨h, q⟩, fun q => q.2⟩
  · rw [if_neg h]; exact ⟨fun q => q.elim, fun q => absurd q.1 h⟩
theorem gAdd_tup {x y : List D} : wp (gAdd (.tup x) (.tup y) S) F E ↔ x.length + y.length ≤ sizeLine ∧ F (.tup (x ++ y)) S := by
  unfold gAdd
  simp only []
  by_cases h : x.length + y.length ≤ sizeLine
  · rw [if_pos h]; exact ⟨fun q => ⟨h, q⟩, fun q => q.2⟩
  · rw [if_neg h]; exact ⟨fun q => q.elim, fun q => absurd q.1 h⟩
theorem gAdd_lst {x y : List D} : wp (gAdd (.lst x) (.lst y) S) F E ↔ x.length + y.length ≤ sizeLine ∧ F (.lst (x ++ y)) S := by
  unfold gAdd
  simp only [iTrk]
  by_cases h : x.length + y.length ≤ sizeLine
  · rw [if_pos h]; exact ⟨fun q => ⟨h, q⟩, fun q => q.2⟩
  · rw [if_neg h]; exact ⟨fun q => q.elim, fun q => absurd q.1 h⟩
theorem gNeg_int {x : Int} : wp (gNeg (.int x) S) F E ↔ F (.int (-x)) S := Iff.rfl
theorem gIx_seq {x : D} {ds : List D} {k : Int} (h : iLst S x = some ds) : wp (gIx x (.int k) S) F E ↔ ∃ d, atI ds k = some d ∧ F d S := by
  have e : gIx x (.int k) S = match atI ds k with
      | some d => .ok d S
      | none => .bad := by
    unfold gIx
    cases x with
    | str z => simp [iLst] at h
    | _ => simp only [h] <;> rfl
  rw [e]
  cases h2 : atI ds k with
  | some d => exact ⟨fun q => ⟨d, rfl, q⟩, fun ⟨d', e, q⟩ => by cases e; exact q⟩
  | none => exact ⟨fun q => q.elim, fun ⟨d', e, q⟩ => by cases e⟩
theorem gIx_tup {ds : List D} {k : Int} : wp (gIx (.tup ds) (.int k) S) F E ↔ ∃ d, atI ds k = some d ∧ F d S := gIx_seq rfl
theorem gIx_lst {ds : List D} {k : Int} : wp (gIx (.lst ds) (.int k) S) F E ↔ ∃ d, atI ds k = some d ∧ F d S := gIx_seq rfl
theorem gLen_seq {x : D} {ds : List D} (h : iLst S x = some ds) : wp (gLen [x] S) F E ↔ F (.int ds.length) S := by
  unfold gLen
  cases x <;> simp_all [iLst, wp]
theorem gLen_tup {ds : List D} : wp (gLen [.tup ds] S) F E ↔ F (.int ds.length) S := gLen_seq rfl
theorem gLen_lst {ds : List D} : wp (gLen [.lst ds] S) F E ↔ F (.int ds.length) S := gLen_seq rfl
theorem gLen_str {x : Str} : wp (gLen [.str x] S) F E ↔ x.length ≤ sizeLine ∧ F (.int x.length) S := by
  unfold gLen
  simp only []
  by_cases h : x.length ≤ sizeLine
  · rw [if_pos h]; exact ⟨fun q => ⟨h, q⟩, fun q => q.2⟩
  · rw [if_neg h]; exact ⟨fun q => q.elim, fun q => absurd q.1 h⟩
theorem gInt_int {x : Int} : wp (gInt [.int x] S) F E ↔ F (.int x) S := Iff.rfl
theorem gInt_bl {x : Bool} : wp (gInt [.bl x] S) F E ↔ F (.int (if x then 1 else 0)) S := Iff.rfl
theorem gTuple_lst {ds : List D} : wp (gTuple [.lst ds] S) F E ↔ F (.tup ds) S := Iff.rfl
theorem gTuple_tup {ds : List D} : wp (gTuple [.tup ds] S) F E ↔ F (.tup ds) S := Iff.rfl
theorem gList_lst {ds : List D} : wp (gList [.lst ds] S) F E ↔ F (.lst ds) S := Iff.rfl
theorem gList_tup {ds : List D} : wp (gList [.tup ds] S) F E ↔ F (.lst ds) S := Iff.rfl
theorem gAll_bls {bs : List Bool} : wp (gAll [.lst (bs.map .bl)] S) F E ↔ F (.bl (bs.all id)) S := by
  have e : gAll [.lst (bs.map .bl)] S = .ok (.bl (bs.all id)) S := by
    unfold gAll
    simp only [iSeq, Option.bind_some, blsOf_map]
  rw [e]; rfl
theorem gSl_tup {m : Bool} {ds : List D} {lo hi : Option Int} : wp (gSl m (.tup ds) lo hi S) F E ↔ F (.tup (cutD ds lo hi)) S := Iff.rfl
theorem gSl_lst {ds : List D} {lo hi : Option Int} : wp (gSl false (.lst ds) lo hi S) F E ↔ F (.lst (cutD ds lo hi)) S := Iff.rfl
theorem gSl_fl {ds : List D} {lo hi : Option Int} : wp (gSl false (.fl ds) lo hi S) F E ↔ F (.lst (cutD ds lo hi)) S := Iff.rfl
theorem gSl_str {m : Bool} {z : Str} {lo hi : Option Int} : wp (gSl m (.str z) lo hi S) F E ↔ z.length ≤ sizeLine ∧ F (.str (cutS z lo hi)) S := by
  unfold gSl
  simp only []
  by_cases h : z.length ≤ sizeLine
  · rw [if_pos h]; exact ⟨fun q => ⟨h, q⟩, fun q => q.2⟩
  · rw [if_neg h]; exact ⟨fun q => q.elim, fun q => absurd q.1 h⟩
theorem srcL_tup {ds : List D} : wp (srcL (.tup ds) S) FI E ↔ FI (none, ds) S := Iff.rfl
theorem srcL_lst {ds : List D} : wp (srcL (.lst ds) S) FI E ↔ FI (none, ds) S := Iff.rfl
theorem srcL_fl {ds : List D} : wp (srcL (.fl ds) S) FI E ↔ FI (none, ds) S := Iff.rfl
theorem srcL_str {x : Str} : wp (srcL (.str x) S) FI E ↔ FI (none, x.cps.toList.map fun c => .str ⟨#[c]⟩) S := Iff.rfl
theorem srcR1_int {j : Int} : wp (srcR1 [.int j] S) FI E ↔ bnd62 j = true ∧ FI (none, rangeD 0 j.toNat) S := by
  unfold srcR1
  simp only []
  by_cases h : bnd62 j = true
  · rw [if_pos h]; exact ⟨fun q => ⟨h, q⟩, fun q => q.2⟩
  · rw [if_neg h]; exact ⟨fun q => q.elim, fun q => absurd q.1 h⟩
theorem inV_strs (a : Str) : ∀ l : List Str, inV (.str a) (l.map V.str) = decide (a ∈ l)
  | [] => by simp [inV]
  | x :: l => by
    have ih := inV_strs a l
    have e : inV (.str a) ((x :: l).map V.str) = ((x == a) || inV (.str a) (l.map V.str)) := rfl
    rw [e, ih]
    by_cases h : x = a
    · simp [h]
    · have h2 : ¬ a = x := fun e => h e.symm
      have h3 : (x == a) = false := by simpa using h
      simp [h2, h3]
theorem flatDs_strs : ∀ l : List Str, flatDs (l.map D.str) = some (l.map V.str)
  | [] => rfl
  | x :: l => by simp [flatDs, flatD, flatDs_strs l]
theorem gIn_strs {a : Str} {y : D} {l : List Str} (h : iLst S y = some (l.map .str)) : wp (gIn (.str a) y S) F E ↔ F (.bl (decide (a ∈ l))) S := by
  have e : inD S (.str a) y = some (decide (a ∈ l)) := by
    unfold inD
    cases y <;> simp_all [iLst, flatD, flatDs_strs, inV_strs]
  unfold gIn
  rw [e]; rfl
theorem gNotIn_strs {a : Str} {y : D} {l : List Str} (h : iLst S y = some (l.map .str)) : wp (gNotIn (.str a) y S) F E ↔ F (.bl (!decide (a ∈ l))) S := by
  have e : inD S (.str a) y = some (decide (a ∈ l)) := by
    unfold inD
    cases y <;> simp_all [iLst, flatD, flatDs_strs, inV_strs]
  unfold gNotIn
  rw [e]; rfl
theorem occ_sign {c : Nat} {z : Str} : (!(Builtin.Str.occurrences z ⟨#[c]⟩ 0 z.length 1).isEmpty) = decide (c ∈ z.cps.toList) := PySem.StrLaws.found_one z c
theorem gIn_sign {c : Nat} {z : Str} : wp (gIn (.str ⟨#[c]⟩) (.str z) S) F E ↔ F (.bl (decide (c ∈ z.cps.toList))) S := by
  have e : inD S (.str ⟨#[c]⟩) (.str z) = some (decide (c ∈ z.cps.toList)) := by
    unfold inD
    simp only [occ_sign]
  unfold gIn
  rw [e]; rfl
end
end DL

/-! DL9: stores of trees, a deck of whole numbers. -/
namespace DL
open PySem L2
section
variable {α : Type} {a b c d e : α} {l : List α}
theorem atI_0 : atI (a :: l) 0 = some a := atI_nat (j := 0) rfl
theorem atI_1 : atI (a :: b :: l) 1 = some b := atI_nat (j := 1) rfl
theorem atI_2 : atI (a :: b :: c :: l) 2 = some c := atI_nat (j := 2) rfl
theorem atI_3 : atI (a :: b :: c :: d :: l) 3 = some d := atI_nat (j := 3) rfl
theorem atI_4 : atI (a :: b :: c :: d :: e :: l) 4 = some e := atI_nat (j := 4) rfl
end
def WF (S : Sto) : Prop := S.all (MO.lo 0) = true
abbrev tr (d : D) : Prop := d.lo 0 = true
mutual
theorem D.lo_mono {m n : Nat} (h : m ≤ n) : ∀ d : D, d.lo m = true → d.lo n = true
  | .non, _ => rfl
  | .bl _, _ => rfl
  | .int _, _ => rfl
  | .str _, _ => rfl
  | .tup ds, e => by simp only [D.lo] at e ⊢; exact D.los_mono h ds e
  | .lst ds, e => by simp only [D.lo] at e ⊢; exact D.los_mono h ds e
  | .fl ds, e => by simp only [D.lo] at e ⊢; exact D.los_mono h ds e
  | .ref k, e => by simp only [D.lo, decide_eq_true_eq] at e ⊢; omega
theorem D.los_mono {m n : Nat} (h : m ≤ n) : ∀ ds : List D, D.los m ds = true → D.los n ds = true
  | [], _ => rfl
  | d :: ds, e => by
    simp only [D.los, Bool.and_eq_true] at e ⊢
    exact ⟨D.lo_mono h d e.1, D.los_mono h ds e.2⟩
end
theorem loK_mono {m n : Nat} (h : m ≤ n) : ∀ ks : List (Key × D), loK m ks = true → loK n ks = true
  | [], _ => rfl
  | d :: ds, e => by
    simp only [loK, Bool.and_eq_true] at e ⊢
    exact ⟨D.lo_mono h _ e.1, loK_mono h ds e.2⟩
theorem MO.lo_mono {m n : Nat} (h : m ≤ n) (o : MO) (e : o.lo m = true) : o.lo n = true := by
  cases o with
  | lst ds => exact D.los_mono h ds e
  | dct ks => exact loK_mono h ks e
theorem los_iff {n : Nat} : ∀ ds : List D, D.los n ds = true ↔ ∀ d ∈ ds, d.lo n = true
  | [] => by simp [D.los]
  | d :: ds => by simp [D.los, los_iff ds]
theorem los_map {α : Type} {n : Nat} {f : α → D} (h : ∀ x, (f x).lo n = true) (l : List α) : D.los n (l.map f) = true := by
  rw [los_iff]; intro d hd
  obtain ⟨x, _, rfl⟩ := List.mem_map.mp hd
  exact h x
theorem WF.nil : WF [] := rfl
theorem WF.mem {S : Sto} (h : WF S) {m : MO} (hm : m ∈ S) : m.lo 0 = true := List.all_eq_true.mp h m hm
theorem WF.append {S : Sto} {m : MO} (h : WF S) (hm : m.lo 0 = true) : WF (S ++ [m]) := by
  unfold WF at *; simp [h, hm]
theorem WF.set {S : Sto} {k : Nat} {m : MO} (h : WF S) (hm : m.lo 0 = true) : WF (S.set k m) := by
  unfold WF
  rw [List.all_eq_true]
  intro x hx
  rcases List.mem_or_eq_of_mem_set hx with q | q
  · exact h.mem q
  · rw [q]; exact hm
theorem WF.take {S : Sto} (h : WF S) (n m : Nat) : (S.take n).all (MO.lo m) = true := by
  rw [List.all_eq_true]
  intro x hx
  exact MO.lo_mono (Nat.zero_le _) x (h.mem (List.mem_of_mem_take hx))
section
variable {F : D → Sto → Prop} {E : Exc → Sto → Prop} {S S1 : Sto} {d : D}
theorem fin_cut (hw : WF S) (hd : tr d) (h : F d (S.take S1.length)) : wp (finD false S1.length d S) F E :=
  wp_fin (hw.take _ _) (D.lo_mono (Nat.zero_le _) _ hd) h
theorem fin_same (hw : WF S) (hd : tr d) (hl : S.length = S1.length) (h : F d S) : wp (finD false S1.length d S) F E := by
  refine fin_cut hw hd ?_
  rw [← hl, List.take_length]; exact h
/-- .. as a rewriting, of the store as it came -/
theorem fin_bl {b : Bool} (hw : WF S) : wp (finD false S.length (.bl b) S) F E ↔ F (.bl b) S := by
  unfold finD
  rw [if_neg (by decide), if_pos (hw.take _ _), if_pos (by rfl), List.take_length]
  rfl
theorem fin_int {b : Int} (hw : WF S) : wp (finD false S.length (.int b) S) F E ↔ F (.int b) S := by
  unfold finD
  rw [if_neg (by decide), if_pos (hw.take _ _), if_pos (by rfl), List.take_length]
  rfl
theorem fin_str {b : Str} (hw : WF S) : wp (finD false S.length (.str b) S) F E ↔ F (.str b) S := by
  unfold finD
  rw [if_neg (by decide), if_pos (hw.take _ _), if_pos (by rfl), List.take_length]
  rfl
end
/-- S is S0 but for the deck of whole numbers at k -/
structure DK (k : Nat) (S0 S : Sto) : Prop where
  wf : WF S0
  lt : k < S0.length
  at_ : ∃ cells : List Int, cells.length ≤ 100000 ∧ S = S0.set k (.lst (cells.map .int))
section
variable {k : Nat} {S0 S : Sto}
theorem DK.wf' (h : DK k S0 S) : WF S := by
  obtain ⟨w, l, cells, hc, rfl⟩ := h
  exact w.set (los_map (fun _ => rfl) cells)
theorem DK.len (h : DK k S0 S) : S.length = S0.length := by
  obtain ⟨w, l, cells, hc, rfl⟩ := h
  simp
theorem DK.get (h : DK k S0 S) : ∃ cells : List Int, cells.length ≤ 100000 ∧ atL S k = some (cells.map .int) ∧ ∀ cs : List Int, cs.length ≤ 100000 → DK k S0 (S.set k (.lst (cs.map .int))) := by
  obtain ⟨w, l, cells, hc, rfl⟩ := h
  refine ⟨cells, hc, ?_, fun cs hcs => ⟨w, l, cs, hcs, by rw [List.set_set]⟩⟩
  unfold atL
  rw [List.getElem?_set_self l]
theorem DK.push {m : MO} (h : DK k S0 S) (hm : m.lo 0 = true) : DK k (S0 ++ [m]) (S ++ [m]) := by
  obtain ⟨w, l, cells, hc, rfl⟩ := h
  refine ⟨w.append hm, by simp; omega, cells, hc, ?_⟩
  rw [List.set_append_left _ _ l]
theorem DK.refl {cells : List Int} (w : WF S0) (hc : cells.length ≤ 100000) (h : S0[k]? = some (.lst (cells.map .int))) : DK k S0 S0 := by
  have l := (List.getElem?_eq_some_iff.mp h)
  obtain ⟨l, e⟩ := l
  refine ⟨w, l, cells, hc, ?_⟩
  rw [← e, List.set_getElem_self]
/-- the last stored list, beside the deck -/
theorem DK.last {m : MO} (h : DK k (S0 ++ [m]) S) (hk : k < S0.length) : S[S0.length]? = some m ∧ ∃ S', S = S' ++ [m] ∧ S'.length = S0.length := by
  obtain ⟨w, l, cells, hc, rfl⟩ := h
  rw [List.set_append_left _ _ hk]
  refine ⟨?_, _, rfl, by simp⟩
  rw [List.getElem?_append_right (by simp)]
  simp
/-- the last stored list is changed -/
theorem DK.put {m m' : MO} (h : DK k (S0 ++ [m]) S) (hk : k < S0.length) (hm : m'.lo 0 = true) : DK k (S0 ++ [m']) (S.set S0.length m') := by
  obtain ⟨w, l, cells, hc, rfl⟩ := h
  have w0 : WF S0 := by
    unfold WF at *
    simp at w ⊢
    exact w.1
  refine ⟨w0.append hm, by simp; omega, cells, hc, ?_⟩
  rw [List.set_append_left _ _ hk, List.set_append_left _ _ hk, List.set_append_right _ _ (by simp)]
  simp
/-- the last stored list is forgotten -/
theorem DK.pop {m : MO} (h : DK k (S0 ++ [m]) S) (hk : k < S0.length) : DK k S0 (S.take S0.length) := by
  obtain ⟨w, l, cells, hc, rfl⟩ := h
  have w0 : WF S0 := by
    unfold WF at *
    simp at w ⊢
    exact w.1
  refine ⟨w0, hk, cells, hc, ?_⟩
  rw [List.set_append_left _ _ hk, List.take_append_of_le_length (by simp), List.take_of_length_le (by simp)]
end
section
variable {F : D → Sto → Prop} {E : Exc → Sto → Prop} {S : Sto}
theorem gPop_ref {n : Nat} {ds : List D} (h : atL S n = some ds) : wp (gPop (.ref n) [] S) F E ↔ ∃ d, ds[ds.length - 1]? = some d ∧ F d (S.set n (.lst ds.dropLast)) := by
  unfold gPop
  simp only [h]
  cases e : ds[ds.length - 1]? with
  | some d => exact ⟨fun q => ⟨d, rfl, q⟩, fun ⟨d', e, q⟩ => by cases e; exact q⟩
  | none => exact ⟨fun q => q.elim, fun ⟨d', e, q⟩ => by cases e⟩
theorem gAppend_ref {n : Nat} {ds : List D} {d : D} (h : atL S n = some ds) : wp (gAppend (.ref n) [d] S) F E ↔ ds.length < sizeLine ∧ F .non (S.set n (.lst (ds ++ [d]))) := by
  unfold gAppend
  simp only [h]
  by_cases hl : ds.length < sizeLine
  · rw [if_pos hl]; exact ⟨fun q => ⟨hl, q⟩, fun q => q.2⟩
  · rw [if_neg hl]; exact ⟨fun q => q.elim, fun q => absurd q.1 hl⟩
theorem isTy_ref {n : Nat} {ds : List D} (h : atL S n = some ds) : isTy S "list" (.ref n) = true := by
  simp only [isTy, atL_ok h]
  rfl
theorem gEq_refNil {n : Nat} {ds : List Int} (h : atL S n = some (ds.map .int)) : wp (gEq (.ref n) (.lst []) S) F E ↔ F (.bl (decide (ds = []))) S := by
  have tp : ∀ l : List Int, toPys (l.map .int) = some (l.map PyData.int) := by
    intro l; induction l with
    | nil => rfl
    | cons x l ih => simp [toPys, toPy, ih]
  have cl : ∀ l : List Int, PyData.canLayAll0 (l.map PyData.int) = true := by
    intro l; induction l with
    | nil => rfl
    | cons x l ih => simp [PyData.canLayAll0, PyData.canLay0, ih]
  have e : eqD S (.ref n) (.lst []) = some (decide (ds = [])) := by
    have dp : ∀ l : List Int, PyData.depthAll (l.map PyData.int) ≤ 1 := by
      intro l; induction l with
      | nil => simp [PyData.depthAll]
      | cons x l ih => simp [PyData.depthAll, PyData.depth]; omega
    have s1 : SeqAt.shaped (.list (ds.map PyData.int)) = true := by
      unfold SeqAt.shaped
      have := dp ds
      simp only [PyData.canLay0, cl, Bool.true_and, decide_eq_true_eq, PyData.depth]
      exact decide_eq_true (Nat.le_trans (Nat.succ_le_succ this) (show 2 ≤ 64 by decide))
    have e1 : toPyS S (.ref n) = some (.list (ds.map PyData.int)) := by
      simp only [toPyS, h, tp, Option.map_some]
    have e2 : toPyS S (.lst []) = some (.list []) := rfl
    have s2 : SeqAt.shaped (.list []) = true := by decide
    unfold eqD
    simp only [e1, e2, s1, s2, Bool.and_self, if_true]
    cases ds with
    | nil => rfl
    | cons x l => simp [PyData.eqv, PyData.eqvAll]
  unfold gEq
  rw [e]; rfl
end
/-- a comprehension that leaves the store as it is -/
theorem comp_pure {all : List D} {i : Nat} {el : EvD} {ρ : Rho} {S : Sto} {FF : List D → Sto → Prop} (f : D → D) (hel : ∀ d ∈ all, wp (el (ρ.set i (some d)) S) (fun y S' => y = f d ∧ S' = S) nx) (h : FF (all.map f) S) :
    wp (compM none all (gN i) bYes el ρ all S) FF nx := by
  refine wp_compM (fun k ys S' => S' = S ∧ ys = (all.take k).map f) (fun _ _ _ _ => trivial) (fun k d ys S' hd hk => ?_) (fun ys S' hk => ?_) ⟨rfl, rfl⟩
  · obtain ⟨rfl, rfl⟩ := hk
    refine ⟨_, rfl, ?_⟩
    rw [wp_bYes, if_pos rfl]
    refine wp_mono (hel d (List.mem_of_getElem? hd)) (fun y S'' hy => ?_) (fun _ _ h => h)
    obtain ⟨rfl, rfl⟩ := hy
    refine ⟨rfl, ?_⟩
    rw [List.take_succ, hd]
    simp
  · obtain ⟨rfl, rfl⟩ := hk
    rw [List.take_length]
    exact h
theorem cMul_l {i j : Int} (h0 : 0 ≤ i) (h1 : i < 18446744073709551616) : cMul i j = true := by
  unfold cMul; simp only [Bool.or_eq_true, decide_eq_true_eq]; omega
theorem cMul_r {i j : Int} (h0 : 0 ≤ j) (h1 : j < 18446744073709551616) : cMul i j = true := by
  unfold cMul; simp only [Bool.or_eq_true, decide_eq_true_eq]; omega
theorem cDiv_of {i j : Int} (h0 : 0 < j) (h1 : j < 18446744073709551616) : cDiv i j = true := by
  unfold cDiv; simp only [Bool.and_eq_true, decide_eq_true_eq]
  refine ⟨h0, Nat.lt_of_le_of_lt (m := 64) ?_ (by decide)⟩
  by_cases hz : j.natAbs = 0
  · omega
  · exact Nat.le_of_lt ((Nat.log2_lt hz).mpr (by omega))
theorem atI_mem {α : Type} {ds : List α} {v : Int} (h0 : 0 ≤ v) (h1 : v < ds.length) : ∃ d, d ∈ ds ∧ atI ds v = some d := by
  obtain ⟨j, rfl⟩ := Int.eq_ofNat_of_zero_le h0
  have hj : j < ds.length := by omega
  exact ⟨ds[j], List.getElem_mem hj, atI_nat (List.getElem?_eq_getElem hj)⟩
theorem atL_set {S : Sto} {k : Nat} {ds : List D} (h : k < S.length) : atL (S.set k (.lst ds)) k = some ds := by
  unfold atL; rw [List.getElem?_set_self h]
theorem small_line {n : Nat} (h : n ≤ 16777216) : n ≤ sizeLine := by rw [sizeLine_eq]; exact h
end DL

namespace DL
open PySem PySem.Spec PyProof.Rows L2
theorem tuple_mul1 (l : Addr) (items : Array Value) (n : Nat) (dd : Option Addr) (sl : Array (Option Value)) (u : Tok) :
    Meets (Builtin.«tuple.__mul__» ⟨[.ref l, .int 1 u], []⟩) (fun _ R s => s.heap.get? l = some { cls := .type "tuple", dict := dd, data := .seq items n, slots := sl } ∧
      R (.ok (.ret (Value.ref l))) s) :=
  .of_wp fun prog w A R s h => by
    obtain ⟨hp, g, d, tk, os⟩ := s
    obtain ⟨hl, h⟩ := h
    have f1 := AutoSeq1.idx_int
    have c0 : (decide ((1 : Int) < -(2 ^ 63)) || decide ((1 : Int) ≥ 2 ^ 63)) = false := by decide
    have c1 : (items.isEmpty || (1 : Int) == 1) = true := by simp
    wp_walk using wpAny_loadPart' hl
    repeat (first
      | (refine wpAny_ite_false (decide_eq_false (by rw [c0]; exact Bool.false_ne_true)) ?_; wp_walk using wpAny_loadPart' hl)
      | (refine wpAny_ite_true (decide_eq_true c1) ?_; wp_walk using wpAny_loadPart' hl))
    exact ⟨_, rfl, h⟩
section
variable {X : Cx} {W : WX}
theorem op_rep1 : OpR X (binaryOp .Mult) (fun x y H Q => ∃ l xs, x = V.ref l ∧ y = V.int 1 ∧ SqT X.K H l xs ∧ Q (.ref l) H) := by
  intro pins s σ H x y v u Q I rx ry h
  obtain ⟨l, xs, rfl, rfl, hT, q⟩ := h
  cases rx
  obtain ⟨t, rfl⟩ := ry
  obtain ⟨its, r, ⟨⟨cls, dd, data, sl⟩, ho, hc, n, hd⟩, hs⟩ := I.tuple hT
  simp only at hc hd
  subst hc hd
  refine wpAny_binaryOp_repeat_ref (T := "tuple") (U := "int") (by decide) ⟨_, ho, rfl⟩ (fun s' => typeIs_int s' 1 t) noFill_tuple_mul F.fills_int_mul F.slot_int_rmul repeat_tuple F.slot_int_index.lookup
    (call_meets F.slot_int_rmul (typeIs_int s 1 t) F.entry_int_rmul (F.args_int_rmul_2 _ _) (int_rmul_tuple 1 t l its.toArray n dd sl)
      ⟨ho, rfl, ⟨_, ho, rfl⟩, call_meets F.slot_tuple_mul ⟨_, ho, rfl⟩ F.entry_tuple_mul (F.args_tuple_mul_2 _ _) (tuple_mul1 l its.toArray n dd sl t) ⟨ho, ?_⟩⟩)
  exact ⟨.ref l, _, I, rfl, q⟩
theorem RDs.repl {K : PySem.W.Frag} {μ : Mu} {H : Hp} {ds : List D} {vs : List V} (h : RDs K μ H ds vs) : ∀ m : Nat, RDs K μ H (List.replicate m ds).flatten (List.replicate m vs).flatten
  | 0 => .nil
  | m + 1 => by rw [List.replicate_succ, List.replicate_succ, List.flatten_cons, List.flatten_cons]; exact h.append (RDs.repl h m)
/-- a tuple once; a list some times -/
def gMulS (x y : D) : M D := fun S => match x, y with
  | .tup ds, .int k => if k = 1 then .ok (.tup ds) S else .bad
  | .lst ds, .int k => if 0 ≤ k ∧ k < 1000000 ∧ ds.length * k.toNat ≤ sizeLine then .ok (.lst (List.replicate k.toNat ds).flatten) S else .bad
  | _, _ => .bad
theorem o_mulS : ORD X W (binaryOp .Mult) gMulS := by
  refine ⟨_, op_rep1.or op_rep, fun x y v w μ S σ H Q r rx ry h => ?_⟩
  unfold gMulS at h
  split at h
  · cases ry
    cases rx with
    | tup h1 h2 =>
      split at h
      · rename_i hk
        subst hk
        exact .inl ⟨_, _, rfl, rfl, h1, h.now r _ (.tup h1 h2)⟩
      · exact h.elim
  · cases ry
    split at h
    · rename_i hl
      obtain ⟨p1, v1, rfl, q1, z1⟩ := iTrk_ok (d := .lst _) rfl r rx
      refine .inr ⟨_, _, _, rfl, rfl, q1, by omega, by omega, by rw [← z1.length]; exact hl.2.2, fun p hp => ?_⟩
      exact h μ _ (Stp.new hp) (r.new hp) _ (.lst upd_same ⟨fun z => r.there z hp, fun z => r.hid _ z hp⟩ ((z1.step r (Stp.new hp)).repl _))
    · exact h.elim
  · exact h.elim
end
section
variable {F : D → Sto → Prop} {E : Exc → Sto → Prop} {S : Sto}
theorem gMulS_tup {ds : List D} : wp (gMulS (.tup ds) (.int 1) S) F E ↔ F (.tup ds) S := by
  unfold gMulS; exact Iff.rfl
theorem gMulS_lst4 {d : D} : wp (gMulS (.lst [d]) (.int 4) S) F E ↔ F (.lst [d, d, d, d]) S := by
  unfold gMulS
  simp only []
  rw [if_pos ⟨by decide, by decide, by rw [sizeLine_eq]; show 1 * 4 ≤ 16777216; decide⟩]
  exact Iff.rfl
end
end DL

/-! DLT: texts by one sign parted. -/
namespace DL
open PySem L2
def jn (c : Nat) : List (List Nat) → List Nat
  | [] => []
  | [x] => x
  | x :: y :: r => x ++ c :: jn c (y :: r)
theorem jn_cons {c : Nat} {x : List Nat} {r : List (List Nat)} (h : r ≠ []) : jn c (x :: r) = x ++ c :: jn c r := by
  cases r with
  | nil => exact absurd rfl h
  | cons y r => rfl
theorem pre_uniq {c : Nat} : ∀ {a b u v : List Nat}, c ∉ a → c ∉ b → a ++ c :: u = b ++ c :: v → a = b ∧ u = v
  | [], [], _, _, _, _, e => by simpa using e
  | [], y :: b, _, _, _, hb, e => by simp at e; exact absurd (by simp [e.1]) hb
  | x :: a, [], _, _, ha, _, e => by simp at e; exact absurd (by simp [e.1]) ha
  | x :: a, y :: b, u, v, ha, hb, e => by
    simp only [List.cons_append, List.cons.injEq] at e
    obtain ⟨h1, h2⟩ := pre_uniq (fun z => ha (List.mem_cons_of_mem _ z)) (fun z => hb (List.mem_cons_of_mem _ z)) e.2
    exact ⟨by rw [e.1, h1], h2⟩
theorem jn_uniq {c : Nat} : ∀ {p q : List (List Nat)}, p ≠ [] → q ≠ [] → (∀ x ∈ p, c ∉ x) → (∀ x ∈ q, c ∉ x) → jn c p = jn c q → p = q
  | [], _, h, _, _, _, _ => absurd rfl h
  | _, [], _, h, _, _, _ => absurd rfl h
  | [x], [y], _, _, _, _, e => by simpa [jn] using e
  | [x], y :: z :: r, _, _, hp, _, e => by
    simp only [jn] at e
    exact absurd (show c ∈ x by rw [e]; simp) (hp x (by simp))
  | x :: z :: r, [y], _, _, _, hq, e => by
    simp only [jn] at e
    exact absurd (show c ∈ y by rw [← e]; simp) (hq y (by simp))
  | x :: z :: r, y :: w :: s, _, _, hp, hq, e => by
    simp only [jn] at e
    obtain ⟨h1, h2⟩ := pre_uniq (hp x (by simp)) (hq y (by simp)) e
    rw [h1, jn_uniq (by simp) (by simp) (fun t ht => hp t (List.mem_cons_of_mem _ ht)) (fun t ht => hq t (List.mem_cons_of_mem _ ht)) h2]
theorem app_toList (a b : Str) : (a ++ b).cps.toList = a.cps.toList ++ b.cps.toList := by
  show (a.cps ++ b.cps).toList = _
  simp
theorem str_ext {a b : Str} (h : a.cps.toList = b.cps.toList) : a = b := by
  cases a; cases b
  simp only at h
  congr
  exact Array.toList_inj.mp h
theorem join_toList (c : Nat) : ∀ ps : List Str, (Str.join ⟨#[c]⟩ ps).cps.toList = jn c (ps.map fun p => p.cps.toList)
  | [] => rfl
  | [x] => rfl
  | x :: y :: r => by
    show ((x ++ (⟨#[c]⟩ : Str)) ++ Str.join ⟨#[c]⟩ (y :: r)).cps.toList = _
    rw [app_toList, app_toList, join_toList c (y :: r)]
    simp [jn]
theorem split_join {c : Nat} {ps : List Str} (h0 : ps ≠ []) (hf : ∀ p ∈ ps, c ∉ p.cps.toList) : Txt.split (Str.join ⟨#[c]⟩ ps) ⟨#[c]⟩ = ps := by
  have h1 := StrLaws.join_split (Str.join ⟨#[c]⟩ ps) ⟨#[c]⟩
  have h2 := StrLaws.split_free (Str.join ⟨#[c]⟩ ps) c
  have h3 : Txt.split (Str.join ⟨#[c]⟩ ps) ⟨#[c]⟩ ≠ [] := fun e => by
    have := PyProof.Rows.split_pos (Str.join ⟨#[c]⟩ ps) ⟨#[c]⟩
    rw [e] at this
    simp at this
  generalize Txt.split (Str.join ⟨#[c]⟩ ps) ⟨#[c]⟩ = qs at *
  have h4 : jn c (qs.map fun p => p.cps.toList) = jn c (ps.map fun p => p.cps.toList) := by rw [← join_toList, ← join_toList, h1]
  have h5 := jn_uniq (by simpa using h3) (by simpa using h0) (by simpa using h2) (by simpa using hf) h4
  exact (List.map_inj_right (fun a b e => str_ext e)).mp h5
theorem split_two {c : Nat} {a b : Str} (ha : c ∉ a.cps.toList) (hb : c ∉ b.cps.toList) : Txt.split (a ++ ⟨#[c]⟩ ++ b) ⟨#[c]⟩ = [a, b] := by
  have := split_join (c := c) (ps := [a, b]) (by simp) (fun p hp => by simp only [List.mem_cons, List.not_mem_nil, or_false] at hp; rcases hp with rfl | rfl <;> assumption)
  exact this
end DL

/-! DLR: list(reversed(x)) -/
namespace DL
open PySem PySem.Spec PyProof.Rows L2 RT
section
variable {prog : Program} {w : World} {A : Around} {E : Value → Shared → Prop} {s : Shared}
theorem init_list_rev {R : Result → Shared → Prop} {it l : Addr} {items : Array Value} (hh : A.handled = none) (hit : s.heap.IsRevIter it l ((items.size : Int) - 1)) (hl : s.heap.IsList l items) (hne : l ≠ it) (hn : items.size ≤ sizeLine) (Z : Addr) (hZl : Z ≠ l)
    (hZ : s.heap.get? Z = some { cls := .type "list", data := .seq #[] })
    (hR : ∀ (h' : Heap) (tk : Nat) (acc : Array Value) (c' : Nat), (∀ b o, b ≠ it → b ≠ Z → s.heap.get? b = some o → h'.get? b = some o) → h'.get? Z = some { cls := .type "list", dict := none, data := .seq acc c', slots := #[] } →
      ItemsOf (fun i v => items[items.size - 1 - i]? = some v) acc items.size → R (.ok (.ret .none)) { s with heap := h', toks := tk }) :
    wpAny (model prog w) A.in1 (Builtin.«list.__init__» ⟨[.ref Z, .ref it], []⟩)
      (fun fin s' => match fin with | .done f => R (.ok f) s' | .again c' => c'.quiet = true ∧ codeAny (model prog w) A c' R s') (fun e s' => R (.error e) s') s := by
  have hh1 : A.in1.handled = none := hh
  have W := (Walks.listRev (prog := prog) (w := w) (A := A.in1) hh1 it l hne items).toS
  obtain ⟨oi, hoi, hoc, hod⟩ := id hit
  obtain ⟨ol, hol, _⟩ := id hl
  have hSi : Z ≠ it := fun e => by
    rw [e, hoi] at hZ
    have q := congrArg Obj.cls (Option.some.inj hZ)
    rw [hoc] at q
    injection q with q
    exact absurd q (by decide)
  have hSf : Z ∉ [it, l] := by simp only [List.mem_cons, List.not_mem_nil, or_false, not_or]; exact ⟨hSi, hZl⟩
  show wpAny _ _ (do let old ← Builtin.List.listItems (.ref Z); Builtin.List.listUpdate (.ref Z) (fun _ => #[]); letGo old.toList.reverse; Builtin.List.listExtendWith (.ref Z) (.ref it) .none) _ _ s
  refine wpAny_bind ?_
  unfold Builtin.List.listItems
  refine wpAny_bind (wpAny_seqItems hZ rfl (wpAny_pure ?_))
  show wpAny _ _ (updateSeq Z (fun _ => #[]) >>= fun _ => letGo (#[] : Array Value).toList.reverse >>= fun _ => Builtin.List.listExtendWith (.ref Z) (.ref it) .none) _ _ s
  refine wpAny_bind (wpAny_updateSeq hZ rfl ?_)
  have hZ2 := Heap.get?_update_self (Obj.mapSeq (fun _ => (#[] : Array Value))) hZ rfl
  have oth : ∀ b o, b ≠ Z → s.heap.get? b = some o → (s.heap.update Z (Obj.mapSeq (fun _ => (#[] : Array Value)))).get? b = some o :=
    fun b o hb e => (Heap.get?_update_other _ _ (Ne.symm hb)).trans e
  refine wpAny_bind (wpAny_letGo ?_)
  have hit1 : (s.heap.update Z (Obj.mapSeq (fun _ => (#[] : Array Value)))).IsRevIter it l ((items.size : Int) - 1) := hit.at fun o e => oth it o (Ne.symm hSi) e
  obtain ⟨ol', hol', hlc, nl, hld⟩ := id hl
  have hl1 : (s.heap.update Z (Obj.mapSeq (fun _ => (#[] : Array Value)))).IsList l items := ⟨ol', oth l ol' (Ne.symm hZl) hol', hlc, nl, hld⟩
  have hT : ({ s with heap := s.heap.update Z (Obj.mapSeq (fun _ => (#[] : Array Value))) } : Shared).TypeIs (.ref it) "list_reverseiterator" := Heap.IsRevIter.typeIs (s := { s with heap := s.heap.update Z (Obj.mapSeq (fun _ => (#[] : Array Value))) }) hit1
  have h1 : Builtin.List.listSameRef (.ref Z) (.ref it) = false := by simp [Builtin.List.listSameRef, hSi]
  unfold Builtin.List.listExtendWith
  refine wpAny_bind (wpAny_typeOf hT ?_)
  rw [if_neg (by rw [h1]; decide)]
  refine wpAny_bind (wpAny_pyIter_revIter (s := { s with heap := s.heap.update Z (Obj.mapSeq (fun _ => (#[] : Array Value))) }) hit1 ?_)
  refine wpAny_bind (wpAny_holding ?_)
  unfold Builtin.List.listLengthHint
  refine wpAny_bind (wpAny_specialOf hT nolen_lri ?_)
  show wpAny _ A.in1 (specialOf (Value.ref it) (Str.ofString "__length_hint__") >>= _) _ _ _
  refine wpAny_bind (wpAny_specialOf hT hint_lri ?_)
  generalize hid : ("list_reverseiterator.__length_hint__" : String) = id0
  wp_delta
  rw [show splitId id0 = some ("list_reverseiterator", "__length_hint__") from by subst hid; decide +kernel]
  subst hid
  refine wpAny_bind (wpAny_isInstance (b := true) hT (by rw [isSubtype_type]; kernel_rfl) ?_)
  refine wpAny_pure ?_
  rw [if_neg (by decide)]
  have e0 : ((items.size : Nat) : Int) - 1 - ((0 : Nat) : Int) = (items.size : Int) - 1 := by omega
  refine wpAny_pure ⟨plainId_quiet F.plain_extend_loop _, codeAny_extend_loopS W hn _ hSf _ items.size 0 _ _ _ rfl (Nat.zero_le _) ⟨Nat.zero_le _, by rw [e0]; exact hit1, hl1⟩ hZ2 (ItemsOf.nil _) fun s' acc' c' hm hS' hacc => ?_⟩
  rw [Moved.eq_with hm]
  refine hR s'.heap s'.toks acc' c' (fun b o hb hb2 e => hm.heap b o (fun hmem => ?_) (oth b o hb2 e)) hS' hacc
  rcases List.mem_cons.mp hmem with e' | hmem
  · exact hb2 e'
  · exact hb (List.mem_singleton.mp hmem)
theorem call_list_rev {it l : Addr} {items : Array Value} {Q : Value → Shared → Prop} (hh : A.handled = none) (hit : s.heap.IsRevIter it l ((items.size : Int) - 1)) (hl : s.heap.IsList l items) (hne : l ≠ it) (hn : items.size ≤ sizeLine)
    (hQ : ∀ (h' : Heap) (tk : Nat) (acc : Array Value) (c' : Nat), (∀ b o, b ≠ it → s.heap.get? b = some o → h'.get? b = some o) → h'.get? s.heap.objs.size = some { cls := .type "list", dict := none, data := .seq acc c', slots := #[] } →
      ItemsOf (fun i v => items[items.size - 1 - i]? = some v) acc items.size → Q (.ref s.heap.objs.size) { s with heap := h', toks := tk }) :
    wpAny (model prog w) A (call (.type "list") [.ref it]) Q E s := by
  obtain ⟨ol, hol, _⟩ := id hl
  refine callType_codes (Q₁ := fun obj s₁ => obj = .ref s.heap.objs.size ∧ s₁ = { s with heap := s.heap.push { cls := .type "list", data := .seq #[] } }) F.called_list (F.typeCall_list_1 _) F.entry_list_init
    (code_list_new _ ⟨rfl, rfl⟩) fun obj s₁ h₁ => ?_
  obtain ⟨rfl, rfl⟩ := h₁
  have hS : (s.heap.push { cls := .type "list", data := .seq #[] }).get? s.heap.objs.size = some { cls := .type "list", data := .seq #[] } := Heap.get?_push_size _ rfl
  refine ⟨⟨_, hS, rfl⟩, F.args_list_init_2 _ _, init_list_rev (A := A.in1) hh (hit.at fun o e => Heap.get?_push_of_some _ e) (hl.push _) hne hn _ (Nat.ne_of_gt (Heap.lt_size hol)) hS fun h' tk acc c' hk hS' hacc => ?_⟩
  exact ⟨rfl, hQ h' tk acc c' (fun b o hb e => hk b o hb (Nat.ne_of_lt (Heap.lt_size e)) (Heap.get?_push_of_some _ e)) hS' hacc⟩
end
end DL

namespace DL
open PySem PySem.Spec PyProof.Rows L2 RT
section
variable {X : Cx} {W : WX} {pos : Pos}
def tLstRev (K : PySem.W.Frag) (te : TE) : TE := fun σ H Q => te σ H fun v H1 => ∃ (a : Addr) (xs : List V), v = .ref a ∧ SqL K H1 a xs ∧ ∀ q, H1 q = none → Q (.ref q) (upd H1 q (.lst xs.reverse))
theorem pe_listRev {e : Expr} {te : TE} {p p2 pos2 : Pos} (hc : X.calm = true) (hg : Gl X "list") (hm : X.mg "list" = none) (hg2 : Gl X "reversed") (hm2 : X.mg "reversed" = none) (he : PE X e te)
    (hs : starEach [e] X.env = (false, eval e X.env) :: starEach [] X.env := by rfl)
    (hs2 : starEach [.Call (.Name "reversed" p2) [e] [] pos2] X.env = (false, eval (.Call (.Name "reversed" p2) [e] [] pos2) X.env) :: starEach [] X.env := by rfl) :
    PE X (.Call (.Name "list" p) [.Call (.Name "reversed" p2) [e] [] pos2] [] pos) (tLstRev X.K te) := by
  refine ⟨fun pins s σ H Q I h => ?_⟩
  refine Call_ (ld_blt I hg hm boot_list (PyProof.Rows.callWith_type1 (args_cons (Call_ (ld_blt I hg2 hm2 PyProof.Rows.boot_reversed (PyProof.Rows.callWith_type1 (args_cons (thn (he.run pins s σ H _ I h) fun u s1 ⟨v, H1, I1, r1, q1⟩ => args_nil ?_) hs) hs rfl))) hs2) hs2 rfl))
  obtain ⟨a, xs, ev, hq, q⟩ := q1
  subst ev
  obtain rfl : u = Value.ref a := r1
  obtain ⟨its, rv, p', hz⟩ := I1.list hq
  refine call_reversed_list p'.isList (args_nil ?_)
  have k0 : ∀ b o, s1.heap.get? b = some o → (s1.heap.push (revObj a ((its.toArray.size : Int) - 1))).get? b = some o := fun b o e => Heap.get?_push_of_some _ e
  have I2 : Inv X pins σ H1 { s1 with heap := s1.heap.push (revObj a ((its.toArray.size : Int) - 1)) } := I1.kept (t' := s1.toks) k0
  have hfp := I1.fpOk (H' := H1) (b := s1.heap.objs.size) (Nat.le_refl _) (I1.hok.fresh (Nat.le_refl _))
  have hl := p'.isList
  obtain ⟨ol, hol, _⟩ := id hl
  have hne : a ≠ s1.heap.objs.size := Nat.ne_of_lt (Heap.lt_size hol)
  have hn : its.toArray.size ≤ sizeLine := by rw [List.size_toArray, ← rv.length]; exact hz
  refine call_list_rev (s := { s1 with heap := s1.heap.push (revObj a ((its.toArray.size : Int) - 1)) }) (I1.ok.hd hc) ⟨_, Heap.get?_push_size _ rfl, rfl, rfl⟩ (hl.push _) hne hn fun h' tk acc c' hk hS hi => ?_
  have I3 := I2.turnedNew (t' := tk) (ch := [s1.heap.objs.size]) (ob := .lst xs.reverse) (fun b o hb e => hk b o (fun z => hb (by simp [z])) e) (fun b hb => by
    have z : b = s1.heap.objs.size := by simpa using hb
    rw [z]; exact hfp) (Nat.le_refl _) (show ObjOk X.prog X.w _ _ _ (.lst xs.reverse) from ⟨by rw [List.length_reverse]; exact hz, acc.toList, c', vals_rev rv hi, by rw [Array.toArray_toList]; exact hS⟩)
  exact ⟨.ref (s1.heap.push (revObj a ((its.toArray.size : Int) - 1))).objs.size, _, I3, rfl, q _ (I2.hok.fresh (Nat.le_refl _))⟩
/-- list(reversed(x)), to be changed or not -/
def gRevL (mu : Bool) (x : D) : M D := gRev mu x
theorem d_listRev (mu : Bool) {e : Expr} {te : EvD} {p p2 pos2 : Pos} (hc : X.calm = true) (hg : Gl X "list") (hm : X.mg "list" = none) (hg2 : Gl X "reversed") (hm2 : X.mg "reversed" = none) (he : PE X e (tD X.K X.mg W te))
    (hs : starEach [e] X.env = (false, eval e X.env) :: starEach [] X.env := by rfl)
    (hs2 : starEach [.Call (.Name "reversed" p2) [e] [] pos2] X.env = (false, eval (.Call (.Name "reversed" p2) [e] [] pos2) X.env) :: starEach [] X.env := by rfl) :
    PE X (.Call (.Name "list" p) [.Call (.Name "reversed" p2) [e] [] pos2] [] pos) (tD X.K X.mg W (eUn (gRev mu) te)) := by
  refine PE.imp (pe_listRev hc hg hm hg2 hm2 he hs hs2) fun σ H Q ⟨ρ, S, μ, e, s, h⟩ => ?_
  refine ⟨ρ, S, μ, e, s, h.bnd fun x S1 μ1 H1 s1 r1 h1 v rv => ?_⟩
  unfold gRev at h1
  split at h1
  · rename_i ds e
    obtain ⟨a, vs, rfl, q, z⟩ := iSeq_ok e r1 rv
    refine ⟨a, vs, rfl, q, fun p hp => ?_⟩
    split at h1
    · exact h1 (μ1.push p) _ (Stp.alloc hp) (r1.alloc hp ⟨_, upd_same, (z.step r1 (Stp.alloc hp)).reverse⟩) _ (new_ref r1)
    · exact h1 μ1 _ (Stp.new hp) (r1.new hp) _ (.lst upd_same ⟨fun z => r1.there z hp, fun z => r1.hid _ z hp⟩ (z.step r1 (Stp.new hp)).reverse)
  · exact h1.elim
/-- reversed(x), x a tuple -/
theorem it_revT {K : PySem.W.Frag} {a : Addr} {ds : List D} : ItOk K (ItvT K a ds.length) none ds.reverse (fun μ H => RD K μ H (.tup ds) (.ref a)) where
  go := fun i μ S H hi r _ g => by
    have hi' : i < ds.length := by simpa using hi
    cases g with
    | tup q z =>
      obtain ⟨v, ev, _⟩ := z.get (List.getElem?_eq_getElem (show ds.length - 1 - i < ds.length by omega))
      exact ⟨hi', _, v, q, ev⟩
  yld := fun i x μ S H H' hi r _ g y => by
    have hi' : i < ds.length := by simpa using hi
    obtain ⟨rfl, y⟩ := y
    cases g with
    | tup q z =>
      obtain ⟨v, ev, rv⟩ := z.get (List.getElem?_eq_getElem (show ds.length - 1 - i < ds.length by omega))
      have := y _ q
      rw [this] at ev
      cases ev
      refine ⟨.refl, r, _, ?_, rv⟩
      rw [List.getElem?_reverse hi', List.getElem?_eq_getElem]
  stop := fun μ S H r _ g => by show ds.length ≤ _; simp
  step := fun μ S H μ' H' g r s => RD.step g r s
  hide := fun μ H p o g h => RD.hide h _ _ g
  seen := fun μ H p xs ys g h => RD.seen h _ _ g
def srcV (d : D) : M (Option Nat × List D) := fun S => match d with
  | .tup ds => .ok (none, ds.reverse) S
  | _ => .bad
def iRev (a : EvD) : EvI := fun ρ => bnd (a ρ) srcV
theorem i_rev {tg e : Expr} {te : EvD} {p pos : Pos} (hg : Gl X "reversed") (hm : X.mg "reversed" = none) (he : PE X e (tD X.K X.mg W te)) (hs : starEach [e] X.env = (false, eval e X.env) :: starEach [] X.env := by rfl) : PI X tg (.Call (.Name "reversed" p) [e] [] pos) (tI X.K X.mg W (iRev te)) := by
  refine PI.imp (pi_revA hg hm he hs) fun σ H R ⟨ρ, S, μ, e, s, h⟩ => ?_
  refine ⟨ρ, S, μ, e, s, h.bnd fun x S1 μ1 H1 s1 r1 h1 v rv => ?_⟩
  unfold srcV at h1
  split at h1
  · have rv0 := rv
    cases rv with
    | @tup a vs _ q z =>
      refine ⟨a, vs, rfl, .inr ⟨q, ?_⟩⟩
      rw [← z.length]
      exact h1.now r1 _ _ it_revT rv0
  · exact h1.elim
/-- + of lists: a list that will be changed -/
def gAddM (x y : D) : M D := fun S => match iTrk S x, iTrk S y with
  | some a, some b => if a.length + b.length ≤ sizeLine then .ok (.ref S.length) (S ++ [.lst (a ++ b)]) else .bad
  | _, _ => .bad
theorem o_addM : ORD X W (binaryOp .Add) gAddM := by
  refine ⟨_, op_cat, fun x y v w μ S σ H Q r rx ry h => ?_⟩
  unfold gAddM at h
  split at h
  · rename_i a b ea eb
    split at h
    · rename_i hl
      obtain ⟨p1, v1, rfl, q1, z1⟩ := iTrk_ok ea r rx
      obtain ⟨p2, v2, rfl, q2, z2⟩ := iTrk_ok eb r ry
      rw [z1.length, z2.length] at hl
      refine ⟨_, _, _, _, rfl, rfl, q1, q2, hl, fun p hp => ?_⟩
      exact h (μ.push p) _ (Stp.alloc hp) (r.alloc hp ⟨_, upd_same, (z1.step r (Stp.alloc hp)).append (z2.step r (Stp.alloc hp))⟩) _ (new_ref r)
    · exact h.elim
  · exact h.elim
end
end DL

/-! DLR3: comprehensions whose list will be changed -/
namespace DL
open PySem L2
section
variable {K : PySem.W.Frag} {μ : Mu} {S : Sto} {H : Hp}
mutual
theorem RD.reveal {p : Addr} : ∀ (d : D) (v : V), RD K (μ.hide p) H d v → RD K (μ.push p) H d v
  | .non, _, h => by cases h; exact .non
  | .bl _, _, h => by cases h; exact .bl _
  | .int _, _, h => by cases h; exact .int _
  | .str _, _, h => by cases h; exact .str _
  | .tup ds, _, h => by cases h with | tup h1 h2 => exact .tup h1 (RDs.reveal ds _ h2)
  | .fl ds, _, h => by cases h with | fl h1 h2 => exact .fl h1 (RDs.reveal ds _ h2)
  | .lst ds, _, h => by
    cases h with
    | lst h1 h0 h2 =>
      refine .lst h1 ⟨fun z => ?_, fun z => h0.2 (List.mem_cons_of_mem _ z)⟩ (RDs.reveal ds _ h2)
      rcases List.mem_append.mp z with z | z
      · exact h0.1 z
      · exact h0.2 (by rw [List.mem_singleton.mp z]; exact List.mem_cons_self)
  | .ref n, _, h => by
    cases h with
    | ref h1 =>
      refine .ref ?_
      have h1' : μ.v[n]? = some _ := h1
      show (μ.v ++ [p])[n]? = _
      rw [List.getElem?_append_left (List.getElem?_eq_some_iff.mp h1').1]; exact h1'
theorem RDs.reveal {p : Addr} : ∀ (ds : List D) (vs : List V), RDs K (μ.hide p) H ds vs → RDs K (μ.push p) H ds vs
  | [], _, h => by cases h; exact .nil
  | d :: ds, _, h => by
    cases h with
    | cons h1 h2 => exact .cons (RD.reveal d _ h1) (RDs.reveal ds _ h2)
end
theorem Rel.reveal {p : Addr} {xs : List V} {ds : List D} (r : Rel K (μ.hide p) S H) (hp : H p = some (.lst xs)) (hd : RDs K (μ.hide p) H ds xs) (hpx : p ∉ μ.x) : Rel K (μ.push p) (S ++ [.lst ds]) H := by
  have hn : p ∉ μ.v := fun z => r.apt p z List.mem_cons_self
  refine ⟨by simp [Mu.push, r.show.len], ?_, fun i a m h1 h2 => ?_, fun a ha => r.hid a (List.mem_cons_of_mem _ ha), fun a ha hx => ?_⟩
  · show (μ.v ++ [p]).Nodup
    rw [List.nodup_append]
    exact ⟨r.show.nd, by simp, fun x hx y hy => by rw [List.mem_singleton.mp hy]; exact fun e => hn (e ▸ hx)⟩
  · have hl : S.length = μ.v.length := r.show.len.symm
    by_cases hi : i < S.length
    · rw [List.getElem?_append_left hi] at h2
      have h1' : (μ.v ++ [p])[i]? = some a := h1
      rw [List.getElem?_append_left (by omega)] at h1'
      exact (r.obj i a m h1' h2).map rfl RD.reveal RDs.reveal
    · have h2' := h2
      rw [List.getElem?_append_right (by omega)] at h2'
      have hi0 : i = S.length := by
        have := (List.getElem?_eq_some_iff.mp h2).1
        simp at this; omega
      subst hi0
      simp at h2'
      subst h2'
      have h1' : (μ.v ++ [p])[S.length]? = some a := h1
      rw [hl, List.getElem?_append_right (Nat.le_refl _)] at h1'
      simp at h1'
      subst h1'
      exact ⟨xs, hp, RDs.reveal _ _ hd⟩
  · rcases List.mem_append.mp ha with z | z
    · exact r.show.apt a z hx
    · exact hpx (by rw [← List.mem_singleton.mp z]; exact hx)
noncomputable def eCompM (it : EvI) (tgt : D → Rho → Option Rho) (test : EvB) (el : EvD) (vs : List Nat) : EvD := fun ρ => bnd (it ρ) fun p => noEx (fun S => if p.2.length ≤ sizeLine then
  (match compM p.1 p.2 tgt test el (wipeR ρ vs) p.2 S with
    | .ok ys S' => .ok (.ref S'.length) (S' ++ [.lst ys])
    | .ex e S' => .ex e S'
    | .bad => .bad) else .bad)
end
section
variable {X : Cx} {W : WX} {tg : Expr}
theorem comp_okM {it : EvI} {tgt : D → Rho → Option Rho} {g : TG} {test : EvB} {el : EvD} {is vs : List Nat} (hG : GRD X is tgt g) (his : ∀ i ∈ is, i ∈ vs) {σ : L2.St} {H : Hp} {Q : VK}
    (hh : tD X.K X.mg W (eCompM it tgt test el vs) σ H Q) : tLc (tI X.K X.mg W it) g (tT X.K X.mg W0 test) (tD X.K X.mg W0 el) vs σ H Q := by
  obtain ⟨ρ, S, μ, e, s, h⟩ := hh
  refine ⟨ρ, S, μ, e, s, h.bnd fun p S1 μ1 H1 s1 r1 h1 J G io gg D hD => ?_⟩
  obtain ⟨src, all⟩ := p
  simp only [] at io h1
  -- what the denotation says
  obtain ⟨hlen, fin⟩ : all.length ≤ sizeLine ∧ okR (compM src all tgt test el (wipeR ρ vs) all S1) (fun ys S' => ∀ μ' H', Stp μ1 H1 μ' H' → Rel X.K μ' (S' ++ [.lst ys]) H' → QD X.K Q (.ref S'.length) μ' H') := by
    unfold noEx at h1
    simp only [] at h1
    by_cases hl : all.length ≤ sizeLine
    · refine ⟨hl, ?_⟩
      rw [if_pos hl] at h1
      cases ec : compM src all tgt test el (wipeR ρ vs) all S1 with
      | ok ys S' => rw [ec] at h1; exact h1
      | ex e S' => rw [ec] at h1; exact h1
      | bad => rw [ec] at h1; exact h1
    · rw [if_neg hl] at h1; exact h1.elim
  have hDx : D ∉ μ1.x := fun z => r1.hid D z hD
  let Inv (i : Nat) (Hc : Hp) : Prop := ∃ Sc μc acc as, i ≤ all.length ∧ Stp μ1 H1 μc Hc ∧ Rel X.K (μc.hide D) Sc Hc ∧ RE X.K (μc.hide D) Hc (L2.wipe σ vs) (wipeR ρ vs) ∧ G (μc.hide D) Hc ∧ Hc D = some (.lst acc) ∧ RDs X.K (μc.hide D) Hc as acc ∧ as.length ≤ i ∧
    okR (compM src all tgt test el (wipeR ρ vs) (all.drop i) Sc) (fun ys S' => ∀ μ' H', Stp μ1 H1 μ' H' → Rel X.K μ' (S' ++ [.lst (as ++ ys)]) H' → QD X.K Q (.ref S'.length) μ' H')
  refine ⟨fun i m Hc => m = all.length - i ∧ Inv i Hc, ⟨all.length, by simp, ?_⟩, ?_⟩
  · refine ⟨S1, μ1, [], [], Nat.zero_le _, Stp.new hD, r1.hide hD, ((e.step s s1).wipe vs).mapR (RD.hide hD), io.hide _ _ _ _ gg hD, upd_same, .nil, Nat.le_refl _, ?_⟩
    simpa using fin
  · rintro i m Hc ⟨rfl, Sc, μc, acc, as, hi2, st, rel, re, hG2, hacc, rds, hal, done⟩
    by_cases hlt : i < all.length
    · right
      have hdrop : all.drop i = all[i] :: all.drop (i + 1) := List.drop_eq_getElem_cons hlt
      rw [hdrop] at done
      unfold compM at done
      by_cases hlive : liveOk src all Sc
      · rw [if_pos hlive] at done
        split at done
        · rename_i ρ1 hρ1
          refine ⟨io.go i _ Sc Hc hlt rel hlive hG2, fun H' => Inv (i + 1) H', fun H' q => ⟨all.length - (i + 1), by omega, rfl, q⟩, fun x H' y => ?_⟩
          obtain ⟨sy, ry, d, hd, rd⟩ := io.yld i x _ Sc Hc H' hlt rel hlive hG2 y
          rw [List.getElem?_eq_getElem hlt] at hd
          cases hd
          obtain ⟨μy, ey, sty⟩ := sy.show
          have eμ : μy = μc := by
            obtain ⟨v1, x1⟩ := μy
            obtain ⟨v2, x2⟩ := μc
            simp only [Mu.hide, Mu.mk.injEq, List.cons.injEq, true_and] at ey
            obtain ⟨rfl, rfl⟩ := ey
            rfl
          subst eμ
          have notv : ∀ (μ : Mu) (Sx : Sto) (Hx : Hp), Rel X.K (μ.hide D) Sx Hx → D ∉ (μ.hide D).v := fun μ Sx Hx r z => r.apt D z List.mem_cons_self
          have haccy : H' D = some (.lst acc) := sy.keep D _ hacc (notv _ _ _ rel)
          refine hG _ _ _ ρ1 _ _ Sc H' _ (re.step rel sy) ry rd hρ1 fun σ2 re2 hw => ⟨(hw vs his).trans (wipe_twice σ vs), ρ1, Sc, _, re2, ry, ?_⟩
          have done2 := okR_bnd done
          refine okR_post done2 fun b S2 μ2 H3 db s3 r3 => ?_
          obtain ⟨μ2', rfl, st3⟩ := s3.show
          have haccb : H3 D = some (.lst acc) := s3.keep D _ haccy (notv _ _ _ ry)
          have rds3 := (rds.step rel sy).step ry s3
          have re3 := (re.step rel sy).step ry s3
          have g3 := io.step _ _ _ _ _ (io.step _ _ _ _ _ hG2 rel sy) ry s3
          have stt := (st.trans sty).trans st3
          cases b with
          | false =>
            rw [if_neg Bool.false_ne_true] at db ⊢
            exact ⟨S2, μ2', acc, as, hlt, stt, r3, re3, g3, haccb, rds3, Nat.le_succ_of_le hal, db⟩
          | true =>
            rw [if_pos rfl] at db ⊢
            refine ⟨ρ1, S2, _, re2.step ry s3, r3, ?_⟩
            refine okR_post (okR_bnd db) fun yv S4 μ4 H4 d4 s4 r4 v rv => ?_
            obtain ⟨μ4', rfl, st4⟩ := s4.show
            have hacc4 : H4 D = some (.lst acc) := s4.keep D _ haccb (notv _ _ _ r3)
            have rds4 := rds3.step r3 s4
            refine ⟨acc, hacc4, by rw [← rds4.length]; omega, S4, μ4', acc ++ [v], as ++ [yv], hlt, (stt.trans st4).side hD, r4.seen hacc4, (re3.step r3 s4).mapR (RD.seen hacc4), io.seen _ _ _ _ _ (io.step _ _ _ _ _ g3 r3 s4) hacc4, upd_same,
              RDs.seen hacc4 _ _ (rds4.append (.cons rv .nil)), by simp; omega, ?_⟩
            have d5 := okR_bnd d4
            unfold okR at d5 ⊢
            split
            · rename_i ys S' hys
              rw [hys] at d5
              intro μ' H5 sx rx
              have := d5 μ' H5 sx (by simpa using rx)
              simpa using this
            · rename_i hno
              split at d5
              · rename_i a S' hh; exact absurd hh (hno a S')
              · exact d5
        · exact done.elim
      · rw [if_neg hlive] at done; exact done.elim
    · left
      have hi3 : i = all.length := by omega
      subst hi3
      rw [List.drop_length] at done
      unfold compM at done
      by_cases hlive : liveOk src all Sc
      · rw [if_pos hlive] at done
        refine ⟨io.stop _ Sc Hc rel hlive hG2, ?_⟩
        have z := done (μc.push D) Hc (st.push hD) (by simpa using rel.reveal hacc rds (by rw [st.x]; exact hDx))
        exact z _ (new_ref rel.show)
      · rw [if_neg hlive] at done; exact done.elim
theorem d_compM {elt iter : Expr} {ifs : List Expr} {scope : Scope} {own : List (Str × Nat)} {vs : List Nat} {pos : Pos} {it : EvI} {tgt : D → Rho → Option Rho} {g : TG} {test : EvB} {el : EvD} {is : List Nat} (hc : X.calm = true) (hN : X.N.Nodup)
    (hi : PI X tg iter (tI X.K X.mg W it)) (ok : BlkOk X.N X.env.scope scope own) (hv : own.map (·.2) = vs) (hG : GRD X is tgt g) (his : ∀ i ∈ is, i ∈ vs)
    (hg : ∀ (s : Shared) (H : Hp) (C : Addr) (cl : List (Str × Addr)) (fp : List Addr), PG (X.blk s H scope (compEnvC scope cl C X.env) fp) tg g)
    (ht : ∀ (s : Shared) (H : Hp) (C : Addr) (cl : List (Str × Addr)) (fp : List Addr), PTs (X.blk s H scope (compEnvC scope cl C X.env) fp) ifs (tT X.K X.mg W0 test))
    (he : ∀ (s : Shared) (H : Hp) (C : Addr) (cl : List (Str × Addr)) (fp : List Addr), PE (X.blk s H scope (compEnvC scope cl C X.env) fp) elt (tD X.K X.mg W0 el)) (hs : ∀ x, foldedSetIterable iter X.env x = pure x := by intro _; rfl) :
    PE X (.ListComp elt [⟨tg, iter, ifs, 0⟩] scope pos) (tD X.K X.mg W (eCompM it tgt test el vs)) := by
  subst hv
  exact PE.imp (pe_lc hc hN hi ok hg ht he hs) fun σ H Q h => comp_okM hG his h
theorem s_setLcM (i : Nat) {y : Str} {py : Pos} {tg elt iter : Expr} {ifs : List Expr} {scope : Scope} {own : List (Str × Nat)} {vs : List Nat} {pos spos : Pos} {it : EvI} {tgt : D → Rho → Option Rho} {g : TG} {test : EvB} {el : EvD} {is : List Nat} (hc : X.calm = true) (hN : X.N.Nodup)
    (hi : PI X tg iter (tI X.K X.mg W it)) (ok : BlkOk X.N X.env.scope scope own) (hv : own.map (·.2) = vs) (hG : GRD X is tgt g) (his : ∀ i ∈ is, i ∈ vs)
    (hg : ∀ (s : Shared) (H : Hp) (C : Addr) (cl : List (Str × Addr)) (fp : List Addr), PG (X.blk s H scope (compEnvC scope cl C X.env) fp) tg g)
    (ht : ∀ (s : Shared) (H : Hp) (C : Addr) (cl : List (Str × Addr)) (fp : List Addr), PTs (X.blk s H scope (compEnvC scope cl C X.env) fp) ifs (tT X.K X.mg W0 test))
    (he : ∀ (s : Shared) (H : Hp) (C : Addr) (cl : List (Str × Addr)) (fp : List Addr), PE (X.blk s H scope (compEnvC scope cl C X.env) fp) elt (tD X.K X.mg W0 el))
    (hy : X.N[i]? = some y := by rfl) (hyl : X.env.scope.names.lookup y = some .local := by rfl) (hsw : swapsWith (.ListComp elt [⟨tg, iter, ifs, 0⟩] scope pos) (some (.Name y py)) spos.line X.env = pure true := by exact sw_true rfl rfl rfl (by decide +kernel))
    (hs : ∀ x, foldedSetIterable iter X.env x = pure x := by intro _; rfl) :
    PS X (.Assign [.Name y py] (.ListComp elt [⟨tg, iter, ifs, 0⟩] scope pos) spos) (tS X.K X.mg W (sAsg (gN i) (eCompM it tgt test el vs))) := by
  subst hv
  refine PS.imp (ps_setLc hc hN hy hyl hsw hi ok hg ht he hs) fun E σ H ⟨ρ, S, μ, e, s, h⟩ => ?_
  refine comp_okM hG his ⟨ρ, S, μ, e, s, h.lft e s fun d S1 μ1 H1 s1 r1 e1 h1 v rv => ?_⟩
  exact h1.now r1 _ (e1.set rv i)
end
end DL

/-! DLW: more words for the weakest precondition -/
namespace DL
open PySem L2
section
variable {S : Sto} {F : D → Sto → Prop} {E : Exc → Sto → Prop}
theorem gIx_sign {z : Str} {j : Int} : wp (gIx (.str z) (.int j) S) F E ↔ z.length ≤ sizeLine ∧ ∃ c, atI z.cps.toList j = some c ∧ F (.str ⟨#[c]⟩) S := by
  unfold gIx
  by_cases h : z.length ≤ sizeLine
  · simp only [if_pos h]
    cases e : atI z.cps.toList j with
    | some c => exact ⟨fun q => ⟨h, c, rfl, q⟩, fun ⟨_, c', e, q⟩ => by cases e; exact q⟩
    | none => exact ⟨fun q => q.elim, fun ⟨_, c', e, q⟩ => by cases e⟩
  · simp only [if_neg h]
    exact ⟨fun q => q.elim, fun q => h q.1⟩
theorem rangeD_len {lo : Int} {m : Nat} : (rangeD lo m).length = m := by simp [rangeD]
theorem gTuple_seq {x : D} {ds : List D} (h : iLst S x = some ds) : wp (gTuple [x] S) F E ↔ F (.tup ds) S := by
  unfold gTuple
  simp only [h]
  exact Iff.rfl
theorem atI_last {ds : List D} {x : D} : atI (ds ++ [x]) (-1) = some x := by
  have e : ixN (ds ++ [x]).length (-1) = some ds.length := by
    unfold ixN
    rw [if_neg (by decide), if_pos (by simp; omega)]
    congr 1; simp; omega
  unfold atI; rw [e]; simp
theorem trs {ds : List D} (h : ∀ d ∈ ds, tr d) : D.los 0 ds = true := los_iff ds |>.mpr h
theorem tr_tup {ds : List D} (h : ∀ d ∈ ds, tr d) : tr (.tup ds) := trs h
theorem comp1 {all ds : List D} {d : D} {i : Nat} {el : EvD} {ρ : Rho} {FF : List D → Sto → Prop} : wp (compM none all (gN i) bYes el ρ (d :: ds) S) FF nx ↔ wp (el (ρ.set i (some d)) S) (fun y S1 => wp (compM none all (gN i) bYes el ρ ds S1) (fun ys S2 => FF (y :: ys) S2) nx) nx := by
  have e : compM none all (gN i) bYes el ρ (d :: ds) S = bnd (bYes (ρ.set i (some d))) (fun b => if b = true then bnd (el (ρ.set i (some d))) (fun y => bnd (compM none all (gN i) bYes el ρ ds) fun ys => ret (y :: ys)) else compM none all (gN i) bYes el ρ ds) S := by
    conv => lhs; unfold compM
    rw [if_pos (show liveOk none all S from trivial)]; rfl
  rw [e]
  simp only [wp_ok, wp_ret, wp_stuck, wp_bad, wp_bnd, wp_if, wp_fif, wps_ok_nx, wps_ok_rt, wps_ok_bk, wps_ok_ct, wps_ok_xc, wps_bad, wps_lft, wps_seq, wps_nil, wps_ret, wps_expr, wps_asg, wps_if, wp_run, wps_for, wps_while, wp_comp, wp_var, wp_C, wp_bin, wp_un, wp_T, wp_Tb, wp_asBl, wp_truthBl, wp_bAnd, wp_bOr, wp_bNot, wp_eIf, wp_eAnd, wp_eOr, wp_eNot, blCase_bl, wp_chain, wp_aNil, wp_aCons, wp_tup, wp_lst, wp_lstM, wp_call, wp_cl1, wp_cl2, wp_cl3, wp_cl4, wp_cl5, wp_meth, wp_isi, wp_oNone, wp_oSome, wp_sl, wp_it, wp_range1, wp_range2, wp_bYes, gEq_str, gNe_str, gEq_int, gNe_int, gEq_bl, gNe_bl, gIs_bl, gIsNot_bl, gAdd_int, gSub_int, gC_int, gI_int, gAdd_str, gAdd_tup, gAdd_lst, gNeg_int, gIx_tup, gIx_lst, gLen_tup, gLen_lst, gLen_str, gInt_int, gInt_bl, gTuple_lst, gTuple_tup, gList_lst, gList_tup, gSl_tup, gSl_lst, gSl_fl, gSl_str, srcL_tup, srcL_lst, srcL_fl, srcL_str, srcR1_int, typN, startR, List.map_cons, List.map_nil, List.length_cons, List.length_nil, Nat.reduceAdd, Nat.reduceSub, Nat.zero_add, Nat.sub_self, Nat.sub_zero, List.replicate_zero, List.replicate_succ, List.cons_append, List.nil_append, List.append_nil, List.getElem?_cons_zero, List.getElem?_cons_succ, List.set_cons_zero, List.set_cons_succ, List.set_nil, List.getElem?_nil, Option.some.injEq, exists_eq_left', exists_eq_left, exists_eq_right, reduceCtorEq, false_and, and_false, true_and, and_true, exists_false, exists_const, wipeR, Nat.zero_le, String.reduceEq, D.int.injEq, D.str.injEq, D.bl.injEq, atI_0, atI_1, atI_2, atI_3, atI_4, beq_self_eq_true, not_true_eq_false, not_false_eq_true, Int.cast_ofNat_Int, Int.reduceEq, Int.reduceLE, Int.reduceLT, Int.reduceAdd, Int.reduceSub, Int.reduceMul, Int.reduceNeg, if_true, if_false, ite_true, ite_false, Bool.false_eq_true, if_neg, if_pos, decide_eq_true_eq, Bool.not_eq_true', decide_eq_false_iff_not, eq_self_iff_true, decide_true, decide_false, Bool.not_true, Bool.not_false]
theorem comp0 {all : List D} {i : Nat} {el : EvD} {ρ : Rho} {FF : List D → Sto → Prop} : wp (compM none all (gN i) bYes el ρ [] S) FF nx ↔ FF [] S := by
  have e : compM none all (gN i) bYes el ρ [] S = .ok [] S := by
    unfold compM
    rw [if_pos (show liveOk none all S from trivial)]
  rw [e]; exact Iff.rfl
theorem comp2 {a b : D} {i : Nat} {el : EvD} {ρ : Rho} {FF : List D → Sto → Prop} : wp (compM none [a, b] (gN i) bYes el ρ [a, b] S) FF nx ↔ wp (el (ρ.set i (some a)) S) (fun y S1 => wp (el (ρ.set i (some b)) S1) (fun z S2 => FF [y, z] S2) nx) nx := by
  rw [comp1]
  simp only [comp1, comp0]
theorem los_app {m : Nat} (a b : List D) : D.los m (a ++ b) = (D.los m a && D.los m b) := by
  induction a with
  | nil => simp [D.los]
  | cons x a ih => simp [D.los, ih, Bool.and_assoc]
theorem sl {n : Nat} (h : n ≤ 100) : n ≤ sizeLine := small_line (by omega)
theorem gNs_cons {i : Nat} {t : TgL} {d : D} {ds : List D} {ρ : Rho} : gNs i t (d :: ds) ρ = t ds (ρ.set i (some d)) := rfl
theorem gN0_nil {ρ : Rho} : gN0 [] ρ = some ρ := rfl
theorem gTp_tup {m : Nat} {t : TgL} {ds : List D} {ρ : Rho} (h : ds.length = m) : gTp m t (.tup ds) ρ = t ds ρ := by unfold gTp; simp only [h, if_true]
theorem wps_asgT {tgt : D → Rho → Option Rho} {e : EvD} {ρ : Rho} {N B C : Rho → Sto → Prop} {T : D → Sto → Prop} {X : Exc → Rho → Sto → Prop} : wps (sAsg tgt e ρ S) N T B C X ↔ wp (e ρ S) (fun d S' => ∃ ρ', tgt d ρ = some ρ' ∧ N ρ' S') (fun e S' => X e ρ S') := by
  unfold sAsg; rw [wps_lft]
  constructor <;> intro h <;> refine wp_mono h (fun d S' h => ?_) (fun _ _ h => h)
  · cases e : tgt d ρ with
    | some ρ' => simp only [e] at h; exact ⟨ρ', rfl, h⟩
    | none => simp only [e] at h; exact h.elim
  · obtain ⟨ρ', e, h⟩ := h
    simp only [e]; exact h
theorem wps_asgTp {m : Nat} {t : TgL} {e : EvD} {ρ : Rho} {N B C : Rho → Sto → Prop} {T : D → Sto → Prop} {X : Exc → Rho → Sto → Prop} : wps (sAsg (gTp m t) e ρ S) N T B C X ↔ wp (e ρ S) (fun d S' => ∃ ρ', gTp m t d ρ = some ρ' ∧ N ρ' S') (fun e S' => X e ρ S') := wps_asgT
theorem gTp5 {t : TgL} {a b c d e : D} {ρ : Rho} : gTp 5 t (.tup [a, b, c, d, e]) ρ = t [a, b, c, d, e] ρ := rfl
theorem gTp3 {t : TgL} {a b c : D} {ρ : Rho} : gTp 3 t (.tup [a, b, c]) ρ = t [a, b, c] ρ := rfl
/-- one of a list, whichever -/
theorem pick {L : List D} {v : Int} (h0 : 0 ≤ v) (h1 : v < (L.length : Int)) (P : D → Prop) (hP : ∀ r ∈ L, P r) (hF : ∀ r, P r → F r S) : wp (gIx (.lst L) (.int v) S) F E := by
  rw [gIx_lst]
  obtain ⟨d, hd, e⟩ := atI_mem h0 h1
  exact ⟨d, e, hF d (hP d hd)⟩
def Sh (m : Nat) (d : D) : Prop := ∃ p, toPy d = some p ∧ p.canLay0 = true ∧ p.depth ≤ m
theorem Sh.mono {m m' : Nat} {d : D} (h : Sh m d) (l : m ≤ m') : Sh m' d := by obtain ⟨p, a, b, c⟩ := h; exact ⟨p, a, b, by omega⟩
theorem sh_int {i : Int} {m : Nat} : Sh m (.int i) := ⟨_, rfl, rfl, Nat.zero_le _⟩
theorem sh_str {z : Str} {m : Nat} (h : PyData.strOk z = true) : Sh m (.str z) := ⟨_, rfl, h, Nat.zero_le _⟩
theorem sh_list {m : Nat} : ∀ {ds : List D}, (∀ d ∈ ds, Sh m d) → ∃ ps, toPys ds = some ps ∧ PyData.canLayAll0 ps = true ∧ PyData.depthAll ps ≤ m
  | [], _ => ⟨[], rfl, rfl, Nat.zero_le _⟩
  | d :: ds, h => by
    obtain ⟨p, a, b, c⟩ := h d List.mem_cons_self
    obtain ⟨ps, a', b', c'⟩ := sh_list (m := m) (ds := ds) fun d hd => h d (List.mem_cons_of_mem _ hd)
    refine ⟨p :: ps, by simp only [toPys, a, a'], by simp only [PyData.canLayAll0, b, b', Bool.and_self], ?_⟩
    simp only [PyData.depthAll]
    omega
theorem sh_tup {m : Nat} {ds : List D} (h : ∀ d ∈ ds, Sh m d) : Sh (m + 1) (.tup ds) := by
  obtain ⟨ps, a, b, c⟩ := sh_list h
  exact ⟨.tuple ps, by simp only [toPy, a, Option.map_some], by simp only [PyData.canLay0, b], by simp only [PyData.depth]; omega⟩
theorem gNe_nil {m : Nat} {ds : List D} (h : Sh m (.tup ds)) (hm : m ≤ 64) : wp (gNe (.tup ds) (.tup []) S) F E ↔ F (.bl (!decide (ds = []))) S := by
  have e : eqD S (.tup ds) (.tup []) = some (decide (ds = [])) := by
    obtain ⟨p, a, b, c⟩ := h
    have e1 : toPyS S (.tup ds) = some p := a
    have e2 : toPyS S (.tup []) = some (.tuple []) := rfl
    have s1 : SeqAt.shaped p = true := by
      unfold SeqAt.shaped
      rw [b, decide_eq_true (by omega)]; rfl
    have s2 : SeqAt.shaped (.tuple []) = true := by decide
    unfold eqD
    simp only [e1, e2, s1, s2, Bool.and_self, if_true]
    simp only [toPy, Option.map_eq_some_iff] at a
    obtain ⟨ps, a, rfl⟩ := a
    cases ds with
    | nil => cases a; rfl
    | cons x l =>
      cases ps with
      | nil =>
        exfalso
        unfold toPys at a
        split at a <;> simp_all
      | cons q qs => simp [PyData.eqv, PyData.eqvAll]
  unfold gNe
  rw [e]; exact Iff.rfl
theorem cut_take {ds : List D} {a : Nat} (h : a ≤ ds.length) : cutD ds none (some ((a : Nat) : Int)) = ds.take a := by
  unfold cutD
  rw [HT.sIx_nat, HT.sIx_none, Nat.min_eq_left h]; simp
theorem cut_drop {ds : List D} {a : Nat} (h : a ≤ ds.length) : cutD ds (some ((a : Nat) : Int)) none = ds.drop a := by
  unfold cutD
  rw [HT.sIx_nat, HT.sIx_none, Nat.min_eq_left h, List.take_of_length_le]; simp
theorem cut_zero {ds : List D} : cutD ds none (some 0) = [] := by
  rw [show (0 : Int) = ((0 : Nat) : Int) from rfl, cut_take (Nat.zero_le _)]; rfl
end
end DL

/-! DLS: stores with a deck: a list of cells at 0, the deck [cells, whole, count] at 1 -/
namespace DL
open PySem L2
section
variable {S R S1 : Sto} {F : D → Sto → Prop} {E : Exc → Sto → Prop}
/-- every stored thing names stored things alone -/
def OKS (S : Sto) : Prop := S.all (MO.lo S.length) = true
theorem OKS.take (h : OKS S) : (S.take S.length).all (MO.lo S.length) = true := by rw [List.take_length]; exact h
theorem WF.oks (h : WF S) : OKS S := by
  have := h.take S.length S.length
  rwa [List.take_length] at this
theorem fin_blO {b : Bool} (hw : OKS S) : wp (finD false S.length (.bl b) S) F E ↔ F (.bl b) S := by
  have e : finD false S.length (.bl b) S = .ok (.bl b) S := by
    unfold finD
    rw [if_neg (by decide), if_pos hw.take, if_pos (show (D.bl b).lo S.length = true from rfl), List.take_length]
  rw [e]; exact Iff.rfl
theorem fin_intO {b : Int} (hw : OKS S) : wp (finD false S.length (.int b) S) F E ↔ F (.int b) S := by
  have e : finD false S.length (.int b) S = .ok (.int b) S := by
    unfold finD
    rw [if_neg (by decide), if_pos hw.take, if_pos (show (D.int b).lo S.length = true from rfl), List.take_length]
  rw [e]; exact Iff.rfl
theorem tr.lo {d : D} (h : tr d) (n : Nat) : d.lo n = true := D.lo_mono (Nat.zero_le n) d h
theorem fin_trO {d : D} (hw : OKS S) (hd : tr d) : wp (finD false S.length d S) F E ↔ F d S := by
  have e : finD false S.length d S = .ok d S := by
    unfold finD
    rw [if_neg (by decide), if_pos hw.take, if_pos (hd.lo _), List.take_length]
  rw [e]; exact Iff.rfl
def Gd (R : Sto) : Prop := 2 ≤ R.length ∧ ∀ (i : Nat) (m : MO), 2 ≤ i → R[i]? = some m → m.lo 0 = true
structure DS (R S : Sto) : Prop where
  gd : Gd R
  at_ : ∃ (cells : List Int) (a b : Int), cells.length ≤ 100000 ∧ S = (R.set 0 (.lst (cells.map .int))).set 1 (.lst [.ref 0, .int a, .int b])
theorem DS.len (h : DS R S) : S.length = R.length := by
  obtain ⟨g, cells, a, b, hc, rfl⟩ := h
  simp
theorem DS.two (h : DS R S) : 2 ≤ S.length := by rw [h.len]; exact h.gd.1
theorem DS.get (h : DS R S) {i : Nat} (hi : 2 ≤ i) : S[i]? = R[i]? := by
  obtain ⟨g, cells, a, b, hc, rfl⟩ := h
  rw [List.getElem?_set_ne (by omega), List.getElem?_set_ne (by omega)]
theorem DS.lo (h : DS R S) {n : Nat} (hn : 2 ≤ n) : (S.take n).all (MO.lo n) = true := by
  rw [List.all_eq_true]
  intro m hm
  have hm := List.mem_of_mem_take hm
  obtain ⟨i, hi⟩ := List.mem_iff_getElem?.mp hm
  by_cases h2 : 2 ≤ i
  · rw [h.get h2] at hi
    exact MO.lo_mono (Nat.zero_le n) m (h.gd.2 i m h2 hi)
  · obtain ⟨g, cells, a, b, hc, rfl⟩ := h
    have g1 := g.1
    by_cases h0 : i = 0
    · subst h0
      rw [List.getElem?_set_ne (by omega), List.getElem?_set_self (by omega)] at hi
      cases hi
      have : D.los 0 (cells.map D.int) = true := los_map (fun _ => rfl) cells
      exact MO.lo_mono (Nat.zero_le n) (.lst (cells.map .int)) this
    · obtain rfl : i = 1 := by omega
      rw [List.getElem?_set_self (by simp; omega)] at hi
      cases hi
      simp [MO.lo, D.los, D.lo]; omega
theorem DS.oks (h : DS R S) : OKS S := by
  have := h.lo (n := S.length) h.two
  rwa [List.take_length] at this
theorem DS.fin {d : D} (h : DS R S) (h2 : 2 ≤ S1.length) (hd : tr d) (hF : F d (S.take S1.length)) : wp (finD false S1.length d S) F E :=
  wp_fin (h.lo h2) (hd.lo _) hF
theorem DS.fin_same {d : D} (h : DS R S) (hl : S.length = S1.length) (hd : tr d) (hF : F d S) : wp (finD false S1.length d S) F E := by
  refine h.fin (by rw [← hl]; exact h.two) hd ?_
  rw [← hl, List.take_length]; exact hF
theorem DS.cells (h : DS R S) : ∃ (cells : List Int) (a b : Int), cells.length ≤ 100000 ∧ atL S 0 = some (cells.map .int) ∧ atL S 1 = some [.ref 0, .int a, .int b] ∧
    (∀ cs : List Int, cs.length ≤ 100000 → DS R (S.set 0 (.lst (cs.map .int)))) ∧ (∀ a' b' : Int, DS R (S.set 1 (.lst [.ref 0, .int a', .int b']))) := by
  obtain ⟨g, cells, a, b, hc, rfl⟩ := h
  have g1 := g.1
  refine ⟨cells, a, b, hc, ?_, ?_, fun cs hcs => ⟨g, cs, a, b, hcs, ?_⟩, fun a' b' => ⟨g, cells, a', b', hc, ?_⟩⟩
  · unfold atL
    rw [List.getElem?_set_ne (by omega), List.getElem?_set_self (by omega)]
  · unfold atL
    rw [List.getElem?_set_self (by simp; omega)]
  · rw [List.set_comm _ _ (by omega), List.set_set]
  · rw [List.set_set]
theorem Gd.push {m : MO} (g : Gd R) (hm : m.lo 0 = true) : Gd (R ++ [m]) := by
  refine ⟨by simp; have := g.1; omega, fun i x hi hx => ?_⟩
  by_cases hl : i < R.length
  · rw [List.getElem?_append_left hl] at hx; exact g.2 i x hi hx
  · rw [List.getElem?_append_right (by omega)] at hx
    have hz : i - R.length = 0 := by
      have := (List.getElem?_eq_some_iff.mp hx).1
      simp at this; omega
    rw [hz] at hx; simp at hx; rw [← hx]; exact hm
theorem Gd.pop {m : MO} (g : Gd (R ++ [m])) (h2 : 2 ≤ R.length) : Gd R := by
  refine ⟨h2, fun i x hi hx => g.2 i x hi ?_⟩
  rw [List.getElem?_append_left (List.getElem?_eq_some_iff.mp hx).1]; exact hx
theorem Gd.set {m : MO} {k : Nat} (g : Gd R) (hm : m.lo 0 = true) : Gd (R.set k m) := by
  refine ⟨by simp; exact g.1, fun i x hi hx => ?_⟩
  by_cases hk : k = i
  · subst hk
    have hl := (List.getElem?_eq_some_iff.mp hx).1
    rw [List.getElem?_set_self (by simpa using hl)] at hx
    cases hx; exact hm
  · rw [List.getElem?_set_ne hk] at hx; exact g.2 i x hi hx
theorem DS.push {m : MO} (h : DS R S) (hm : m.lo 0 = true) : DS (R ++ [m]) (S ++ [m]) := by
  obtain ⟨g, cells, a, b, hc, rfl⟩ := h
  have g1 := g.1
  refine ⟨g.push hm, cells, a, b, hc, ?_⟩
  rw [List.set_append_left _ _ (by omega), List.set_append_left _ _ (by simp; omega)]
theorem DS.put {m : MO} {k : Nat} (h : DS R S) (hk : 2 ≤ k) (hm : m.lo 0 = true) : DS (R.set k m) (S.set k m) := by
  obtain ⟨g, cells, a, b, hc, rfl⟩ := h
  refine ⟨g.set hm, cells, a, b, hc, ?_⟩
  rw [List.set_comm _ _ (show k ≠ 0 by omega), List.set_comm _ _ (show (1 : Nat) ≠ k by omega)]
theorem DS.cut {G : Sto} (h : DS (R ++ G) S) (h2 : 2 ≤ R.length) : DS R (S.take R.length) := by
  obtain ⟨g, cells, a, b, hc, rfl⟩ := h
  refine ⟨⟨h2, fun i x hi hx => g.2 i x hi ?_⟩, cells, a, b, hc, ?_⟩
  · rw [List.getElem?_append_left (List.getElem?_eq_some_iff.mp hx).1]; exact hx
  · rw [List.set_append_left _ _ (by omega), List.set_append_left _ _ (by simp; omega), List.take_append_of_le_length (by simp), List.take_of_length_le (by simp)]
theorem DS.last {m : MO} {G : Sto} (h : DS (R ++ m :: G) S) (h2 : 2 ≤ R.length) : S[R.length]? = some m := by
  rw [h.get h2, List.getElem?_append_right (Nat.le_refl _)]; simp
theorem atL_of {n : Nat} {ds : List D} (h : S[n]? = some (.lst ds)) : atL S n = some ds := by unfold atL; rw [h]
theorem gSet_ref {n j : Nat} {ds : List D} {k : Int} {d : D} {FU : Unit → Sto → Prop} (h : atL S n = some ds) (hj : ixN ds.length k = some j) : wp (gSet (.ref n) (.int k) d S) FU E ↔ FU () (S.set n (.lst (ds.set j d))) := by
  unfold gSet
  simp only [h, hj]
  exact Iff.rfl
theorem wps_sub {ev eo ei : EvD} {ρ : Rho} {N B C : Rho → Sto → Prop} {T : D → Sto → Prop} {X : Exc → Rho → Sto → Prop} : wps (sSub ev eo ei ρ S) N T B C X ↔ wp (ev ρ S) (fun d S1 => wp (eo ρ S1) (fun o S2 => wp (ei ρ S2) (fun i S3 => wp (gSet o i d S3) (fun _ S4 => N ρ S4) (fun e S' => X e ρ S')) (fun e S' => X e ρ S')) (fun e S' => X e ρ S')) (fun e S' => X e ρ S') := by
  unfold sSub
  simp only [wps_lft]
  exact Iff.rfl
theorem gIx_ref {n : Nat} {ds : List D} {k : Int} (h : atL S n = some ds) : wp (gIx (.ref n) (.int k) S) F E ↔ ∃ d, atI ds k = some d ∧ F d S := gIx_seq h
/-- a comprehension that draws, by any standing property of the store -/
theorem comp_inv {all : List D} {i : Nat} {el : EvD} {ρ : Rho} {FF : List D → Sto → Prop} (J : Sto → Prop) (P : D → Prop) (h0 : J S)
    (hel : ∀ d ∈ all, ∀ S', J S' → wp (el (ρ.set i (some d)) S') (fun y S'' => P y ∧ J S'') nx) (h : ∀ ys S', ys.length = all.length → (∀ y ∈ ys, P y) → J S' → FF ys S') :
    wp (compM none all (gN i) bYes el ρ all S) FF nx := by
  refine wp_compM (fun k' ys S' => k' ≤ all.length → (ys.length = k' ∧ (∀ y ∈ ys, P y) ∧ J S')) (fun _ _ _ _ => trivial) (fun k' d ys S' hd hk => ?_) (fun ys S' hk => ?_) (fun _ => ⟨rfl, fun _ h => (List.not_mem_nil h).elim, h0⟩)
  · have hlt := (List.getElem?_eq_some_iff.mp hd).1
    obtain ⟨q1, q2, q3⟩ := hk (by omega)
    refine ⟨_, rfl, ?_⟩
    rw [wp_bYes, if_pos rfl]
    refine wp_mono (hel d (List.mem_of_getElem? hd) S' q3) (fun y S'' hy => ?_) (fun _ _ h => h)
    refine fun _ => ⟨by simp [q1], fun z hz => ?_, hy.2⟩
    rw [List.mem_append, List.mem_singleton] at hz
    rcases hz with hz | rfl
    · exact q2 z hz
    · exact hy.1
  · obtain ⟨q1, q2, q3⟩ := hk (Nat.le_refl _)
    exact h ys S' q1 q2 q3
end
end DL

/-! DLX: words for lists to be changed -/
namespace DL
open PySem L2
section
variable {S : Sto} {F : D → Sto → Prop} {E : Exc → Sto → Prop} {ρ : Rho}
theorem wp_compMut {it : EvI} {tgt : D → Rho → Option Rho} {test : EvB} {el : EvD} {vs : List Nat} : wp (eCompM it tgt test el vs ρ S) F E ↔
    wp (it ρ S) (fun p S' => p.2.length ≤ sizeLine ∧ wp (compM p.1 p.2 tgt test el (wipeR ρ vs) p.2 S') (fun ys S'' => F (.ref S''.length) (S'' ++ [.lst ys])) nx) E := by
  unfold eCompM
  rw [wp_bnd]
  constructor <;> intro h <;> refine wp_mono h (fun p S' h => ?_) (fun _ _ h => h)
  · unfold noEx at h
    by_cases hl : p.2.length ≤ sizeLine
    · refine ⟨hl, ?_⟩
      simp only [if_pos hl] at h
      cases hc : compM p.1 p.2 tgt test el (wipeR ρ vs) p.2 S' with
      | ok ys S'' => rw [hc] at h; exact h
      | ex e S'' => rw [hc] at h; exact h.elim
      | bad => rw [hc] at h; exact h.elim
    · simp only [if_neg hl] at h; exact h.elim
  · obtain ⟨hl, h⟩ := h
    unfold noEx
    simp only [if_pos hl]
    cases hc : compM p.1 p.2 tgt test el (wipeR ρ vs) p.2 S' with
    | ok ys S'' => rw [hc] at h; exact h
    | ex e S'' => rw [hc] at h; exact h.elim
    | bad => rw [hc] at h; exact h.elim
theorem wp_rev {a : EvD} {FI : Option Nat × List D → Sto → Prop} : wp (iRev a ρ S) FI E ↔ wp (a ρ S) (fun x S1 => wp (srcV x S1) FI E) E := wp_bnd
theorem srcV_tup {ds : List D} {FI : Option Nat × List D → Sto → Prop} : wp (srcV (.tup ds) S) FI E ↔ FI (none, ds.reverse) S := Iff.rfl
theorem eqv_nil {m : Nat} {n : Nat} {ds : List D} (h : atL S n = some ds) (hs : ∀ d ∈ ds, Sh m d) (hm : m ≤ 63) : eqD S (.ref n) (.lst []) = some (decide (ds = [])) := by
  obtain ⟨ps, a, b, c⟩ := sh_list hs
  have e1 : toPyS S (.ref n) = some (.list ps) := by simp only [toPyS, h, a, Option.map_some]
  have e2 : toPyS S (.lst []) = some (.list []) := rfl
  have s1 : SeqAt.shaped (.list ps) = true := by
    unfold SeqAt.shaped
    simp only [PyData.canLay0, b, PyData.depth, Bool.true_and]
    exact decide_eq_true (by omega)
  have s2 : SeqAt.shaped (.list []) = true := by decide
  unfold eqD
  simp only [e1, e2, s1, s2, Bool.and_self, if_true]
  cases ds with
  | nil => cases a; rfl
  | cons x l =>
    cases ps with
    | nil =>
      exfalso
      unfold toPys at a
      split at a <;> simp_all
    | cons q qs => simp [PyData.eqv, PyData.eqvAll]
theorem gNe_refNil {m : Nat} {n : Nat} {ds : List D} (h : atL S n = some ds) (hs : ∀ d ∈ ds, Sh m d) (hm : m ≤ 63) : wp (gNe (.ref n) (.lst []) S) F E ↔ F (.bl (!decide (ds = []))) S := by
  unfold gNe
  rw [eqv_nil h hs hm]; exact Iff.rfl
theorem gAddM_seq {x y : D} {a b : List D} (ha : iTrk S x = some a) (hb : iTrk S y = some b) : wp (gAddM x y S) F E ↔ a.length + b.length ≤ sizeLine ∧ F (.ref S.length) (S ++ [.lst (a ++ b)]) := by
  unfold gAddM
  simp only [ha, hb]
  by_cases h : a.length + b.length ≤ sizeLine
  · rw [if_pos h]; exact ⟨fun q => ⟨h, q⟩, fun q => q.2⟩
  · rw [if_neg h]; exact ⟨fun q => q.elim, fun q => absurd q.1 h⟩
theorem gStr_int {i : Int} : wp (gStr [.int i] S) F E ↔ i.natAbs.log2 < 1920 ∧ F (.str (toString i)) S := by
  unfold gStr
  by_cases h : i.natAbs.log2 < 1920
  · simp only [if_pos h]; exact ⟨fun q => ⟨h, q⟩, fun q => q.2⟩
  · simp only [if_neg h]; exact ⟨fun q => q.elim, fun q => absurd q.1 h⟩
end
end DL

namespace K69
open PySem L2 PyProof.Rows DL
abbrev i_row_told : Nat := 0
abbrev i_thing_in_place : Nat := 1
abbrev i_words_in_place : Nat := 2
abbrev i_in_place : Nat := 3
abbrev i_stack_in_place : Nat := 4
abbrev i_is_shuffle : Nat := 5
abbrev i_is_number : Nat := 6
abbrev i_is_name : Nat := 7
abbrev i_is_thing : Nat := 8
abbrev i_is_word : Nat := 9
abbrev i_is_row : Nat := 10
abbrev i_is_stack : Nat := 11
abbrev i_l_mixed : Nat := 12
abbrev i_l_deck : Nat := 13
abbrev i_l_take : Nat := 14
abbrev i_l_names : Nat := 15
abbrev i_l_number : Nat := 16
abbrev i_l_shuffle : Nat := 17
abbrev i_l_thing : Nat := 18
abbrev i_l_stack : Nat := 19
abbrev i_l_word : Nat := 20
abbrev i_l_row : Nat := 21
abbrev i_l_shown : Nat := 22
abbrev i_l_due : Nat := 23
abbrev i_l_right : Nat := 24
abbrev i_law : Nat := 25
def k_BASICS : D := (.tup [(.str "plus"), (.str "minus"), (.str "times"), (.str "less"), (.str "same"), (.str "do"), (.str "dip"), (.str "if"), (.str "while"), (.str "repeat"), (.str "join"), (.str "wrap"), (.str "put"), (.str "part"), (.str "each")])
def k_LETTERS : D := (.str "abcdefgh")
def k_MOST_LEFT : D := (.int 12)
def k_MOST_SIGNS : D := (.int 8)
def k_NUMBERS : D := (.int 1000000000000)
def k_SMALL : D := (.str "abcdefghijklmnopqrstuvwxyz")
noncomputable def b_row_told (fu : Nat) (C : Nat → List D → M D) : EvS :=
 (sSeq (sFor (iIt (eVar 1)) (gTp 3 (gNs 2 (gNs 3 (gNs 4 gN0)))) (sIf (eTb (eBin gEq (eVar 2) (eVar 0))) (sRet (eVar 4)) sNil))
 (sRet (eC .non)))
noncomputable def b_thing_in_place (fu : Nat) (C : Nat → List D → M D) : EvS :=
 (sSeq (sIf (eTb (eBin gEq (eBin gIx (eVar 0) (eC (.int 0))) (eC (.str "row")))) (sRet (eTup (aCons (eC (.str "row")) (aCons (eCall (cl 3 (C i_words_in_place)) (aCons (eBin gIx (eVar 0) (eC (.int 1))) (aCons (eVar 1) (aCons (eVar 2) aNil)))) aNil)))) sNil)
 (sSeq (sIf (eTb (eBin gEq (eBin gIx (eVar 0) (eC (.int 0))) (eC (.str "list")))) (sRet (eTup (aCons (eC (.str "list")) (aCons (eCall gTuple (aCons (eComp (iIt (eBin gIx (eVar 0) (eC (.int 1)))) (gN 3) bYes (eCall (cl 3 (C i_thing_in_place)) (aCons (eVar 3) (aCons (eVar 1) (aCons (eVar 2) aNil)))) [3]) aNil)) aNil)))) sNil)
 (sRet (eVar 0))))
noncomputable def b_words_in_place (fu : Nat) (C : Nat → List D → M D) : EvS :=
 (sSeq (sAsg (gN 3) (eTup aNil))
 (sSeq (sFor (iIt (eVar 0)) (gN 4) (sIf (eTb (eBin gEq (eVar 4) (eVar 1))) (sAsg (gN 3) (eBin gAdd (eVar 3) (eVar 2))) (sIf (eT (eIsi "str" (eVar 4))) (sAsg (gN 3) (eBin gAdd (eVar 3) (eTup (aCons (eVar 4) aNil)))) (sAsg (gN 3) (eBin gAdd (eVar 3) (eTup (aCons (eTup (aCons (eC (.str "push")) (aCons (eCall (cl 3 (C i_thing_in_place)) (aCons (eBin gIx (eVar 4) (eC (.int 1))) (aCons (eVar 1) (aCons (eVar 2) aNil)))) aNil))) aNil)))))))
 (sRet (eVar 3))))
noncomputable def b_in_place (fu : Nat) (C : Nat → List D → M D) : EvS :=
 (sRet (eCall (cl 3 (C i_words_in_place)) (aCons (eVar 0) (aCons (eVar 1) (aCons (eCall (cl 2 (C i_row_told)) (aCons (eVar 1) (aCons (eVar 2) aNil))) aNil)))))
noncomputable def b_stack_in_place (fu : Nat) (C : Nat → List D → M D) : EvS :=
 (sRet (eCall gTuple (aCons (eComp (iIt (eVar 0)) (gN 3) bYes (eCall (cl 3 (C i_thing_in_place)) (aCons (eVar 3) (aCons (eVar 1) (aCons (eCall (cl 2 (C i_row_told)) (aCons (eVar 1) (aCons (eVar 2) aNil))) aNil)))) [3]) aNil)))
noncomputable def b_is_shuffle (fu : Nat) (C : Nat → List D → M D) : EvS :=
 (sSeq (sIf (bNot (eT (eIsi "str" (eVar 0)))) (sRet (eC (.bl false))) sNil)
 (sSeq (sAsg (gN 1) (eMeth "str" (gSplit false) (eVar 0) (aCons (eC (.str "-")) aNil)))
 (sSeq (sIf (bOr (eTb (eBin gNe (eCall gLen (aCons (eVar 1) aNil)) (eC (.int 2)))) (bOr (eTb (eBin gGt (eCall gLen (aCons (eBin gIx (eVar 1) (eC (.int 1))) aNil)) (eC k_MOST_LEFT))) (eTb (eBin gNe (eBin gIx (eVar 1) (eC (.int 0))) (eSl false (eC k_LETTERS) oNone (oSome (eCall gLen (aCons (eBin gIx (eVar 1) (eC (.int 0))) aNil)))))))) (sRet (eC (.bl false))) sNil)
 (sRet (eCall gAll (aCons (eComp (iIt (eBin gIx (eVar 1) (eC (.int 1)))) (gN 2) bYes (eBin gIn (eVar 2) (eBin gIx (eVar 1) (eC (.int 0)))) [2]) aNil))))))
noncomputable def b_is_number (fu : Nat) (C : Nat → List D → M D) : EvS :=
 (sRet (eAnd (eIsi "int" (eVar 0)) (eAnd (eNot (eIsi "bool" (eVar 0))) (eChain gLe gLt (eC (.int 0)) (eVar 0) (eC k_NUMBERS)))))
noncomputable def b_is_name (fu : Nat) (C : Nat → List D → M D) : EvS :=
 (sSeq (sIf (bOr (bNot (eT (eIsi "str" (eVar 0)))) (bOr (bNot (eTb (eChain gLe gLe (eC (.int 1)) (eCall gLen (aCons (eVar 0) aNil)) (eC k_MOST_SIGNS)))) (eTb (eBin gIn (eVar 0) (eC k_BASICS))))) (sRet (eC (.bl false))) sNil)
 (sRet (eCall gAll (aCons (eComp (iIt (eVar 0)) (gN 1) bYes (eBin gIn (eVar 1) (eC k_SMALL)) [1]) aNil))))
noncomputable def b_is_thing (fu : Nat) (C : Nat → List D → M D) : EvS :=
 (sSeq (sIf (bOr (bNot (eT (eIsi "tuple" (eVar 0)))) (bOr (eTb (eBin gNe (eCall gLen (aCons (eVar 0) aNil)) (eC (.int 2)))) (bNot (eT (eIsi "str" (eBin gIx (eVar 0) (eC (.int 0)))))))) (sRet (eC (.bl false))) sNil)
 (sSeq (sIf (eTb (eBin gEq (eBin gIx (eVar 0) (eC (.int 0))) (eC (.str "number")))) (sRet (eCall (cl 1 (C i_is_number)) (aCons (eBin gIx (eVar 0) (eC (.int 1))) aNil))) sNil)
 (sSeq (sIf (eTb (eBin gEq (eBin gIx (eVar 0) (eC (.int 0))) (eC (.str "row")))) (sRet (eCall (cl 1 (C i_is_row)) (aCons (eBin gIx (eVar 0) (eC (.int 1))) aNil))) sNil)
 (sRet (eAnd (eBin gEq (eBin gIx (eVar 0) (eC (.int 0))) (eC (.str "list"))) (eCall (cl 1 (C i_is_stack)) (aCons (eBin gIx (eVar 0) (eC (.int 1))) aNil)))))))
noncomputable def b_is_word (fu : Nat) (C : Nat → List D → M D) : EvS :=
 (sSeq (sIf (eT (eIsi "str" (eVar 0))) (sRet (eOr (eBin gIn (eVar 0) (eC k_BASICS)) (eOr (eCall (cl 1 (C i_is_name)) (aCons (eVar 0) aNil)) (eCall (cl 1 (C i_is_shuffle)) (aCons (eVar 0) aNil))))) sNil)
 (sSeq (sIf (bOr (bNot (eT (eIsi "tuple" (eVar 0)))) (bOr (eTb (eBin gNe (eCall gLen (aCons (eVar 0) aNil)) (eC (.int 2)))) (bNot (eT (eIsi "str" (eBin gIx (eVar 0) (eC (.int 0)))))))) (sRet (eC (.bl false))) sNil)
 (sRet (eAnd (eBin gEq (eBin gIx (eVar 0) (eC (.int 0))) (eC (.str "push"))) (eCall (cl 1 (C i_is_thing)) (aCons (eBin gIx (eVar 0) (eC (.int 1))) aNil))))))
noncomputable def b_is_row (fu : Nat) (C : Nat → List D → M D) : EvS :=
 (sRet (eAnd (eIsi "tuple" (eVar 0)) (eCall gAll (aCons (eComp (iIt (eVar 0)) (gN 1) bYes (eCall (cl 1 (C i_is_word)) (aCons (eVar 1) aNil)) [1]) aNil))))
noncomputable def b_is_stack (fu : Nat) (C : Nat → List D → M D) : EvS :=
 (sRet (eAnd (eIsi "tuple" (eVar 0)) (eCall gAll (aCons (eComp (iIt (eVar 0)) (gN 1) bYes (eCall (cl 1 (C i_is_thing)) (aCons (eVar 1) aNil)) [1]) aNil))))
noncomputable def b_l_mixed (fu : Nat) (C : Nat → List D → M D) : EvS :=
 (sSeq (sAsg (gN 2) (eBin gMod (eBin gMul (eBin gAdd (eBin gAdd (eBin gMod (eVar 0) (eC (.int 2147483629))) (eBin gMul (eC (.int 7919)) (eVar 1))) (eC (.int 1))) (eC (.int 48271))) (eC (.int 2147483647))))
 (sSeq (sAsg (gN 2) (eBin gMod (eBin gAdd (eBin gAdd (eBin gMul (eVar 2) (eVar 2)) (eBin gMul (eC (.int 69621)) (eVar 1))) (eC (.int 7))) (eC (.int 2147483587))))
 (sRet (eBin gAdd (eBin gMul (eVar 2) (eC (.int 2147483563))) (eBin gMod (eBin gAdd (eBin gAdd (eBin gMul (eVar 2) (eVar 2)) (eBin gMul (eC (.int 16807)) (eVar 2))) (eVar 1)) (eC (.int 2147483563)))))))
noncomputable def b_l_deck (fu : Nat) (C : Nat → List D → M D) : EvS :=
 (sRet (eLstM (aCons (eUn (gRev true) (eSl false (eVar 0) oNone (oSome (eC (.int 63))))) (aCons (eBin gAdd (eCall gSum (aCons (eSl false (eVar 0) oNone (oSome (eC (.int 63)))) aNil)) (eCall gLen (aCons (eSl false (eVar 0) oNone (oSome (eC (.int 63)))) aNil))) (aCons (eC (.int 0)) aNil)))))
noncomputable def b_l_take (fu : Nat) (C : Nat → List D → M D) : EvS :=
 (sSeq (sAsg (gN 2) (eBin gIx (eVar 0) (eC (.int 0))))
 (sSeq (sSub (eBin gAdd (eBin gIx (eVar 0) (eC (.int 2))) (eC (.int 1))) (eVar 0) (eC (.int 2)))
 (sSeq (sIf (eTb (eBin gEq (eVar 2) (eLst aNil))) (sRet (eBin gMod (eCall (cl 2 (C i_l_mixed)) (aCons (eBin gIx (eVar 0) (eC (.int 1))) (aCons (eBin gIx (eVar 0) (eC (.int 2))) aNil))) (eVar 1))) sNil)
 (sSeq (sAsg (gN 3) (eMeth "list" gPop (eVar 2) aNil))
 (sSeq (sIf (eTb (eBin gLt (eVar 3) (eBin gPow (eC (.int 10)) (eC (.int 18))))) (sRet (eBin gMod (eCall (cl 2 (C i_l_mixed)) (aCons (eVar 3) (aCons (eBin gIx (eVar 0) (eC (.int 2))) aNil))) (eVar 1))) sNil)
 (sSeq (sIf (eTb (eBin gGt (eBin gDiv (eVar 3) (eVar 1)) (eC (.int 0)))) (sExpr (eMeth "list" gAppend (eVar 2) (aCons (eBin gDiv (eVar 3) (eVar 1)) aNil))) sNil)
 (sRet (eBin gMod (eVar 3) (eVar 1)))))))))
noncomputable def b_l_names (fu : Nat) (C : Nat → List D → M D) : EvS :=
 (sSeq (sAsg (gN 2) (eC (.str "abcdefghijklmnopqrstuvwxyz")))
 (sSeq (sAsg (gN 3) (eLst (aCons (eC (.str "pl")) (aCons (eC (.str "plu")) (aCons (eC (.str "iff")) (aCons (eC (.str "i")) (aCons (eC (.str "dipp")) (aCons (eC (.str "eac")) (aCons (eC (.str "wra")) (aCons (eC (.str "lesser")) (aCons (eC (.str "dodo")) (aCons (eC (.str "d")) (aCons (eC (.str "pluss")) (aCons (eC (.str "joi")) aNil))))))))))))))
 (sSeq (sAsg (gN 4) (eCall (cl 2 (C i_l_take)) (aCons (eVar 0) (aCons (eC (.int 12)) aNil))))
 (sSeq (sAsg (gN 5) (eBin gAdd (eSl false (eVar 3) (oSome (eVar 4)) oNone) (eSl false (eVar 3) oNone (oSome (eVar 4)))))
 (sSeq (sAsg (gN 6) (eMeth "str" gJoin (eC (.str "")) (aCons (eComp (iRange1 (aCons (eC (.int 7)) aNil)) (gN 7) bYes (eBin gIx (eVar 2) (eCall (cl 2 (C i_l_take)) (aCons (eVar 0) (aCons (eC (.int 26)) aNil)))) [7]) aNil)))
 (sSeq (sIf (eTb (eBin gEq (eCall (cl 2 (C i_l_take)) (aCons (eVar 0) (aCons (eC (.int 2)) aNil))) (eC (.int 0)))) (sAsg (gN 5) (eComp (iRange1 (aCons (eC (.int 8)) aNil)) (gN 7) bYes (eBin gAdd (eC (.str "x")) (eSl false (eVar 6) oNone (oSome (eVar 7)))) [7])) sNil)
 (sRet (eSl false (eVar 5) oNone (oSome (eVar 1))))))))))
noncomputable def b_l_number (fu : Nat) (C : Nat → List D → M D) : EvS :=
 (sSeq (sAsg (gN 1) (eLst (aCons (eC (.int 0)) (aCons (eC (.int 1)) (aCons (eC (.int 2)) (aCons (eCall (cl 2 (C i_l_take)) (aCons (eVar 0) (aCons (eC (.int 100)) aNil))) (aCons (eBin gSub (eBin gPow (eC (.int 10)) (eC (.int 12))) (eC (.int 1))) (aCons (eCall (cl 2 (C i_l_take)) (aCons (eVar 0) (aCons (eBin gPow (eC (.int 10)) (eC (.int 12))) aNil))) aNil))))))))
 (sRet (eBin gIx (eVar 1) (eCall (cl 2 (C i_l_take)) (aCons (eVar 0) (aCons (eC (.int 6)) aNil))))))
noncomputable def b_l_shuffle (fu : Nat) (C : Nat → List D → M D) : EvS :=
 (sSeq (sAsg (gN 1) (eSl false (eC (.str "abcdefgh")) oNone (oSome (eBin gIx (eLst (aCons (eCall (cl 2 (C i_l_take)) (aCons (eVar 0) (aCons (eC (.int 4)) aNil))) (aCons (eCall (cl 2 (C i_l_take)) (aCons (eVar 0) (aCons (eC (.int 9)) aNil))) aNil))) (eCall gInt (aCons (eBin gEq (eCall (cl 2 (C i_l_take)) (aCons (eVar 0) (aCons (eC (.int 4)) aNil))) (eC (.int 0))) aNil))))))
 (sSeq (sAsg (gN 2) (eBin gMul (eBin gIx (eLst (aCons (eCall (cl 2 (C i_l_take)) (aCons (eVar 0) (aCons (eC (.int 4)) aNil))) (aCons (eCall (cl 2 (C i_l_take)) (aCons (eVar 0) (aCons (eC (.int 13)) aNil))) aNil))) (eCall gInt (aCons (eBin gEq (eCall (cl 2 (C i_l_take)) (aCons (eVar 0) (aCons (eC (.int 4)) aNil))) (eC (.int 0))) aNil))) (eCall gInt (aCons (eBin gNe (eVar 1) (eC (.str ""))) aNil))))
 (sRet (eBin gAdd (eBin gAdd (eVar 1) (eC (.str "-"))) (eMeth "str" gJoin (eC (.str "")) (aCons (eComp (iRange1 (aCons (eVar 2) aNil)) (gN 3) bYes (eBin gIx (eVar 1) (eCall (cl 2 (C i_l_take)) (aCons (eVar 0) (aCons (eCall gLen (aCons (eVar 1) aNil)) aNil)))) [3]) aNil))))))
noncomputable def b_l_thing (fu : Nat) (C : Nat → List D → M D) : EvS :=
 (sSeq (sAsg (gN 4) (eCall (cl 2 (C i_l_take)) (aCons (eVar 0) (aCons (eC (.int 4)) aNil))))
 (sSeq (sIf (bOr (eTb (eBin gEq (eVar 2) (eC (.int 0)))) (eTb (eBin gLt (eVar 4) (eC (.int 2))))) (sRet (eTup (aCons (eC (.str "number")) (aCons (eCall (cl 1 (C i_l_number)) (aCons (eVar 0) aNil)) aNil)))) sNil)
 (sSeq (sIf (eTb (eBin gEq (eVar 4) (eC (.int 2)))) (sRet (eTup (aCons (eC (.str "row")) (aCons (eCall (cl 4 (C i_l_row)) (aCons (eVar 0) (aCons (eVar 1) (aCons (eBin gSub (eVar 2) (eC (.int 1))) (aCons (eVar 3) aNil))))) aNil)))) sNil)
 (sRet (eTup (aCons (eC (.str "list")) (aCons (eCall (cl 4 (C i_l_stack)) (aCons (eVar 0) (aCons (eVar 1) (aCons (eBin gSub (eVar 2) (eC (.int 1))) (aCons (eVar 3) aNil))))) aNil)))))))
noncomputable def b_l_stack (fu : Nat) (C : Nat → List D → M D) : EvS :=
 (sSeq (sAsg (gN 4) (eLstM aNil))
 (sSeq (sFor (iRange1 (aCons (eCall (cl 2 (C i_l_take)) (aCons (eVar 0) (aCons (eBin gIx (eLst (aCons (eC (.int 4)) (aCons (eC (.int 7)) aNil))) (eCall gInt (aCons (eBin gEq (eCall (cl 2 (C i_l_take)) (aCons (eVar 0) (aCons (eC (.int 8)) aNil))) (eC (.int 7))) aNil))) aNil))) aNil)) (gN 5) (sIf (eTb (eBin gGt (eBin gIx (eVar 3) (eC (.int 0))) (eC (.int 0)))) (sSeq (sSub (eBin gSub (eBin gIx (eVar 3) (eC (.int 0))) (eC (.int 1))) (eVar 3) (eC (.int 0)))
 (sExpr (eMeth "list" gAppend (eVar 4) (aCons (eCall (cl 4 (C i_l_thing)) (aCons (eVar 0) (aCons (eVar 1) (aCons (eVar 2) (aCons (eVar 3) aNil))))) aNil)))) sNil))
 (sRet (eCall gTuple (aCons (eVar 4) aNil)))))
noncomputable def b_l_word (fu : Nat) (C : Nat → List D → M D) : EvS :=
 (sSeq (sAsg (gN 4) (eMeth "str" (gSplit false) (eC (.str "plus minus times less same do dip if while repeat join wrap put part each")) (aCons (eC (.str " ")) aNil)))
 (sSeq (sSub (eBin gSub (eBin gIx (eVar 3) (eC (.int 0))) (eC (.int 1))) (eVar 3) (eC (.int 0)))
 (sSeq (sAsg (gN 5) (eCall (cl 2 (C i_l_take)) (aCons (eVar 0) (aCons (eC (.int 7)) aNil))))
 (sSeq (sIf (eTb (eBin gLt (eVar 5) (eC (.int 2)))) (sRet (eBin gIx (eVar 4) (eCall (cl 2 (C i_l_take)) (aCons (eVar 0) (aCons (eC (.int 15)) aNil))))) sNil)
 (sSeq (sIf (eTb (eBin gEq (eVar 5) (eC (.int 2)))) (sRet (eCall (cl 1 (C i_l_shuffle)) (aCons (eVar 0) aNil))) sNil)
 (sSeq (sIf (eTb (eBin gEq (eVar 5) (eC (.int 3)))) (sRet (eBin gIx (eVar 1) (eCall (cl 2 (C i_l_take)) (aCons (eVar 0) (aCons (eCall gLen (aCons (eVar 1) aNil)) aNil))))) sNil)
 (sRet (eTup (aCons (eC (.str "push")) (aCons (eCall (cl 4 (C i_l_thing)) (aCons (eVar 0) (aCons (eVar 1) (aCons (eVar 2) (aCons (eVar 3) aNil))))) aNil))))))))))
noncomputable def b_l_row (fu : Nat) (C : Nat → List D → M D) : EvS :=
 (sSeq (sAsg (gN 4) (eLstM aNil))
 (sSeq (sFor (iRange1 (aCons (eCall (cl 2 (C i_l_take)) (aCons (eVar 0) (aCons (eBin gIx (eLst (aCons (eC (.int 4)) (aCons (eC (.int 7)) aNil))) (eCall gInt (aCons (eBin gEq (eCall (cl 2 (C i_l_take)) (aCons (eVar 0) (aCons (eC (.int 8)) aNil))) (eC (.int 7))) aNil))) aNil))) aNil)) (gN 5) (sIf (eTb (eBin gGt (eBin gIx (eVar 3) (eC (.int 0))) (eC (.int 0)))) (sExpr (eMeth "list" gAppend (eVar 4) (aCons (eCall (cl 4 (C i_l_word)) (aCons (eVar 0) (aCons (eVar 1) (aCons (eVar 2) (aCons (eVar 3) aNil))))) aNil))) sNil))
 (sRet (eCall gTuple (aCons (eVar 4) aNil)))))
noncomputable def b_l_shown (fu : Nat) (C : Nat → List D → M D) : EvS :=
 (sSeq (sAsg (gN 2) (eLstM aNil))
 (sSeq (sAsg (gN 3) (eCompM (iRev (eVar 0)) (gN 4) bYes (eVar 4) [4]))
 (sSeq (sWhile fu (eTb (eBin gNe (eVar 3) (eLst aNil))) (sSeq (sAsg (gN 4) (eMeth "list" gPop (eVar 3) aNil))
 (sIf (eT (eIsi "str" (eVar 4))) (sExpr (eMeth "list" gAppend (eVar 2) (aCons (eVar 4) aNil))) (sIf (eTb (eBin gEq (eBin gIx (eVar 4) (eC (.int 0))) (eC (.str "push")))) (sExpr (eMeth "list" gAppend (eVar 3) (aCons (eBin gIx (eVar 4) (eC (.int 1))) aNil))) (sIf (eTb (eBin gEq (eBin gIx (eVar 4) (eC (.int 0))) (eC (.str "number")))) (sExpr (eMeth "list" gAppend (eVar 2) (aCons (eCall gStr (aCons (eBin gIx (eVar 4) (eC (.int 1))) aNil)) aNil))) (sSeq (sExpr (eMeth "list" gAppend (eVar 2) (aCons (eBin gIx (eLst (aCons (eC (.str "{")) (aCons (eC (.str "[")) aNil))) (eCall gInt (aCons (eBin gEq (eBin gIx (eVar 4) (eC (.int 0))) (eC (.str "row"))) aNil))) aNil)))
 (sSeq (sExpr (eMeth "list" gAppend (eVar 3) (aCons (eBin gIx (eLst (aCons (eC (.str "}")) (aCons (eC (.str "]")) aNil))) (eCall gInt (aCons (eBin gEq (eBin gIx (eVar 4) (eC (.int 0))) (eC (.str "row"))) aNil))) aNil)))
 (sAsg (gN 3) (eBin gAddM (eVar 3) (eComp (iRev (eBin gIx (eVar 4) (eC (.int 1)))) (gN 5) bYes (eVar 5) [5]))))))))))
 (sRet (eMeth "str" gJoin (eC (.str " ")) (aCons (eVar 2) aNil))))))
noncomputable def b_l_due (fu : Nat) (C : Nat → List D → M D) : EvS :=
 (sSeq (sAsg (gN 3) (eLstM aNil))
 (sSeq (sFor (iIt (eMeth "str" (gSplit false) (eVar 0) (aCons (eC (.str " ")) aNil))) (gN 4) (sIf (bAnd (eTb (eBin gEq (eVar 4) (eVar 1))) (eTb (eBin gNe (eVar 2) (eC (.str ""))))) (sAsg (gN 3) (eBin gAddM (eVar 3) (eMeth "str" (gSplit false) (eVar 2) (aCons (eC (.str " ")) aNil)))) (sIf (eTb (eBin gNe (eVar 4) (eVar 1))) (sExpr (eMeth "list" gAppend (eVar 3) (aCons (eVar 4) aNil))) sNil)))
 (sRet (eMeth "str" gJoin (eC (.str " ")) (aCons (eVar 3) aNil)))))
noncomputable def b_l_right (fu : Nat) (C : Nat → List D → M D) : EvS :=
 (sSeq (sAsg (gN 4) (eComp (iIt (eVar 3)) (gTp 3 (gNs 8 (gNs 9 (gNs 10 gN0)))) (eTb (eBin gEq (eVar 8) (eVar 2))) (eVar 10) [8, 9, 10]))
 (sSeq (sAsg (gN 5) (eCall (cl 2 (C i_l_shown)) (aCons (eBin gIx (eVar 4) (eC (.int 0))) (aCons (eC (.bl true)) aNil))))
 (sSeq (sAsg (gN 6) (eCall (cl 3 (C i_in_place)) (aCons (eVar 0) (aCons (eVar 2) (aCons (eVar 3) aNil)))))
 (sSeq (sAsg (gN 7) (eCall (cl 3 (C i_stack_in_place)) (aCons (eVar 1) (aCons (eVar 2) (aCons (eVar 3) aNil)))))
 (sSeq (sIf (bOr (eTb (eBin gIsNot (eCall (cl 1 (C i_is_row)) (aCons (eVar 6) aNil)) (eC (.bl true)))) (eTb (eBin gIsNot (eCall (cl 1 (C i_is_stack)) (aCons (eVar 7) aNil)) (eC (.bl true))))) (sRet (eC (.bl false))) sNil)
 (sSeq (sIf (eTb (eBin gNe (eCall (cl 2 (C i_l_shown)) (aCons (eVar 6) (aCons (eC (.bl true)) aNil))) (eCall (cl 3 (C i_l_due)) (aCons (eCall (cl 2 (C i_l_shown)) (aCons (eVar 0) (aCons (eC (.bl true)) aNil))) (aCons (eVar 2) (aCons (eVar 5) aNil)))))) (sRet (eC (.bl false))) sNil)
 (sSeq (sIf (eTb (eBin gNe (eCall (cl 2 (C i_l_shown)) (aCons (eVar 7) (aCons (eC (.bl false)) aNil))) (eCall (cl 3 (C i_l_due)) (aCons (eCall (cl 2 (C i_l_shown)) (aCons (eVar 1) (aCons (eC (.bl false)) aNil))) (aCons (eVar 2) (aCons (eVar 5) aNil)))))) (sRet (eC (.bl false))) sNil)
 (sSeq (sIf (eTb (eBin gNe (eCall (cl 3 (C i_in_place)) (aCons (eVar 6) (aCons (eVar 2) (aCons (eVar 3) aNil)))) (eVar 6))) (sRet (eC (.bl false))) sNil)
 (sRet (eBin gEq (eCall (cl 3 (C i_stack_in_place)) (aCons (eVar 7) (aCons (eVar 2) (aCons (eVar 3) aNil)))) (eVar 7)))))))))))
noncomputable def b_law (fu : Nat) (C : Nat → List D → M D) : EvS :=
 (sSeq (sAsg (gN 1) (eCall (cl 1 (C i_l_deck)) (aCons (eVar 0) aNil)))
 (sSeq (sAsg (gN 2) (eCall (cl 2 (C i_l_names)) (aCons (eVar 1) (aCons (eBin gAdd (eC (.int 1)) (eCall (cl 2 (C i_l_take)) (aCons (eVar 1) (aCons (eC (.int 8)) aNil)))) aNil))))
 (sSeq (sAsg (gN 3) (eTup aNil))
 (sSeq (sFor (iRange1 (aCons (eCall gLen (aCons (eVar 2) aNil)) aNil)) (gN 4) (sSeq (sAsg (gN 5) (eCall (cl 4 (C i_l_row)) (aCons (eVar 1) (aCons (eBin gAdd (eSl false (eVar 2) oNone (oSome (eVar 4))) (eLst (aCons (eC (.str "a-a")) aNil))) (aCons (eC (.int 4)) (aCons (eLstM (aCons (eC (.int 12)) aNil)) aNil))))))
 (sAsg (gN 3) (eBin gAdd (eVar 3) (eTup (aCons (eTup (aCons (eBin gIx (eVar 2) (eVar 4)) (aCons (eC .non) (aCons (eVar 5) aNil)))) aNil))))))
 (sSeq (sFor (iRange1 (aCons (eC (.int 4)) aNil)) (gN 4) (sSeq (sAsg (gN 6) (eCall (cl 4 (C i_l_row)) (aCons (eVar 1) (aCons (eVar 2) (aCons (eC (.int 2)) (aCons (eLstM (aCons (eC (.int 18)) aNil)) aNil))))))
 (sSeq (sAsg (gN 7) (eCall (cl 4 (C i_l_stack)) (aCons (eVar 1) (aCons (eVar 2) (aCons (eC (.int 2)) (aCons (eLstM (aCons (eC (.int 18)) aNil)) aNil))))))
 (sSeq (sFor (iIt (eVar 2)) (gN 8) (sIf (bNot (eT (eCall (cl 4 (C i_l_right)) (aCons (eVar 6) (aCons (eVar 7) (aCons (eVar 8) (aCons (eVar 3) aNil))))))) (sRet (eC (.bl false))) sNil))
 (sSeq (sAsg (gN 9) (eBin gIx (eVar 2) (eUn gNeg (eC (.int 1)))))
 (sSeq (sAsg (gN 10) (eComp (iIt (eVar 3)) (gTp 3 (gNs 15 (gNs 16 (gNs 5 gN0)))) bYes (eCall (cl 2 (C i_l_shown)) (aCons (eVar 5) (aCons (eC (.bl true)) aNil))) [15, 16, 5]))
 (sSeq (sAsg (gN 11) (eCall (cl 3 (C i_l_due)) (aCons (eCall (cl 2 (C i_l_shown)) (aCons (eVar 6) (aCons (eC (.bl true)) aNil))) (aCons (eVar 9) (aCons (eBin gIx (eVar 10) (eUn gNeg (eC (.int 1)))) aNil)))))
 (sSeq (sAsg (gN 11) (eCall (cl 3 (C i_l_due)) (aCons (eVar 11) (aCons (eBin gIx (eVar 2) (eC (.int 0))) (aCons (eBin gIx (eVar 10) (eC (.int 0))) aNil)))))
 (sIf (eTb (eBin gLt (eCall gLen (aCons (eMeth "str" (gSplit false) (eVar 11) (aCons (eC (.str " ")) aNil)) aNil)) (eC (.int 400)))) (sSeq (sAsg (gN 12) (eCall (cl 3 (C i_in_place)) (aCons (eCall (cl 3 (C i_in_place)) (aCons (eVar 6) (aCons (eVar 9) (aCons (eVar 3) aNil)))) (aCons (eBin gIx (eVar 2) (eC (.int 0))) (aCons (eVar 3) aNil)))))
 (sSeq (sAsg (gN 13) (eCall (cl 3 (C i_in_place)) (aCons (eVar 6) (aCons (eBin gIx (eVar 2) (eC (.int 0))) (aCons (eVar 3) aNil)))))
 (sSeq (sAsg (gN 14) (eCall (cl 3 (C i_in_place)) (aCons (eVar 13) (aCons (eVar 9) (aCons (eVar 3) aNil)))))
 (sIf (eTb (eBin gNe (eCall (cl 3 (C i_in_place)) (aCons (eVar 14) (aCons (eBin gIx (eVar 2) (eC (.int 0))) (aCons (eVar 3) aNil)))) (eVar 12))) (sRet (eC (.bl false))) sNil)))) sNil)))))))))
 (sRet (eAnd (eBin gEq (eCall (cl 3 (C i_in_place)) (aCons (eTup aNil) (aCons (eBin gIx (eVar 2) (eC (.int 0))) (aCons (eVar 3) aNil)))) (eTup aNil)) (eBin gEq (eCall (cl 3 (C i_stack_in_place)) (aCons (eTup aNil) (aCons (eBin gIx (eVar 2) (eC (.int 0))) (aCons (eVar 3) aNil)))) (eTup aNil)))))))))
noncomputable def den (fu : Nat) : Nat → Nat → List D → M D
  | 0, _ => fun _ => stuck
  | n + 1, i => match i with
    | 0 => runDef false 5 (b_row_told fu (den fu n))
    | 1 => runDef false 4 (b_thing_in_place fu (den fu n))
    | 2 => runDef false 5 (b_words_in_place fu (den fu n))
    | 3 => runDef false 3 (b_in_place fu (den fu n))
    | 4 => runDef false 4 (b_stack_in_place fu (den fu n))
    | 5 => runDef false 3 (b_is_shuffle fu (den fu n))
    | 6 => runDef false 1 (b_is_number fu (den fu n))
    | 7 => runDef false 2 (b_is_name fu (den fu n))
    | 8 => runDef false 1 (b_is_thing fu (den fu n))
    | 9 => runDef false 1 (b_is_word fu (den fu n))
    | 10 => runDef false 2 (b_is_row fu (den fu n))
    | 11 => runDef false 2 (b_is_stack fu (den fu n))
    | 12 => runDef false 3 (b_l_mixed fu (den fu n))
    | 13 => runDef true 1 (b_l_deck fu (den fu n))
    | 14 => runDef false 4 (b_l_take fu (den fu n))
    | 15 => runDef false 8 (b_l_names fu (den fu n))
    | 16 => runDef false 2 (b_l_number fu (den fu n))
    | 17 => runDef false 4 (b_l_shuffle fu (den fu n))
    | 18 => runDef false 5 (b_l_thing fu (den fu n))
    | 19 => runDef false 6 (b_l_stack fu (den fu n))
    | 20 => runDef false 6 (b_l_word fu (den fu n))
    | 21 => runDef false 6 (b_l_row fu (den fu n))
    | 22 => runDef false 6 (b_l_shown fu (den fu n))
    | 23 => runDef false 5 (b_l_due fu (den fu n))
    | 24 => runDef false 11 (b_l_right fu (den fu n))
    | 25 => runDef false 17 (b_law fu (den fu n))
    | _ => fun _ => stuck
end K69

namespace K69
open PySem L2 PyProof.Rows DL
def topS (i : Nat) : Stmt := PySem.Challenge.pw_takeleave_k69_rows_put_in_place.main.body.getD i (.Pass ⟨0, 0, 0, 0⟩)
abbrev s_row_told : Stmt := topS 1
abbrev n_row_told : List Str := ["name", "book", "other", "told", "row"]
abbrev p_row_told : List Str := ["name", "book"]
abbrev s_thing_in_place : Stmt := topS 2
abbrev n_thing_in_place : List Str := ["thing", "name", "row", "one"]
abbrev p_thing_in_place : List Str := ["thing", "name", "row"]
abbrev s_words_in_place : Stmt := topS 3
abbrev n_words_in_place : List Str := ["words", "name", "row", "found", "word"]
abbrev p_words_in_place : List Str := ["words", "name", "row"]
abbrev s_in_place : Stmt := topS 4
abbrev n_in_place : List Str := ["row", "name", "book"]
abbrev p_in_place : List Str := ["row", "name", "book"]
abbrev s_stack_in_place : Stmt := topS 5
abbrev n_stack_in_place : List Str := ["stack", "name", "book", "thing"]
abbrev p_stack_in_place : List Str := ["stack", "name", "book"]
abbrev s_is_shuffle : Stmt := topS 9
abbrev n_is_shuffle : List Str := ["thing", "parts", "sign"]
abbrev p_is_shuffle : List Str := ["thing"]
abbrev s_is_number : Stmt := topS 15
abbrev n_is_number : List Str := ["thing"]
abbrev p_is_number : List Str := ["thing"]
abbrev s_is_name : Stmt := topS 16
abbrev n_is_name : List Str := ["thing", "sign"]
abbrev p_is_name : List Str := ["thing"]
abbrev s_is_thing : Stmt := topS 17
abbrev n_is_thing : List Str := ["thing"]
abbrev p_is_thing : List Str := ["thing"]
abbrev s_is_word : Stmt := topS 18
abbrev n_is_word : List Str := ["thing"]
abbrev p_is_word : List Str := ["thing"]
abbrev s_is_row : Stmt := topS 19
abbrev n_is_row : List Str := ["thing", "word"]
abbrev p_is_row : List Str := ["thing"]
abbrev s_is_stack : Stmt := topS 20
abbrev n_is_stack : List Str := ["thing", "one"]
abbrev p_is_stack : List Str := ["thing"]
abbrev s_l_mixed : Stmt := topS 22
abbrev n_l_mixed : List Str := ["_law_cell", "_law_k", "_law_number_here"]
abbrev p_l_mixed : List Str := ["_law_cell", "_law_k"]
abbrev s_l_deck : Stmt := topS 23
abbrev n_l_deck : List Str := ["_law_script"]
abbrev p_l_deck : List Str := ["_law_script"]
abbrev s_l_take : Stmt := topS 24
abbrev n_l_take : List Str := ["_law_deck_here", "_law_most", "_law_cells", "_law_cell"]
abbrev p_l_take : List Str := ["_law_deck_here", "_law_most"]
abbrev s_l_names : Stmt := topS 25
abbrev n_l_names : List Str := ["_law_deck_here", "_law_many", "_law_letters", "_law_some", "_law_turn", "_law_found", "_law_tail", "_law_k"]
abbrev p_l_names : List Str := ["_law_deck_here", "_law_many"]
abbrev s_l_number : Stmt := topS 26
abbrev n_l_number : List Str := ["_law_deck_here", "_law_some"]
abbrev p_l_number : List Str := ["_law_deck_here"]
abbrev s_l_shuffle : Stmt := topS 27
abbrev n_l_shuffle : List Str := ["_law_deck_here", "_law_letters", "_law_many", "_law_k"]
abbrev p_l_shuffle : List Str := ["_law_deck_here"]
abbrev s_l_thing : Stmt := topS 28
abbrev n_l_thing : List Str := ["_law_deck_here", "_law_names_here", "_law_deep", "_law_left", "_law_way"]
abbrev p_l_thing : List Str := ["_law_deck_here", "_law_names_here", "_law_deep", "_law_left"]
abbrev s_l_stack : Stmt := topS 29
abbrev n_l_stack : List Str := ["_law_deck_here", "_law_names_here", "_law_deep", "_law_left", "_law_found", "_law_k"]
abbrev p_l_stack : List Str := ["_law_deck_here", "_law_names_here", "_law_deep", "_law_left"]
abbrev s_l_word : Stmt := topS 30
abbrev n_l_word : List Str := ["_law_deck_here", "_law_names_here", "_law_deep", "_law_left", "_law_basics", "_law_way"]
abbrev p_l_word : List Str := ["_law_deck_here", "_law_names_here", "_law_deep", "_law_left"]
abbrev s_l_row : Stmt := topS 31
abbrev n_l_row : List Str := ["_law_deck_here", "_law_names_here", "_law_deep", "_law_left", "_law_found", "_law_k"]
abbrev p_l_row : List Str := ["_law_deck_here", "_law_names_here", "_law_deep", "_law_left"]
abbrev s_l_shown : Stmt := topS 32
abbrev n_l_shown : List Str := ["_law_parts", "_law_as_row", "_law_found", "_law_waiting", "_law_part", "_law_inner"]
abbrev p_l_shown : List Str := ["_law_parts", "_law_as_row"]
abbrev s_l_due : Stmt := topS 33
abbrev n_l_due : List Str := ["_law_text", "_law_name", "_law_told", "_law_found", "_law_word_here"]
abbrev p_l_due : List Str := ["_law_text", "_law_name", "_law_told"]
abbrev s_l_right : Stmt := topS 34
abbrev n_l_right : List Str := ["_law_row_here", "_law_stack_here", "_law_name", "_law_book", "_law_rows", "_law_told", "_law_found", "_law_left", "_law_other", "_law_kind", "_law_inner"]
abbrev p_l_right : List Str := ["_law_row_here", "_law_stack_here", "_law_name", "_law_book"]
abbrev s_law : Stmt := topS 35
abbrev n_law : List Str := ["_law_script", "_law_deck_here", "_law_names_here", "_law_book", "_law_k", "_law_inner", "_law_row_here", "_law_stack_here", "_law_name", "_law_last", "_law_told", "_law_text", "_law_both", "_law_first", "_law_other_way", "_law_other", "_law_kind"]
abbrev p_law : List Str := ["_law_script"]
structure Tx (K : PySem.W.Frag) (mg : Str → Option Value) where
  a_row_told : Addr
  f_row_told : FuncData
  d_row_told : DefAt K mg "row_told" s_row_told p_row_told a_row_told f_row_told
  a_thing_in_place : Addr
  f_thing_in_place : FuncData
  d_thing_in_place : DefAt K mg "thing_in_place" s_thing_in_place p_thing_in_place a_thing_in_place f_thing_in_place
  a_words_in_place : Addr
  f_words_in_place : FuncData
  d_words_in_place : DefAt K mg "words_in_place" s_words_in_place p_words_in_place a_words_in_place f_words_in_place
  a_in_place : Addr
  f_in_place : FuncData
  d_in_place : DefAt K mg "in_place" s_in_place p_in_place a_in_place f_in_place
  a_stack_in_place : Addr
  f_stack_in_place : FuncData
  d_stack_in_place : DefAt K mg "stack_in_place" s_stack_in_place p_stack_in_place a_stack_in_place f_stack_in_place
  a_is_shuffle : Addr
  f_is_shuffle : FuncData
  d_is_shuffle : DefAt K mg "is_shuffle" s_is_shuffle p_is_shuffle a_is_shuffle f_is_shuffle
  a_is_number : Addr
  f_is_number : FuncData
  d_is_number : DefAt K mg "is_number" s_is_number p_is_number a_is_number f_is_number
  a_is_name : Addr
  f_is_name : FuncData
  d_is_name : DefAt K mg "is_name" s_is_name p_is_name a_is_name f_is_name
  a_is_thing : Addr
  f_is_thing : FuncData
  d_is_thing : DefAt K mg "is_thing" s_is_thing p_is_thing a_is_thing f_is_thing
  a_is_word : Addr
  f_is_word : FuncData
  d_is_word : DefAt K mg "is_word" s_is_word p_is_word a_is_word f_is_word
  a_is_row : Addr
  f_is_row : FuncData
  d_is_row : DefAt K mg "is_row" s_is_row p_is_row a_is_row f_is_row
  a_is_stack : Addr
  f_is_stack : FuncData
  d_is_stack : DefAt K mg "is_stack" s_is_stack p_is_stack a_is_stack f_is_stack
  a_l_mixed : Addr
  f_l_mixed : FuncData
  d_l_mixed : DefAt K mg "_law_mixed" s_l_mixed p_l_mixed a_l_mixed f_l_mixed
  a_l_deck : Addr
  f_l_deck : FuncData
  d_l_deck : DefAt K mg "_law_deck" s_l_deck p_l_deck a_l_deck f_l_deck
  a_l_take : Addr
  f_l_take : FuncData
  d_l_take : DefAt K mg "_law_take" s_l_take p_l_take a_l_take f_l_take
  a_l_names : Addr
  f_l_names : FuncData
  d_l_names : DefAt K mg "_law_names" s_l_names p_l_names a_l_names f_l_names
  a_l_number : Addr
  f_l_number : FuncData
  d_l_number : DefAt K mg "_law_number" s_l_number p_l_number a_l_number f_l_number
  a_l_shuffle : Addr
  f_l_shuffle : FuncData
  d_l_shuffle : DefAt K mg "_law_shuffle" s_l_shuffle p_l_shuffle a_l_shuffle f_l_shuffle
  a_l_thing : Addr
  f_l_thing : FuncData
  d_l_thing : DefAt K mg "_law_thing" s_l_thing p_l_thing a_l_thing f_l_thing
  a_l_stack : Addr
  f_l_stack : FuncData
  d_l_stack : DefAt K mg "_law_stack" s_l_stack p_l_stack a_l_stack f_l_stack
  a_l_word : Addr
  f_l_word : FuncData
  d_l_word : DefAt K mg "_law_word" s_l_word p_l_word a_l_word f_l_word
  a_l_row : Addr
  f_l_row : FuncData
  d_l_row : DefAt K mg "_law_row" s_l_row p_l_row a_l_row f_l_row
  a_l_shown : Addr
  f_l_shown : FuncData
  d_l_shown : DefAt K mg "_law_shown" s_l_shown p_l_shown a_l_shown f_l_shown
  a_l_due : Addr
  f_l_due : FuncData
  d_l_due : DefAt K mg "_law_due" s_l_due p_l_due a_l_due f_l_due
  a_l_right : Addr
  f_l_right : FuncData
  d_l_right : DefAt K mg "_law_right" s_l_right p_l_right a_l_right f_l_right
  a_law : Addr
  f_law : FuncData
  d_law : DefAt K mg "law" s_law p_law a_law f_law
  z_all : mg "all" = none
  z_bool : mg "bool" = none
  z_int : mg "int" = none
  z_isinstance : mg "isinstance" = none
  z_len : mg "len" = none
  z_list : mg "list" = none
  z_range : mg "range" = none
  z_reversed : mg "reversed" = none
  z_str : mg "str" = none
  z_sum : mg "sum" = none
  z_tuple : mg "tuple" = none
  c_BASICS : GV K mg "BASICS" k_BASICS
  c_LETTERS : GV K mg "LETTERS" k_LETTERS
  c_MOST_LEFT : GV K mg "MOST_LEFT" k_MOST_LEFT
  c_MOST_SIGNS : GV K mg "MOST_SIGNS" k_MOST_SIGNS
  c_NUMBERS : GV K mg "NUMBERS" k_NUMBERS
  c_SMALL : GV K mg "SMALL" k_SMALL
structure Cal (P : Program) (w : World) (K : PySem.W.Frag) (mg : Str → Option Value) (base : Heap) (T : Tx K mg) (k : Nat) (C : Nat → List D → M D) : Prop where
  row_told : FnOk P w K mg base (L2.CX P w) k T.a_row_told T.f_row_told p_row_told (spD K mg (p_row_told).length (C i_row_told))
  thing_in_place : FnOk P w K mg base (L2.CX P w) k T.a_thing_in_place T.f_thing_in_place p_thing_in_place (spD K mg (p_thing_in_place).length (C i_thing_in_place))
  words_in_place : FnOk P w K mg base (L2.CX P w) k T.a_words_in_place T.f_words_in_place p_words_in_place (spD K mg (p_words_in_place).length (C i_words_in_place))
  in_place : FnOk P w K mg base (L2.CX P w) k T.a_in_place T.f_in_place p_in_place (spD K mg (p_in_place).length (C i_in_place))
  stack_in_place : FnOk P w K mg base (L2.CX P w) k T.a_stack_in_place T.f_stack_in_place p_stack_in_place (spD K mg (p_stack_in_place).length (C i_stack_in_place))
  is_shuffle : FnOk P w K mg base (L2.CX P w) k T.a_is_shuffle T.f_is_shuffle p_is_shuffle (spD K mg (p_is_shuffle).length (C i_is_shuffle))
  is_number : FnOk P w K mg base (L2.CX P w) k T.a_is_number T.f_is_number p_is_number (spD K mg (p_is_number).length (C i_is_number))
  is_name : FnOk P w K mg base (L2.CX P w) k T.a_is_name T.f_is_name p_is_name (spD K mg (p_is_name).length (C i_is_name))
  is_thing : FnOk P w K mg base (L2.CX P w) k T.a_is_thing T.f_is_thing p_is_thing (spD K mg (p_is_thing).length (C i_is_thing))
  is_word : FnOk P w K mg base (L2.CX P w) k T.a_is_word T.f_is_word p_is_word (spD K mg (p_is_word).length (C i_is_word))
  is_row : FnOk P w K mg base (L2.CX P w) k T.a_is_row T.f_is_row p_is_row (spD K mg (p_is_row).length (C i_is_row))
  is_stack : FnOk P w K mg base (L2.CX P w) k T.a_is_stack T.f_is_stack p_is_stack (spD K mg (p_is_stack).length (C i_is_stack))
  l_mixed : FnOk P w K mg base (L2.CX P w) k T.a_l_mixed T.f_l_mixed p_l_mixed (spD K mg (p_l_mixed).length (C i_l_mixed))
  l_deck : FnOk P w K mg base (L2.CX P w) k T.a_l_deck T.f_l_deck p_l_deck (spD K mg (p_l_deck).length (C i_l_deck))
  l_take : FnOk P w K mg base (L2.CX P w) k T.a_l_take T.f_l_take p_l_take (spD K mg (p_l_take).length (C i_l_take))
  l_names : FnOk P w K mg base (L2.CX P w) k T.a_l_names T.f_l_names p_l_names (spD K mg (p_l_names).length (C i_l_names))
  l_number : FnOk P w K mg base (L2.CX P w) k T.a_l_number T.f_l_number p_l_number (spD K mg (p_l_number).length (C i_l_number))
  l_shuffle : FnOk P w K mg base (L2.CX P w) k T.a_l_shuffle T.f_l_shuffle p_l_shuffle (spD K mg (p_l_shuffle).length (C i_l_shuffle))
  l_thing : FnOk P w K mg base (L2.CX P w) k T.a_l_thing T.f_l_thing p_l_thing (spD K mg (p_l_thing).length (C i_l_thing))
  l_stack : FnOk P w K mg base (L2.CX P w) k T.a_l_stack T.f_l_stack p_l_stack (spD K mg (p_l_stack).length (C i_l_stack))
  l_word : FnOk P w K mg base (L2.CX P w) k T.a_l_word T.f_l_word p_l_word (spD K mg (p_l_word).length (C i_l_word))
  l_row : FnOk P w K mg base (L2.CX P w) k T.a_l_row T.f_l_row p_l_row (spD K mg (p_l_row).length (C i_l_row))
  l_shown : FnOk P w K mg base (L2.CX P w) k T.a_l_shown T.f_l_shown p_l_shown (spD K mg (p_l_shown).length (C i_l_shown))
  l_due : FnOk P w K mg base (L2.CX P w) k T.a_l_due T.f_l_due p_l_due (spD K mg (p_l_due).length (C i_l_due))
  l_right : FnOk P w K mg base (L2.CX P w) k T.a_l_right T.f_l_right p_l_right (spD K mg (p_l_right).length (C i_l_right))
  law : FnOk P w K mg base (L2.CX P w) k T.a_law T.f_law p_law (spD K mg (p_law).length (C i_law))
section
variable {P : Program} {w : World} {K : PySem.W.Frag} {mg : Str → Option Value} {base : Heap} {T : Tx K mg} {k : Nat} {C : Nat → List D → M D}
theorem sc_row_told : FnScope n_row_told p_row_told (defScope s_row_told) := ⟨rfl, rfl, rfl, by decide +kernel, rfl, by decide +kernel, by decide +kernel⟩
theorem ok_row_told (fu : Nat) (c : Cal P w K mg base T k C) : FnOk P w K mg base (L2.CX P w) (k + 1) T.a_row_told T.f_row_told p_row_told (spD K mg (p_row_told).length (runDef false 5 (b_row_told fu C))) := by
  refine' fn_okL (N := n_row_told) T.d_row_told.fn sc_row_told ?hB ?hS ?body
  case hB => conv => lhs; whnf
  case hS => conv => lhs; whnf
  case body =>
  intro cdv A outer s H E hr nd tk pw
  exact (ss_cons (s_for pw rfl (i_it (d_var 1)) (g_tup (gs_cons 2 (gs_cons 3 (gs_cons 4 gs_nil)))) (pg_tup rfl (pgs_cons (pg_name (i := 2) nd rfl (by first | exact Or.inl rfl | exact Or.inr rfl)) (pgs_cons (pg_name (i := 3) nd rfl (by first | exact Or.inl rfl | exact Or.inr rfl)) (pgs_cons (pg_name (i := 4) nd rfl (by first | exact Or.inl rfl | exact Or.inr rfl)) pgs_nil)))) (ss_one (s_if (t_cmp (o_eq hr.units) (d_var 2) (d_var 0) (nomark _)) (ss_one (s_ret (d_var 4))) ss_nil)))
 (ss_one (s_ret d_non)))
theorem sc_thing_in_place : FnScope n_thing_in_place p_thing_in_place (defScope s_thing_in_place) := ⟨rfl, rfl, rfl, by decide +kernel, rfl, by decide +kernel, by decide +kernel⟩
theorem ok_thing_in_place (fu : Nat) (c : Cal P w K mg base T k C) : FnOk P w K mg base (L2.CX P w) (k + 1) T.a_thing_in_place T.f_thing_in_place p_thing_in_place (spD K mg (p_thing_in_place).length (runDef false 4 (b_thing_in_place fu C))) := by
  refine' fn_okL (N := n_thing_in_place) T.d_thing_in_place.fn sc_thing_in_place ?hB ?hS ?body
  case hB => conv => lhs; whnf
  case hS => conv => lhs; whnf
  case body =>
  intro cdv A outer s H E hr nd tk pw
  exact (ss_cons (s_if (t_cmp (o_eq hr.units) (d_ix (d_var 0) d_int) d_str (nomark _)) (ss_one (s_ret (d_tup (a_cons d_str (a_cons (d_call c.words_in_place hr rfl T.d_words_in_place.mg T.d_words_in_place.fn.kp T.d_words_in_place.bi tk (a_cons (d_ix (d_var 0) d_int) (a_cons (d_var 1) (a_cons (d_var 2) a_nil)))) a_nil))))) ss_nil)
 (ss_cons (s_if (t_cmp (o_eq hr.units) (d_ix (d_var 0) d_int) d_str (nomark _)) (ss_one (s_ret (d_tup (a_cons d_str (a_cons (d_callTy c_tuple (by rfl) T.z_tuple (by decide +kernel) (a_cons (d_comp rfl nd (i_it (d_ix (d_var 0) d_int)) (blkOk_by (own := [("one", 3)]) (N := n_thing_in_place) (sc := defScope s_thing_in_place) (by decide +kernel)) rfl (g_name 3) (by decide) (fun _ _ _ _ _ => (pg_name (i := 3) nd rfl (by first | exact Or.inl rfl | exact Or.inr rfl))) (fun _ _ _ _ _ => ts_nil) (fun _ _ _ _ _ => (d_call c.thing_in_place hr rfl T.d_thing_in_place.mg T.d_thing_in_place.fn.kp T.d_thing_in_place.bi takes0 (a_cons (d_var 3) (a_cons (d_var 1) (a_cons (d_var 2) a_nil)))))) a_nil)) a_nil))))) ss_nil)
 (ss_one (s_ret (d_var 0)))))
theorem sc_words_in_place : FnScope n_words_in_place p_words_in_place (defScope s_words_in_place) := ⟨rfl, rfl, rfl, by decide +kernel, rfl, by decide +kernel, by decide +kernel⟩
theorem ok_words_in_place (fu : Nat) (c : Cal P w K mg base T k C) : FnOk P w K mg base (L2.CX P w) (k + 1) T.a_words_in_place T.f_words_in_place p_words_in_place (spD K mg (p_words_in_place).length (runDef false 5 (b_words_in_place fu C))) := by
  refine' fn_okL (N := n_words_in_place) T.d_words_in_place.fn sc_words_in_place ?hB ?hS ?body
  case hB => conv => lhs; whnf
  case hS => conv => lhs; whnf
  case body =>
  intro cdv A outer s H E hr nd tk pw
  exact (ss_cons (s_set 3 nd (d_tup a_nil))
 (ss_cons (s_for pw rfl (i_it (d_var 0)) (g_name 4) (pg_name (i := 4) nd rfl (by first | exact Or.inl rfl | exact Or.inr rfl)) (ss_one (s_if (t_cmp (o_eq hr.units) (d_var 4) (d_var 1) (nomark _)) (ss_one (s_set 3 nd (d_bin o_add (d_var 3) (d_var 2)))) (ss_one (s_if (t_truth (d_isi "str" rfl T.z_isinstance (d_var 4) rfl T.z_str (by decide +kernel) (by decide))) (ss_one (s_set 3 nd (d_bin o_add (d_var 3) (d_tup (a_cons (d_var 4) a_nil))))) (ss_one (s_set 3 nd (d_bin o_add (d_var 3) (d_tup (a_cons (d_tup (a_cons d_str (a_cons (d_call c.thing_in_place hr rfl T.d_thing_in_place.mg T.d_thing_in_place.fn.kp T.d_thing_in_place.bi tk (a_cons (d_ix (d_var 4) d_int) (a_cons (d_var 1) (a_cons (d_var 2) a_nil)))) a_nil))) a_nil))))))))))
 (ss_one (s_ret (d_var 3)))))
theorem sc_in_place : FnScope n_in_place p_in_place (defScope s_in_place) := ⟨rfl, rfl, rfl, by decide +kernel, rfl, by decide +kernel, by decide +kernel⟩
theorem ok_in_place (fu : Nat) (c : Cal P w K mg base T k C) : FnOk P w K mg base (L2.CX P w) (k + 1) T.a_in_place T.f_in_place p_in_place (spD K mg (p_in_place).length (runDef false 3 (b_in_place fu C))) := by
  refine' fn_okL (N := n_in_place) T.d_in_place.fn sc_in_place ?hB ?hS ?body
  case hB => conv => lhs; whnf
  case hS => conv => lhs; whnf
  case body =>
  intro cdv A outer s H E hr nd tk pw
  exact (ss_one (s_ret (d_call c.words_in_place hr rfl T.d_words_in_place.mg T.d_words_in_place.fn.kp T.d_words_in_place.bi tk (a_cons (d_var 0) (a_cons (d_var 1) (a_cons (d_call c.row_told hr rfl T.d_row_told.mg T.d_row_told.fn.kp T.d_row_told.bi tk (a_cons (d_var 1) (a_cons (d_var 2) a_nil))) a_nil))))))
theorem sc_stack_in_place : FnScope n_stack_in_place p_stack_in_place (defScope s_stack_in_place) := ⟨rfl, rfl, rfl, by decide +kernel, rfl, by decide +kernel, by decide +kernel⟩
theorem ok_stack_in_place (fu : Nat) (c : Cal P w K mg base T k C) : FnOk P w K mg base (L2.CX P w) (k + 1) T.a_stack_in_place T.f_stack_in_place p_stack_in_place (spD K mg (p_stack_in_place).length (runDef false 4 (b_stack_in_place fu C))) := by
  refine' fn_okL (N := n_stack_in_place) T.d_stack_in_place.fn sc_stack_in_place ?hB ?hS ?body
  case hB => conv => lhs; whnf
  case hS => conv => lhs; whnf
  case body =>
  intro cdv A outer s H E hr nd tk pw
  exact (ss_one (s_ret (d_callTy c_tuple (by rfl) T.z_tuple (by decide +kernel) (a_cons (d_comp rfl nd (i_it (d_var 0)) (blkOk_by (own := [("thing", 3)]) (N := n_stack_in_place) (sc := defScope s_stack_in_place) (by decide +kernel)) rfl (g_name 3) (by decide) (fun _ _ _ _ _ => (pg_name (i := 3) nd rfl (by first | exact Or.inl rfl | exact Or.inr rfl))) (fun _ _ _ _ _ => ts_nil) (fun _ _ _ _ _ => (d_call c.thing_in_place hr rfl T.d_thing_in_place.mg T.d_thing_in_place.fn.kp T.d_thing_in_place.bi takes0 (a_cons (d_var 3) (a_cons (d_var 1) (a_cons (d_call c.row_told hr rfl T.d_row_told.mg T.d_row_told.fn.kp T.d_row_told.bi takes0 (a_cons (d_var 1) (a_cons (d_var 2) a_nil))) a_nil)))))) a_nil))))
theorem sc_is_shuffle : FnScope n_is_shuffle p_is_shuffle (defScope s_is_shuffle) := ⟨rfl, rfl, rfl, by decide +kernel, rfl, by decide +kernel, by decide +kernel⟩
theorem ok_is_shuffle (fu : Nat) (c : Cal P w K mg base T k C) : FnOk P w K mg base (L2.CX P w) (k + 1) T.a_is_shuffle T.f_is_shuffle p_is_shuffle (spD K mg (p_is_shuffle).length (runDef false 3 (b_is_shuffle fu C))) := by
  refine' fn_okL (N := n_is_shuffle) T.d_is_shuffle.fn sc_is_shuffle ?hB ?hS ?body
  case hB => conv => lhs; whnf
  case hS => conv => lhs; whnf
  case body =>
  intro cdv A outer s H E hr nd tk pw
  exact (ss_cons (s_if (t_not (t_truth (d_isi "str" rfl T.z_isinstance (d_var 0) rfl T.z_str (by decide +kernel) (by decide)))) (ss_one (s_ret d_bl)) ss_nil)
 (ss_cons (s_set 1 nd (d_meth PySem.F.plainAttrs_str PySem.F.slot_str_split PySem.F.type_str_split (m_split false) (d_var 0) (a_cons d_str a_nil)))
 (ss_cons (s_if (PW.pt (w_or (t_cmp (o_ne hr.units) (d_callB c_len (by rfl) T.z_len (by decide +kernel) (a_cons (d_var 1) a_nil)) d_int (nomark _)) (w_or (t_cmp o_gt (d_callB c_len (by rfl) T.z_len (by decide +kernel) (a_cons (d_ix (d_var 1) d_int) a_nil)) (d_globv T.c_MOST_LEFT) (nomark _)) (w_one_or (t_cmp (o_ne hr.units) (d_ix (d_var 1) d_int) (d_slice false (d_globv T.c_LETTERS) o_none (o_some (d_callB c_len (by rfl) T.z_len (by decide +kernel) (a_cons (d_ix (d_var 1) d_int) a_nil)))) (nomark _)))))) (ss_one (s_ret d_bl)) ss_nil)
 (ss_one (s_ret (d_callB (c_all rfl) (by rfl) T.z_all (by decide +kernel) (a_cons (d_comp rfl nd (i_it (d_ix (d_var 1) d_int)) (blkOk_by (own := [("sign", 2)]) (N := n_is_shuffle) (sc := defScope s_is_shuffle) (by decide +kernel)) rfl (g_name 2) (by decide) (fun _ _ _ _ _ => (pg_name (i := 2) nd rfl (by first | exact Or.inl rfl | exact Or.inr rfl))) (fun _ _ _ _ _ => ts_nil) (fun _ _ _ _ _ => (d_cmp o_in (d_var 2) (d_ix (d_var 1) d_int) (by rfl)))) a_nil)))))))
theorem sc_is_number : FnScope n_is_number p_is_number (defScope s_is_number) := ⟨rfl, rfl, rfl, by decide +kernel, rfl, by decide +kernel, by decide +kernel⟩
theorem ok_is_number (fu : Nat) (c : Cal P w K mg base T k C) : FnOk P w K mg base (L2.CX P w) (k + 1) T.a_is_number T.f_is_number p_is_number (spD K mg (p_is_number).length (runDef false 1 (b_is_number fu C))) := by
  refine' fn_okL (N := n_is_number) T.d_is_number.fn sc_is_number ?hB ?hS ?body
  case hB => conv => lhs; whnf
  case hS => conv => lhs; whnf
  case body =>
  intro cdv A outer s H E hr nd tk pw
  exact (ss_one (s_ret (d_and (d_isi "int" rfl T.z_isinstance (d_var 0) rfl T.z_int (by decide +kernel) (by decide)) (d_and (d_not (d_isi "bool" rfl T.z_isinstance (d_var 0) rfl T.z_bool (by decide +kernel) (by decide))) (d_one (d_chain o_le o_lt d_int (d_var 0) (d_globv T.c_NUMBERS) (by with_unfolding_all rfl)))))))
theorem sc_is_name : FnScope n_is_name p_is_name (defScope s_is_name) := ⟨rfl, rfl, rfl, by decide +kernel, rfl, by decide +kernel, by decide +kernel⟩
theorem ok_is_name (fu : Nat) (c : Cal P w K mg base T k C) : FnOk P w K mg base (L2.CX P w) (k + 1) T.a_is_name T.f_is_name p_is_name (spD K mg (p_is_name).length (runDef false 2 (b_is_name fu C))) := by
  refine' fn_okL (N := n_is_name) T.d_is_name.fn sc_is_name ?hB ?hS ?body
  case hB => conv => lhs; whnf
  case hS => conv => lhs; whnf
  case body =>
  intro cdv A outer s H E hr nd tk pw
  exact (ss_cons (s_if (PW.pt (w_or (t_not (t_truth (d_isi "str" rfl T.z_isinstance (d_var 0) rfl T.z_str (by decide +kernel) (by decide)))) (w_or (t_not (t_chain o_le o_le d_int (d_callB c_len (by rfl) T.z_len (by decide +kernel) (a_cons (d_var 0) a_nil)) (d_globv T.c_MOST_SIGNS) (by with_unfolding_all rfl))) (w_one_or (t_cmp o_in (d_var 0) (d_globv T.c_BASICS) (by rfl)))))) (ss_one (s_ret d_bl)) ss_nil)
 (ss_one (s_ret (d_callB (c_all rfl) (by rfl) T.z_all (by decide +kernel) (a_cons (d_comp rfl nd (i_it (d_var 0)) (blkOk_by (own := [("sign", 1)]) (N := n_is_name) (sc := defScope s_is_name) (by decide +kernel)) rfl (g_name 1) (by decide) (fun _ _ _ _ _ => (pg_name (i := 1) nd rfl (by first | exact Or.inl rfl | exact Or.inr rfl))) (fun _ _ _ _ _ => ts_nil) (fun _ _ _ _ _ => (d_cmp o_in (d_var 1) (d_globv T.c_SMALL) (by rfl)))) a_nil)))))
theorem sc_is_thing : FnScope n_is_thing p_is_thing (defScope s_is_thing) := ⟨rfl, rfl, rfl, by decide +kernel, rfl, by decide +kernel, by decide +kernel⟩
theorem ok_is_thing (fu : Nat) (c : Cal P w K mg base T k C) : FnOk P w K mg base (L2.CX P w) (k + 1) T.a_is_thing T.f_is_thing p_is_thing (spD K mg (p_is_thing).length (runDef false 1 (b_is_thing fu C))) := by
  refine' fn_okL (N := n_is_thing) T.d_is_thing.fn sc_is_thing ?hB ?hS ?body
  case hB => conv => lhs; whnf
  case hS => conv => lhs; whnf
  case body =>
  intro cdv A outer s H E hr nd tk pw
  exact (ss_cons (s_if (PW.pt (w_or (t_not (t_truth (d_isi "tuple" rfl T.z_isinstance (d_var 0) rfl T.z_tuple (by decide +kernel) (by decide)))) (w_or (t_cmp (o_ne hr.units) (d_callB c_len (by rfl) T.z_len (by decide +kernel) (a_cons (d_var 0) a_nil)) d_int (nomark _)) (w_one_or (t_not (t_truth (d_isi "str" rfl T.z_isinstance (d_ix (d_var 0) d_int) rfl T.z_str (by decide +kernel) (by decide)))))))) (ss_one (s_ret d_bl)) ss_nil)
 (ss_cons (s_if (t_cmp (o_eq hr.units) (d_ix (d_var 0) d_int) d_str (nomark _)) (ss_one (s_ret (d_call c.is_number hr rfl T.d_is_number.mg T.d_is_number.fn.kp T.d_is_number.bi tk (a_cons (d_ix (d_var 0) d_int) a_nil)))) ss_nil)
 (ss_cons (s_if (t_cmp (o_eq hr.units) (d_ix (d_var 0) d_int) d_str (nomark _)) (ss_one (s_ret (d_call c.is_row hr rfl T.d_is_row.mg T.d_is_row.fn.kp T.d_is_row.bi tk (a_cons (d_ix (d_var 0) d_int) a_nil)))) ss_nil)
 (ss_one (s_ret (d_and (d_cmp (o_eq hr.units) (d_ix (d_var 0) d_int) d_str (nomark _)) (d_one (d_call c.is_stack hr rfl T.d_is_stack.mg T.d_is_stack.fn.kp T.d_is_stack.bi tk (a_cons (d_ix (d_var 0) d_int) a_nil)))))))))
theorem sc_is_word : FnScope n_is_word p_is_word (defScope s_is_word) := ⟨rfl, rfl, rfl, by decide +kernel, rfl, by decide +kernel, by decide +kernel⟩
theorem ok_is_word (fu : Nat) (c : Cal P w K mg base T k C) : FnOk P w K mg base (L2.CX P w) (k + 1) T.a_is_word T.f_is_word p_is_word (spD K mg (p_is_word).length (runDef false 1 (b_is_word fu C))) := by
  refine' fn_okL (N := n_is_word) T.d_is_word.fn sc_is_word ?hB ?hS ?body
  case hB => conv => lhs; whnf
  case hS => conv => lhs; whnf
  case body =>
  intro cdv A outer s H E hr nd tk pw
  exact (ss_cons (s_if (t_truth (d_isi "str" rfl T.z_isinstance (d_var 0) rfl T.z_str (by decide +kernel) (by decide))) (ss_one (s_ret (d_or (d_cmp o_in (d_var 0) (d_globv T.c_BASICS) (by rfl)) (d_or (d_call c.is_name hr rfl T.d_is_name.mg T.d_is_name.fn.kp T.d_is_name.bi tk (a_cons (d_var 0) a_nil)) (d_one (d_call c.is_shuffle hr rfl T.d_is_shuffle.mg T.d_is_shuffle.fn.kp T.d_is_shuffle.bi tk (a_cons (d_var 0) a_nil))))))) ss_nil)
 (ss_cons (s_if (PW.pt (w_or (t_not (t_truth (d_isi "tuple" rfl T.z_isinstance (d_var 0) rfl T.z_tuple (by decide +kernel) (by decide)))) (w_or (t_cmp (o_ne hr.units) (d_callB c_len (by rfl) T.z_len (by decide +kernel) (a_cons (d_var 0) a_nil)) d_int (nomark _)) (w_one_or (t_not (t_truth (d_isi "str" rfl T.z_isinstance (d_ix (d_var 0) d_int) rfl T.z_str (by decide +kernel) (by decide)))))))) (ss_one (s_ret d_bl)) ss_nil)
 (ss_one (s_ret (d_and (d_cmp (o_eq hr.units) (d_ix (d_var 0) d_int) d_str (nomark _)) (d_one (d_call c.is_thing hr rfl T.d_is_thing.mg T.d_is_thing.fn.kp T.d_is_thing.bi tk (a_cons (d_ix (d_var 0) d_int) a_nil))))))))
theorem sc_is_row : FnScope n_is_row p_is_row (defScope s_is_row) := ⟨rfl, rfl, rfl, by decide +kernel, rfl, by decide +kernel, by decide +kernel⟩
theorem ok_is_row (fu : Nat) (c : Cal P w K mg base T k C) : FnOk P w K mg base (L2.CX P w) (k + 1) T.a_is_row T.f_is_row p_is_row (spD K mg (p_is_row).length (runDef false 2 (b_is_row fu C))) := by
  refine' fn_okL (N := n_is_row) T.d_is_row.fn sc_is_row ?hB ?hS ?body
  case hB => conv => lhs; whnf
  case hS => conv => lhs; whnf
  case body =>
  intro cdv A outer s H E hr nd tk pw
  exact (ss_one (s_ret (d_and (d_isi "tuple" rfl T.z_isinstance (d_var 0) rfl T.z_tuple (by decide +kernel) (by decide)) (d_one (d_callB (c_all rfl) (by rfl) T.z_all (by decide +kernel) (a_cons (d_comp rfl nd (i_it (d_var 0)) (blkOk_by (own := [("word", 1)]) (N := n_is_row) (sc := defScope s_is_row) (by decide +kernel)) rfl (g_name 1) (by decide) (fun _ _ _ _ _ => (pg_name (i := 1) nd rfl (by first | exact Or.inl rfl | exact Or.inr rfl))) (fun _ _ _ _ _ => ts_nil) (fun _ _ _ _ _ => (d_call c.is_word hr rfl T.d_is_word.mg T.d_is_word.fn.kp T.d_is_word.bi takes0 (a_cons (d_var 1) a_nil)))) a_nil))))))
theorem sc_is_stack : FnScope n_is_stack p_is_stack (defScope s_is_stack) := ⟨rfl, rfl, rfl, by decide +kernel, rfl, by decide +kernel, by decide +kernel⟩
theorem ok_is_stack (fu : Nat) (c : Cal P w K mg base T k C) : FnOk P w K mg base (L2.CX P w) (k + 1) T.a_is_stack T.f_is_stack p_is_stack (spD K mg (p_is_stack).length (runDef false 2 (b_is_stack fu C))) := by
  refine' fn_okL (N := n_is_stack) T.d_is_stack.fn sc_is_stack ?hB ?hS ?body
  case hB => conv => lhs; whnf
  case hS => conv => lhs; whnf
  case body =>
  intro cdv A outer s H E hr nd tk pw
  exact (ss_one (s_ret (d_and (d_isi "tuple" rfl T.z_isinstance (d_var 0) rfl T.z_tuple (by decide +kernel) (by decide)) (d_one (d_callB (c_all rfl) (by rfl) T.z_all (by decide +kernel) (a_cons (d_comp rfl nd (i_it (d_var 0)) (blkOk_by (own := [("one", 1)]) (N := n_is_stack) (sc := defScope s_is_stack) (by decide +kernel)) rfl (g_name 1) (by decide) (fun _ _ _ _ _ => (pg_name (i := 1) nd rfl (by first | exact Or.inl rfl | exact Or.inr rfl))) (fun _ _ _ _ _ => ts_nil) (fun _ _ _ _ _ => (d_call c.is_thing hr rfl T.d_is_thing.mg T.d_is_thing.fn.kp T.d_is_thing.bi takes0 (a_cons (d_var 1) a_nil)))) a_nil))))))
theorem sc_l_mixed : FnScope n_l_mixed p_l_mixed (defScope s_l_mixed) := ⟨rfl, rfl, rfl, by decide +kernel, rfl, by decide +kernel, by decide +kernel⟩
theorem ok_l_mixed (fu : Nat) (c : Cal P w K mg base T k C) : FnOk P w K mg base (L2.CX P w) (k + 1) T.a_l_mixed T.f_l_mixed p_l_mixed (spD K mg (p_l_mixed).length (runDef false 3 (b_l_mixed fu C))) := by
  refine' fn_okL (N := n_l_mixed) T.d_l_mixed.fn sc_l_mixed ?hB ?hS ?body
  case hB => conv => lhs; whnf
  case hS => conv => lhs; whnf
  case body =>
  intro cdv A outer s H E hr nd tk pw
  exact (ss_cons (s_set 2 nd (d_bin o_mod (d_bin o_mul (d_bin o_add (d_bin o_add (d_bin o_mod (d_var 0) d_int) (d_bin o_mul d_int (d_var 1))) d_int) d_int) d_int))
 (ss_cons (s_set 2 nd (d_bin o_mod (d_bin o_add (d_bin o_add (d_bin o_mul (d_var 2) (d_var 2)) (d_bin o_mul d_int (d_var 1))) d_int) d_int))
 (ss_one (s_ret (d_bin o_add (d_bin o_mul (d_var 2) d_int) (d_bin o_mod (d_bin o_add (d_bin o_add (d_bin o_mul (d_var 2) (d_var 2)) (d_bin o_mul d_int (d_var 2))) (d_var 1)) d_int))))))
theorem sc_l_deck : FnScope n_l_deck p_l_deck (defScope s_l_deck) := ⟨rfl, rfl, rfl, by decide +kernel, rfl, by decide +kernel, by decide +kernel⟩
theorem ok_l_deck (fu : Nat) (c : Cal P w K mg base T k C) : FnOk P w K mg base (L2.CX P w) (k + 1) T.a_l_deck T.f_l_deck p_l_deck (spD K mg (p_l_deck).length (runDef true 1 (b_l_deck fu C))) := by
  refine' fn_okL (N := n_l_deck) T.d_l_deck.fn sc_l_deck ?hB ?hS ?body
  case hB => conv => lhs; whnf
  case hS => conv => lhs; whnf
  case body =>
  intro cdv A outer s H E hr nd tk pw
  exact (ss_one (s_ret (d_lstM (a_cons (d_listRev true rfl rfl T.z_list rfl T.z_reversed (d_slice false (d_var 0) o_none (o_some d_int))) (a_cons (d_bin o_add (d_callB (c_sum rfl) (by rfl) T.z_sum (by decide +kernel) (a_cons (d_slice false (d_var 0) o_none (o_some d_int)) a_nil)) (d_callB c_len (by rfl) T.z_len (by decide +kernel) (a_cons (d_slice false (d_var 0) o_none (o_some d_int)) a_nil))) (a_cons d_int a_nil))))))
theorem sc_l_take : FnScope n_l_take p_l_take (defScope s_l_take) := ⟨rfl, rfl, rfl, by decide +kernel, rfl, by decide +kernel, by decide +kernel⟩
theorem ok_l_take (fu : Nat) (c : Cal P w K mg base T k C) : FnOk P w K mg base (L2.CX P w) (k + 1) T.a_l_take T.f_l_take p_l_take (spD K mg (p_l_take).length (runDef false 4 (b_l_take fu C))) := by
  refine' fn_okL (N := n_l_take) T.d_l_take.fn sc_l_take ?hB ?hS ?body
  case hB => conv => lhs; whnf
  case hS => conv => lhs; whnf
  case body =>
  intro cdv A outer s H E hr nd tk pw
  exact (ss_cons (s_set 2 nd (d_ix (d_var 0) d_int))
 (ss_cons (s_sub (d_bin o_add (d_ix (d_var 0) d_int) d_int) (d_var 0) d_int)
 (ss_cons (s_if (t_cmp (o_eq hr.units) (d_var 2) (d_lst a_nil) (nomark _)) (ss_one (s_ret (d_bin o_mod (d_call c.l_mixed hr rfl T.d_l_mixed.mg T.d_l_mixed.fn.kp T.d_l_mixed.bi tk (a_cons (d_ix (d_var 0) d_int) (a_cons (d_ix (d_var 0) d_int) a_nil))) (d_var 1)))) ss_nil)
 (ss_cons (s_set 3 nd (d_meth0 PySem.F.plainAttrs_list PySem.F.slot_list_pop PySem.F.type_list_pop m_pop (d_var 2)))
 (ss_cons (s_if (t_cmp o_lt (d_var 3) (d_bin o_pow d_int d_int) (nomark _)) (ss_one (s_ret (d_bin o_mod (d_call c.l_mixed hr rfl T.d_l_mixed.mg T.d_l_mixed.fn.kp T.d_l_mixed.bi tk (a_cons (d_var 3) (a_cons (d_ix (d_var 0) d_int) a_nil))) (d_var 1)))) ss_nil)
 (ss_cons (s_if (t_cmp o_gt (d_bin o_div (d_var 3) (d_var 1)) d_int (nomark _)) (ss_one (s_expr (d_meth PySem.F.plainAttrs_list PySem.F.slot_list_append PySem.F.type_list_append m_append (d_var 2) (a_cons (d_bin o_div (d_var 3) (d_var 1)) a_nil)))) ss_nil)
 (ss_one (s_ret (d_bin o_mod (d_var 3) (d_var 1))))))))))
theorem sc_l_names : FnScope n_l_names p_l_names (defScope s_l_names) := ⟨rfl, rfl, rfl, by decide +kernel, rfl, by decide +kernel, by decide +kernel⟩
theorem ok_l_names (fu : Nat) (c : Cal P w K mg base T k C) : FnOk P w K mg base (L2.CX P w) (k + 1) T.a_l_names T.f_l_names p_l_names (spD K mg (p_l_names).length (runDef false 8 (b_l_names fu C))) := by
  refine' fn_okL (N := n_l_names) T.d_l_names.fn sc_l_names ?hB ?hS ?body
  case hB => conv => lhs; whnf
  case hS => conv => lhs; whnf
  case body =>
  intro cdv A outer s H E hr nd tk pw
  exact (ss_cons (s_set 2 nd d_str)
 (ss_cons (s_set 3 nd (d_lst (a_cons d_str (a_cons d_str (a_cons d_str (a_cons d_str (a_cons d_str (a_cons d_str (a_cons d_str (a_cons d_str (a_cons d_str (a_cons d_str (a_cons d_str (a_cons d_str a_nil))))))))))))))
 (ss_cons (s_set 4 nd (d_call c.l_take hr rfl T.d_l_take.mg T.d_l_take.fn.kp T.d_l_take.bi tk (a_cons (d_var 0) (a_cons d_int a_nil))))
 (ss_cons (s_set 5 nd (d_bin o_add (d_slice false (d_var 3) (o_some (d_var 4)) o_none) (d_slice false (d_var 3) o_none (o_some (d_var 4)))))
 (ss_cons (s_set 6 nd (d_meth PySem.F.plainAttrs_str PySem.F.slot_str_join PySem.F.type_str_join m_join d_str (a_cons (d_comp rfl nd (i_range1 rfl T.z_range (a_cons d_int a_nil)) (blkOk_by (own := [("_law_k", 7)]) (N := n_l_names) (sc := defScope s_l_names) (by decide +kernel)) rfl (g_name 7) (by decide) (fun _ _ _ _ _ => (pg_name (i := 7) nd rfl (by first | exact Or.inl rfl | exact Or.inr rfl))) (fun _ _ _ _ _ => ts_nil) (fun _ _ _ _ _ => (d_ix (d_var 2) (d_call c.l_take hr rfl T.d_l_take.mg T.d_l_take.fn.kp T.d_l_take.bi takes0 (a_cons (d_var 0) (a_cons d_int a_nil)))))) a_nil)))
 (ss_cons (s_if (t_cmp (o_eq hr.units) (d_call c.l_take hr rfl T.d_l_take.mg T.d_l_take.fn.kp T.d_l_take.bi tk (a_cons (d_var 0) (a_cons d_int a_nil))) d_int (nomark _)) (ss_one (s_setLc 5 rfl nd (i_range1 rfl T.z_range (a_cons d_int a_nil)) (blkOk_by (own := [("_law_k", 7)]) (N := n_l_names) (sc := defScope s_l_names) (by decide +kernel)) rfl (g_name 7) (by decide) (fun _ _ _ _ _ => (pg_name (i := 7) nd rfl (by first | exact Or.inl rfl | exact Or.inr rfl))) (fun _ _ _ _ _ => ts_nil) (fun _ _ _ _ _ => (d_bin o_add d_str (d_slice false (d_var 6) o_none (o_some (d_var 7))))))) ss_nil)
 (ss_one (s_ret (d_slice false (d_var 5) o_none (o_some (d_var 1)))))))))))
theorem sc_l_number : FnScope n_l_number p_l_number (defScope s_l_number) := ⟨rfl, rfl, rfl, by decide +kernel, rfl, by decide +kernel, by decide +kernel⟩
theorem ok_l_number (fu : Nat) (c : Cal P w K mg base T k C) : FnOk P w K mg base (L2.CX P w) (k + 1) T.a_l_number T.f_l_number p_l_number (spD K mg (p_l_number).length (runDef false 2 (b_l_number fu C))) := by
  refine' fn_okL (N := n_l_number) T.d_l_number.fn sc_l_number ?hB ?hS ?body
  case hB => conv => lhs; whnf
  case hS => conv => lhs; whnf
  case body =>
  intro cdv A outer s H E hr nd tk pw
  exact (ss_cons (s_set 1 nd (d_lst (a_cons d_int (a_cons d_int (a_cons d_int (a_cons (d_call c.l_take hr rfl T.d_l_take.mg T.d_l_take.fn.kp T.d_l_take.bi tk (a_cons (d_var 0) (a_cons d_int a_nil))) (a_cons (d_bin o_sub (d_bin o_pow d_int d_int) d_int) (a_cons (d_call c.l_take hr rfl T.d_l_take.mg T.d_l_take.fn.kp T.d_l_take.bi tk (a_cons (d_var 0) (a_cons (d_bin o_pow d_int d_int) a_nil))) a_nil))))))))
 (ss_one (s_ret (d_ix (d_var 1) (d_call c.l_take hr rfl T.d_l_take.mg T.d_l_take.fn.kp T.d_l_take.bi tk (a_cons (d_var 0) (a_cons d_int a_nil)))))))
theorem sc_l_shuffle : FnScope n_l_shuffle p_l_shuffle (defScope s_l_shuffle) := ⟨rfl, rfl, rfl, by decide +kernel, rfl, by decide +kernel, by decide +kernel⟩
theorem ok_l_shuffle (fu : Nat) (c : Cal P w K mg base T k C) : FnOk P w K mg base (L2.CX P w) (k + 1) T.a_l_shuffle T.f_l_shuffle p_l_shuffle (spD K mg (p_l_shuffle).length (runDef false 4 (b_l_shuffle fu C))) := by
  refine' fn_okL (N := n_l_shuffle) T.d_l_shuffle.fn sc_l_shuffle ?hB ?hS ?body
  case hB => conv => lhs; whnf
  case hS => conv => lhs; whnf
  case body =>
  intro cdv A outer s H E hr nd tk pw
  exact (ss_cons (s_set 1 nd (d_slice false d_str o_none (o_some (d_ix (d_lst (a_cons (d_call c.l_take hr rfl T.d_l_take.mg T.d_l_take.fn.kp T.d_l_take.bi tk (a_cons (d_var 0) (a_cons d_int a_nil))) (a_cons (d_call c.l_take hr rfl T.d_l_take.mg T.d_l_take.fn.kp T.d_l_take.bi tk (a_cons (d_var 0) (a_cons d_int a_nil))) a_nil))) (d_callTy c_int (by rfl) T.z_int (by decide +kernel) (a_cons (d_cmp (o_eq hr.units) (d_call c.l_take hr rfl T.d_l_take.mg T.d_l_take.fn.kp T.d_l_take.bi tk (a_cons (d_var 0) (a_cons d_int a_nil))) d_int (nomark _)) a_nil))))))
 (ss_cons (s_set 2 nd (d_bin o_mul (d_ix (d_lst (a_cons (d_call c.l_take hr rfl T.d_l_take.mg T.d_l_take.fn.kp T.d_l_take.bi tk (a_cons (d_var 0) (a_cons d_int a_nil))) (a_cons (d_call c.l_take hr rfl T.d_l_take.mg T.d_l_take.fn.kp T.d_l_take.bi tk (a_cons (d_var 0) (a_cons d_int a_nil))) a_nil))) (d_callTy c_int (by rfl) T.z_int (by decide +kernel) (a_cons (d_cmp (o_eq hr.units) (d_call c.l_take hr rfl T.d_l_take.mg T.d_l_take.fn.kp T.d_l_take.bi tk (a_cons (d_var 0) (a_cons d_int a_nil))) d_int (nomark _)) a_nil))) (d_callTy c_int (by rfl) T.z_int (by decide +kernel) (a_cons (d_cmp (o_ne hr.units) (d_var 1) d_str (nomark _)) a_nil))))
 (ss_one (s_ret (d_bin o_add (d_bin o_add (d_var 1) d_str) (d_meth PySem.F.plainAttrs_str PySem.F.slot_str_join PySem.F.type_str_join m_join d_str (a_cons (d_comp rfl nd (i_range1 rfl T.z_range (a_cons (d_var 2) a_nil)) (blkOk_by (own := [("_law_k", 3)]) (N := n_l_shuffle) (sc := defScope s_l_shuffle) (by decide +kernel)) rfl (g_name 3) (by decide) (fun _ _ _ _ _ => (pg_name (i := 3) nd rfl (by first | exact Or.inl rfl | exact Or.inr rfl))) (fun _ _ _ _ _ => ts_nil) (fun _ _ _ _ _ => (d_ix (d_var 1) (d_call c.l_take hr rfl T.d_l_take.mg T.d_l_take.fn.kp T.d_l_take.bi takes0 (a_cons (d_var 0) (a_cons (d_callB c_len (by rfl) T.z_len (by decide +kernel) (a_cons (d_var 1) a_nil)) a_nil)))))) a_nil)))))))
theorem sc_l_thing : FnScope n_l_thing p_l_thing (defScope s_l_thing) := ⟨rfl, rfl, rfl, by decide +kernel, rfl, by decide +kernel, by decide +kernel⟩
theorem ok_l_thing (fu : Nat) (c : Cal P w K mg base T k C) : FnOk P w K mg base (L2.CX P w) (k + 1) T.a_l_thing T.f_l_thing p_l_thing (spD K mg (p_l_thing).length (runDef false 5 (b_l_thing fu C))) := by
  refine' fn_okL (N := n_l_thing) T.d_l_thing.fn sc_l_thing ?hB ?hS ?body
  case hB => conv => lhs; whnf
  case hS => conv => lhs; whnf
  case body =>
  intro cdv A outer s H E hr nd tk pw
  exact (ss_cons (s_set 4 nd (d_call c.l_take hr rfl T.d_l_take.mg T.d_l_take.fn.kp T.d_l_take.bi tk (a_cons (d_var 0) (a_cons d_int a_nil))))
 (ss_cons (s_if (PW.pt (w_or (t_cmp (o_eq hr.units) (d_var 2) d_int (nomark _)) (w_one_or (t_cmp o_lt (d_var 4) d_int (nomark _))))) (ss_one (s_ret (d_tup (a_cons d_str (a_cons (d_call c.l_number hr rfl T.d_l_number.mg T.d_l_number.fn.kp T.d_l_number.bi tk (a_cons (d_var 0) a_nil)) a_nil))))) ss_nil)
 (ss_cons (s_if (t_cmp (o_eq hr.units) (d_var 4) d_int (nomark _)) (ss_one (s_ret (d_tup (a_cons d_str (a_cons (d_call c.l_row hr rfl T.d_l_row.mg T.d_l_row.fn.kp T.d_l_row.bi tk (a_cons (d_var 0) (a_cons (d_var 1) (a_cons (d_bin o_sub (d_var 2) d_int) (a_cons (d_var 3) a_nil))))) a_nil))))) ss_nil)
 (ss_one (s_ret (d_tup (a_cons d_str (a_cons (d_call c.l_stack hr rfl T.d_l_stack.mg T.d_l_stack.fn.kp T.d_l_stack.bi tk (a_cons (d_var 0) (a_cons (d_var 1) (a_cons (d_bin o_sub (d_var 2) d_int) (a_cons (d_var 3) a_nil))))) a_nil))))))))
theorem sc_l_stack : FnScope n_l_stack p_l_stack (defScope s_l_stack) := ⟨rfl, rfl, rfl, by decide +kernel, rfl, by decide +kernel, by decide +kernel⟩
theorem ok_l_stack (fu : Nat) (c : Cal P w K mg base T k C) : FnOk P w K mg base (L2.CX P w) (k + 1) T.a_l_stack T.f_l_stack p_l_stack (spD K mg (p_l_stack).length (runDef false 6 (b_l_stack fu C))) := by
  refine' fn_okL (N := n_l_stack) T.d_l_stack.fn sc_l_stack ?hB ?hS ?body
  case hB => conv => lhs; whnf
  case hS => conv => lhs; whnf
  case body =>
  intro cdv A outer s H E hr nd tk pw
  exact (ss_cons (s_set 4 nd (d_lstM a_nil))
 (ss_cons (s_for pw rfl (i_range1 rfl T.z_range (a_cons (d_call c.l_take hr rfl T.d_l_take.mg T.d_l_take.fn.kp T.d_l_take.bi tk (a_cons (d_var 0) (a_cons (d_ix (d_lst (a_cons d_int (a_cons d_int a_nil))) (d_callTy c_int (by rfl) T.z_int (by decide +kernel) (a_cons (d_cmp (o_eq hr.units) (d_call c.l_take hr rfl T.d_l_take.mg T.d_l_take.fn.kp T.d_l_take.bi tk (a_cons (d_var 0) (a_cons d_int a_nil))) d_int (nomark _)) a_nil))) a_nil))) a_nil)) (g_name 5) (pg_name (i := 5) nd rfl (by first | exact Or.inl rfl | exact Or.inr rfl)) (ss_one (s_if (t_cmp o_gt (d_ix (d_var 3) d_int) d_int (nomark _)) (ss_cons (s_sub (d_bin o_sub (d_ix (d_var 3) d_int) d_int) (d_var 3) d_int)
 (ss_one (s_expr (d_meth PySem.F.plainAttrs_list PySem.F.slot_list_append PySem.F.type_list_append m_append (d_var 4) (a_cons (d_call c.l_thing hr rfl T.d_l_thing.mg T.d_l_thing.fn.kp T.d_l_thing.bi tk (a_cons (d_var 0) (a_cons (d_var 1) (a_cons (d_var 2) (a_cons (d_var 3) a_nil))))) a_nil))))) ss_nil)))
 (ss_one (s_ret (d_callTy c_tuple (by rfl) T.z_tuple (by decide +kernel) (a_cons (d_var 4) a_nil))))))
theorem sc_l_word : FnScope n_l_word p_l_word (defScope s_l_word) := ⟨rfl, rfl, rfl, by decide +kernel, rfl, by decide +kernel, by decide +kernel⟩
theorem ok_l_word (fu : Nat) (c : Cal P w K mg base T k C) : FnOk P w K mg base (L2.CX P w) (k + 1) T.a_l_word T.f_l_word p_l_word (spD K mg (p_l_word).length (runDef false 6 (b_l_word fu C))) := by
  refine' fn_okL (N := n_l_word) T.d_l_word.fn sc_l_word ?hB ?hS ?body
  case hB => conv => lhs; whnf
  case hS => conv => lhs; whnf
  case body =>
  intro cdv A outer s H E hr nd tk pw
  exact (ss_cons (s_set 4 nd (d_meth PySem.F.plainAttrs_str PySem.F.slot_str_split PySem.F.type_str_split (m_split false) d_str (a_cons d_str a_nil)))
 (ss_cons (s_sub (d_bin o_sub (d_ix (d_var 3) d_int) d_int) (d_var 3) d_int)
 (ss_cons (s_set 5 nd (d_call c.l_take hr rfl T.d_l_take.mg T.d_l_take.fn.kp T.d_l_take.bi tk (a_cons (d_var 0) (a_cons d_int a_nil))))
 (ss_cons (s_if (t_cmp o_lt (d_var 5) d_int (nomark _)) (ss_one (s_ret (d_ix (d_var 4) (d_call c.l_take hr rfl T.d_l_take.mg T.d_l_take.fn.kp T.d_l_take.bi tk (a_cons (d_var 0) (a_cons d_int a_nil)))))) ss_nil)
 (ss_cons (s_if (t_cmp (o_eq hr.units) (d_var 5) d_int (nomark _)) (ss_one (s_ret (d_call c.l_shuffle hr rfl T.d_l_shuffle.mg T.d_l_shuffle.fn.kp T.d_l_shuffle.bi tk (a_cons (d_var 0) a_nil)))) ss_nil)
 (ss_cons (s_if (t_cmp (o_eq hr.units) (d_var 5) d_int (nomark _)) (ss_one (s_ret (d_ix (d_var 1) (d_call c.l_take hr rfl T.d_l_take.mg T.d_l_take.fn.kp T.d_l_take.bi tk (a_cons (d_var 0) (a_cons (d_callB c_len (by rfl) T.z_len (by decide +kernel) (a_cons (d_var 1) a_nil)) a_nil)))))) ss_nil)
 (ss_one (s_ret (d_tup (a_cons d_str (a_cons (d_call c.l_thing hr rfl T.d_l_thing.mg T.d_l_thing.fn.kp T.d_l_thing.bi tk (a_cons (d_var 0) (a_cons (d_var 1) (a_cons (d_var 2) (a_cons (d_var 3) a_nil))))) a_nil)))))))))))
theorem sc_l_row : FnScope n_l_row p_l_row (defScope s_l_row) := ⟨rfl, rfl, rfl, by decide +kernel, rfl, by decide +kernel, by decide +kernel⟩
theorem ok_l_row (fu : Nat) (c : Cal P w K mg base T k C) : FnOk P w K mg base (L2.CX P w) (k + 1) T.a_l_row T.f_l_row p_l_row (spD K mg (p_l_row).length (runDef false 6 (b_l_row fu C))) := by
  refine' fn_okL (N := n_l_row) T.d_l_row.fn sc_l_row ?hB ?hS ?body
  case hB => conv => lhs; whnf
  case hS => conv => lhs; whnf
  case body =>
  intro cdv A outer s H E hr nd tk pw
  exact (ss_cons (s_set 4 nd (d_lstM a_nil))
 (ss_cons (s_for pw rfl (i_range1 rfl T.z_range (a_cons (d_call c.l_take hr rfl T.d_l_take.mg T.d_l_take.fn.kp T.d_l_take.bi tk (a_cons (d_var 0) (a_cons (d_ix (d_lst (a_cons d_int (a_cons d_int a_nil))) (d_callTy c_int (by rfl) T.z_int (by decide +kernel) (a_cons (d_cmp (o_eq hr.units) (d_call c.l_take hr rfl T.d_l_take.mg T.d_l_take.fn.kp T.d_l_take.bi tk (a_cons (d_var 0) (a_cons d_int a_nil))) d_int (nomark _)) a_nil))) a_nil))) a_nil)) (g_name 5) (pg_name (i := 5) nd rfl (by first | exact Or.inl rfl | exact Or.inr rfl)) (ss_one (s_if (t_cmp o_gt (d_ix (d_var 3) d_int) d_int (nomark _)) (ss_one (s_expr (d_meth PySem.F.plainAttrs_list PySem.F.slot_list_append PySem.F.type_list_append m_append (d_var 4) (a_cons (d_call c.l_word hr rfl T.d_l_word.mg T.d_l_word.fn.kp T.d_l_word.bi tk (a_cons (d_var 0) (a_cons (d_var 1) (a_cons (d_var 2) (a_cons (d_var 3) a_nil))))) a_nil)))) ss_nil)))
 (ss_one (s_ret (d_callTy c_tuple (by rfl) T.z_tuple (by decide +kernel) (a_cons (d_var 4) a_nil))))))
theorem sc_l_shown : FnScope n_l_shown p_l_shown (defScope s_l_shown) := ⟨rfl, rfl, rfl, by decide +kernel, rfl, by decide +kernel, by decide +kernel⟩
theorem ok_l_shown (fu : Nat) (c : Cal P w K mg base T k C) : FnOk P w K mg base (L2.CX P w) (k + 1) T.a_l_shown T.f_l_shown p_l_shown (spD K mg (p_l_shown).length (runDef false 6 (b_l_shown fu C))) := by
  refine' fn_okL (N := n_l_shown) T.d_l_shown.fn sc_l_shown ?hB ?hS ?body
  case hB => conv => lhs; whnf
  case hS => conv => lhs; whnf
  case body =>
  intro cdv A outer s H E hr nd tk pw
  exact (ss_cons (s_set 2 nd (d_lstM a_nil))
 (ss_cons (s_setLcM 3 rfl nd (i_rev rfl T.z_reversed (d_var 0)) (blkOk_by (own := [("_law_part", 4)]) (N := n_l_shown) (sc := defScope s_l_shown) (by decide +kernel)) rfl (g_name 4) (by decide) (fun _ _ _ _ _ => (pg_name (i := 4) nd rfl (by first | exact Or.inl rfl | exact Or.inr rfl))) (fun _ _ _ _ _ => ts_nil) (fun _ _ _ _ _ => (d_var 4)))
 (ss_cons (s_while fu pw (t_cmp (o_ne hr.units) (d_var 3) (d_lst a_nil) (nomark _)) (ss_cons (s_set 4 nd (d_meth0 PySem.F.plainAttrs_list PySem.F.slot_list_pop PySem.F.type_list_pop m_pop (d_var 3)))
 (ss_one (s_if (t_truth (d_isi "str" rfl T.z_isinstance (d_var 4) rfl T.z_str (by decide +kernel) (by decide))) (ss_one (s_expr (d_meth PySem.F.plainAttrs_list PySem.F.slot_list_append PySem.F.type_list_append m_append (d_var 2) (a_cons (d_var 4) a_nil)))) (ss_one (s_if (t_cmp (o_eq hr.units) (d_ix (d_var 4) d_int) d_str (nomark _)) (ss_one (s_expr (d_meth PySem.F.plainAttrs_list PySem.F.slot_list_append PySem.F.type_list_append m_append (d_var 3) (a_cons (d_ix (d_var 4) d_int) a_nil)))) (ss_one (s_if (t_cmp (o_eq hr.units) (d_ix (d_var 4) d_int) d_str (nomark _)) (ss_one (s_expr (d_meth PySem.F.plainAttrs_list PySem.F.slot_list_append PySem.F.type_list_append m_append (d_var 2) (a_cons (d_callTy c_str (by rfl) T.z_str (by decide +kernel) (a_cons (d_ix (d_var 4) d_int) a_nil)) a_nil)))) (ss_cons (s_expr (d_meth PySem.F.plainAttrs_list PySem.F.slot_list_append PySem.F.type_list_append m_append (d_var 2) (a_cons (d_ix (d_lst (a_cons d_str (a_cons d_str a_nil))) (d_callTy c_int (by rfl) T.z_int (by decide +kernel) (a_cons (d_cmp (o_eq hr.units) (d_ix (d_var 4) d_int) d_str (nomark _)) a_nil))) a_nil)))
 (ss_cons (s_expr (d_meth PySem.F.plainAttrs_list PySem.F.slot_list_append PySem.F.type_list_append m_append (d_var 3) (a_cons (d_ix (d_lst (a_cons d_str (a_cons d_str a_nil))) (d_callTy c_int (by rfl) T.z_int (by decide +kernel) (a_cons (d_cmp (o_eq hr.units) (d_ix (d_var 4) d_int) d_str (nomark _)) a_nil))) a_nil)))
 (ss_one (s_set 3 nd (d_bin o_addM (d_var 3) (d_comp rfl nd (i_rev rfl T.z_reversed (d_ix (d_var 4) d_int)) (blkOk_by (own := [("_law_inner", 5)]) (N := n_l_shown) (sc := defScope s_l_shown) (by decide +kernel)) rfl (g_name 5) (by decide) (fun _ _ _ _ _ => (pg_name (i := 5) nd rfl (by first | exact Or.inl rfl | exact Or.inr rfl))) (fun _ _ _ _ _ => ts_nil) (fun _ _ _ _ _ => (d_var 5))))))))))))))))
 (ss_one (s_ret (d_meth PySem.F.plainAttrs_str PySem.F.slot_str_join PySem.F.type_str_join m_join d_str (a_cons (d_var 2) a_nil)))))))
theorem sc_l_due : FnScope n_l_due p_l_due (defScope s_l_due) := ⟨rfl, rfl, rfl, by decide +kernel, rfl, by decide +kernel, by decide +kernel⟩
theorem ok_l_due (fu : Nat) (c : Cal P w K mg base T k C) : FnOk P w K mg base (L2.CX P w) (k + 1) T.a_l_due T.f_l_due p_l_due (spD K mg (p_l_due).length (runDef false 5 (b_l_due fu C))) := by
  refine' fn_okL (N := n_l_due) T.d_l_due.fn sc_l_due ?hB ?hS ?body
  case hB => conv => lhs; whnf
  case hS => conv => lhs; whnf
  case body =>
  intro cdv A outer s H E hr nd tk pw
  exact (ss_cons (s_set 3 nd (d_lstM a_nil))
 (ss_cons (s_for pw rfl (i_it (d_meth PySem.F.plainAttrs_str PySem.F.slot_str_split PySem.F.type_str_split (m_split false) (d_var 0) (a_cons d_str a_nil))) (g_name 4) (pg_name (i := 4) nd rfl (by first | exact Or.inl rfl | exact Or.inr rfl)) (ss_one (s_if (PW.pt (w_and (t_cmp (o_eq hr.units) (d_var 4) (d_var 1) (nomark _)) (w_one_and (t_cmp (o_ne hr.units) (d_var 2) d_str (nomark _))))) (ss_one (s_set 3 nd (d_bin o_addM (d_var 3) (d_meth PySem.F.plainAttrs_str PySem.F.slot_str_split PySem.F.type_str_split (m_split false) (d_var 2) (a_cons d_str a_nil))))) (ss_one (s_if (t_cmp (o_ne hr.units) (d_var 4) (d_var 1) (nomark _)) (ss_one (s_expr (d_meth PySem.F.plainAttrs_list PySem.F.slot_list_append PySem.F.type_list_append m_append (d_var 3) (a_cons (d_var 4) a_nil)))) ss_nil)))))
 (ss_one (s_ret (d_meth PySem.F.plainAttrs_str PySem.F.slot_str_join PySem.F.type_str_join m_join d_str (a_cons (d_var 3) a_nil))))))
theorem sc_l_right : FnScope n_l_right p_l_right (defScope s_l_right) := ⟨rfl, rfl, rfl, by decide +kernel, rfl, by decide +kernel, by decide +kernel⟩
theorem ok_l_right (fu : Nat) (c : Cal P w K mg base T k C) : FnOk P w K mg base (L2.CX P w) (k + 1) T.a_l_right T.f_l_right p_l_right (spD K mg (p_l_right).length (runDef false 11 (b_l_right fu C))) := by
  refine' fn_okL (N := n_l_right) T.d_l_right.fn sc_l_right ?hB ?hS ?body
  case hB => conv => lhs; whnf
  case hS => conv => lhs; whnf
  case body =>
  intro cdv A outer s H E hr nd tk pw
  exact (ss_cons (s_setLc 4 rfl nd (i_it (d_var 3)) (blkOk_by (own := [("_law_other", 8), ("_law_kind", 9), ("_law_inner", 10)]) (N := n_l_right) (sc := defScope s_l_right) (by decide +kernel)) rfl (g_tup (gs_cons 8 (gs_cons 9 (gs_cons 10 gs_nil)))) (by decide) (fun _ _ _ _ _ => (pg_tup rfl (pgs_cons (pg_name (i := 8) nd rfl (by first | exact Or.inl rfl | exact Or.inr rfl)) (pgs_cons (pg_name (i := 9) nd rfl (by first | exact Or.inl rfl | exact Or.inr rfl)) (pgs_cons (pg_name (i := 10) nd rfl (by first | exact Or.inl rfl | exact Or.inr rfl)) pgs_nil))))) (fun _ _ _ _ _ => ts_one (t_cmp (o_eq hr.units) (d_var 8) (d_var 2) (nomark _))) (fun _ _ _ _ _ => (d_var 10)))
 (ss_cons (s_set 5 nd (d_call c.l_shown hr rfl T.d_l_shown.mg T.d_l_shown.fn.kp T.d_l_shown.bi tk (a_cons (d_ix (d_var 4) d_int) (a_cons d_bl a_nil))))
 (ss_cons (s_set 6 nd (d_call c.in_place hr rfl T.d_in_place.mg T.d_in_place.fn.kp T.d_in_place.bi tk (a_cons (d_var 0) (a_cons (d_var 2) (a_cons (d_var 3) a_nil)))))
 (ss_cons (s_set 7 nd (d_call c.stack_in_place hr rfl T.d_stack_in_place.mg T.d_stack_in_place.fn.kp T.d_stack_in_place.bi tk (a_cons (d_var 1) (a_cons (d_var 2) (a_cons (d_var 3) a_nil)))))
 (ss_cons (s_if (PW.pt (w_or (t_cmp o_isnot (d_call c.is_row hr rfl T.d_is_row.mg T.d_is_row.fn.kp T.d_is_row.bi tk (a_cons (d_var 6) a_nil)) d_bl (nomark _)) (w_one_or (t_cmp o_isnot (d_call c.is_stack hr rfl T.d_is_stack.mg T.d_is_stack.fn.kp T.d_is_stack.bi tk (a_cons (d_var 7) a_nil)) d_bl (nomark _))))) (ss_one (s_ret d_bl)) ss_nil)
 (ss_cons (s_if (t_cmp (o_ne hr.units) (d_call c.l_shown hr rfl T.d_l_shown.mg T.d_l_shown.fn.kp T.d_l_shown.bi tk (a_cons (d_var 6) (a_cons d_bl a_nil))) (d_call c.l_due hr rfl T.d_l_due.mg T.d_l_due.fn.kp T.d_l_due.bi tk (a_cons (d_call c.l_shown hr rfl T.d_l_shown.mg T.d_l_shown.fn.kp T.d_l_shown.bi tk (a_cons (d_var 0) (a_cons d_bl a_nil))) (a_cons (d_var 2) (a_cons (d_var 5) a_nil)))) (nomark _)) (ss_one (s_ret d_bl)) ss_nil)
 (ss_cons (s_if (t_cmp (o_ne hr.units) (d_call c.l_shown hr rfl T.d_l_shown.mg T.d_l_shown.fn.kp T.d_l_shown.bi tk (a_cons (d_var 7) (a_cons d_bl a_nil))) (d_call c.l_due hr rfl T.d_l_due.mg T.d_l_due.fn.kp T.d_l_due.bi tk (a_cons (d_call c.l_shown hr rfl T.d_l_shown.mg T.d_l_shown.fn.kp T.d_l_shown.bi tk (a_cons (d_var 1) (a_cons d_bl a_nil))) (a_cons (d_var 2) (a_cons (d_var 5) a_nil)))) (nomark _)) (ss_one (s_ret d_bl)) ss_nil)
 (ss_cons (s_if (t_cmp (o_ne hr.units) (d_call c.in_place hr rfl T.d_in_place.mg T.d_in_place.fn.kp T.d_in_place.bi tk (a_cons (d_var 6) (a_cons (d_var 2) (a_cons (d_var 3) a_nil)))) (d_var 6) (nomark _)) (ss_one (s_ret d_bl)) ss_nil)
 (ss_one (s_ret (d_cmp (o_eq hr.units) (d_call c.stack_in_place hr rfl T.d_stack_in_place.mg T.d_stack_in_place.fn.kp T.d_stack_in_place.bi tk (a_cons (d_var 7) (a_cons (d_var 2) (a_cons (d_var 3) a_nil)))) (d_var 7) (nomark _))))))))))))
theorem sc_law : FnScope n_law p_law (defScope s_law) := ⟨rfl, rfl, rfl, by decide +kernel, rfl, by decide +kernel, by decide +kernel⟩
theorem ok_law (fu : Nat) (c : Cal P w K mg base T k C) : FnOk P w K mg base (L2.CX P w) (k + 1) T.a_law T.f_law p_law (spD K mg (p_law).length (runDef false 17 (b_law fu C))) := by
  refine' fn_okL (N := n_law) T.d_law.fn sc_law ?hB ?hS ?body
  case hB => conv => lhs; whnf
  case hS => conv => lhs; whnf
  case body =>
  intro cdv A outer s H E hr nd tk pw
  exact (ss_cons (s_set 1 nd (d_call c.l_deck hr rfl T.d_l_deck.mg T.d_l_deck.fn.kp T.d_l_deck.bi tk (a_cons (d_var 0) a_nil)))
 (ss_cons (s_set 2 nd (d_call c.l_names hr rfl T.d_l_names.mg T.d_l_names.fn.kp T.d_l_names.bi tk (a_cons (d_var 1) (a_cons (d_bin o_add d_int (d_call c.l_take hr rfl T.d_l_take.mg T.d_l_take.fn.kp T.d_l_take.bi tk (a_cons (d_var 1) (a_cons d_int a_nil)))) a_nil))))
 (ss_cons (s_set 3 nd (d_tup a_nil))
 (ss_cons (s_for pw rfl (i_range1 rfl T.z_range (a_cons (d_callB c_len (by rfl) T.z_len (by decide +kernel) (a_cons (d_var 2) a_nil)) a_nil)) (g_name 4) (pg_name (i := 4) nd rfl (by first | exact Or.inl rfl | exact Or.inr rfl)) (ss_cons (s_set 5 nd (d_call c.l_row hr rfl T.d_l_row.mg T.d_l_row.fn.kp T.d_l_row.bi tk (a_cons (d_var 1) (a_cons (d_bin o_add (d_slice false (d_var 2) o_none (o_some (d_var 4))) (d_lst (a_cons d_str a_nil))) (a_cons d_int (a_cons (d_lstM (a_cons d_int a_nil)) a_nil))))))
 (ss_one (s_set 3 nd (d_bin o_add (d_var 3) (d_tup (a_cons (d_tup (a_cons (d_ix (d_var 2) (d_var 4)) (a_cons d_non (a_cons (d_var 5) a_nil)))) a_nil)))))))
 (ss_cons (s_for pw rfl (i_range1 rfl T.z_range (a_cons d_int a_nil)) (g_name 4) (pg_name (i := 4) nd rfl (by first | exact Or.inl rfl | exact Or.inr rfl)) (ss_cons (s_set 6 nd (d_call c.l_row hr rfl T.d_l_row.mg T.d_l_row.fn.kp T.d_l_row.bi tk (a_cons (d_var 1) (a_cons (d_var 2) (a_cons d_int (a_cons (d_lstM (a_cons d_int a_nil)) a_nil))))))
 (ss_cons (s_set 7 nd (d_call c.l_stack hr rfl T.d_l_stack.mg T.d_l_stack.fn.kp T.d_l_stack.bi tk (a_cons (d_var 1) (a_cons (d_var 2) (a_cons d_int (a_cons (d_lstM (a_cons d_int a_nil)) a_nil))))))
 (ss_cons (s_for pw rfl (i_it (d_var 2)) (g_name 8) (pg_name (i := 8) nd rfl (by first | exact Or.inl rfl | exact Or.inr rfl)) (ss_one (s_if (t_not (t_truth (d_call c.l_right hr rfl T.d_l_right.mg T.d_l_right.fn.kp T.d_l_right.bi tk (a_cons (d_var 6) (a_cons (d_var 7) (a_cons (d_var 8) (a_cons (d_var 3) a_nil))))))) (ss_one (s_ret d_bl)) ss_nil)))
 (ss_cons (s_set 9 nd (d_ix (d_var 2) (d_un o_neg d_int)))
 (ss_cons (s_setLc 10 rfl nd (i_it (d_var 3)) (blkOk_by (own := [("_law_other", 15), ("_law_kind", 16), ("_law_inner", 5)]) (N := n_law) (sc := defScope s_law) (by decide +kernel)) rfl (g_tup (gs_cons 15 (gs_cons 16 (gs_cons 5 gs_nil)))) (by decide) (fun _ _ _ _ _ => (pg_tup rfl (pgs_cons (pg_name (i := 15) nd rfl (by first | exact Or.inl rfl | exact Or.inr rfl)) (pgs_cons (pg_name (i := 16) nd rfl (by first | exact Or.inl rfl | exact Or.inr rfl)) (pgs_cons (pg_name (i := 5) nd rfl (by first | exact Or.inl rfl | exact Or.inr rfl)) pgs_nil))))) (fun _ _ _ _ _ => ts_nil) (fun _ _ _ _ _ => (d_call c.l_shown hr rfl T.d_l_shown.mg T.d_l_shown.fn.kp T.d_l_shown.bi takes0 (a_cons (d_var 5) (a_cons d_bl a_nil)))))
 (ss_cons (s_set 11 nd (d_call c.l_due hr rfl T.d_l_due.mg T.d_l_due.fn.kp T.d_l_due.bi tk (a_cons (d_call c.l_shown hr rfl T.d_l_shown.mg T.d_l_shown.fn.kp T.d_l_shown.bi tk (a_cons (d_var 6) (a_cons d_bl a_nil))) (a_cons (d_var 9) (a_cons (d_ix (d_var 10) (d_un o_neg d_int)) a_nil)))))
 (ss_cons (s_set 11 nd (d_call c.l_due hr rfl T.d_l_due.mg T.d_l_due.fn.kp T.d_l_due.bi tk (a_cons (d_var 11) (a_cons (d_ix (d_var 2) d_int) (a_cons (d_ix (d_var 10) d_int) a_nil)))))
 (ss_one (s_if (t_cmp o_lt (d_callB c_len (by rfl) T.z_len (by decide +kernel) (a_cons (d_meth PySem.F.plainAttrs_str PySem.F.slot_str_split PySem.F.type_str_split (m_split false) (d_var 11) (a_cons d_str a_nil)) a_nil)) d_int (nomark _)) (ss_cons (s_set 12 nd (d_call c.in_place hr rfl T.d_in_place.mg T.d_in_place.fn.kp T.d_in_place.bi tk (a_cons (d_call c.in_place hr rfl T.d_in_place.mg T.d_in_place.fn.kp T.d_in_place.bi tk (a_cons (d_var 6) (a_cons (d_var 9) (a_cons (d_var 3) a_nil)))) (a_cons (d_ix (d_var 2) d_int) (a_cons (d_var 3) a_nil)))))
 (ss_cons (s_set 13 nd (d_call c.in_place hr rfl T.d_in_place.mg T.d_in_place.fn.kp T.d_in_place.bi tk (a_cons (d_var 6) (a_cons (d_ix (d_var 2) d_int) (a_cons (d_var 3) a_nil)))))
 (ss_cons (s_set 14 nd (d_call c.in_place hr rfl T.d_in_place.mg T.d_in_place.fn.kp T.d_in_place.bi tk (a_cons (d_var 13) (a_cons (d_var 9) (a_cons (d_var 3) a_nil)))))
 (ss_one (s_if (t_cmp (o_ne hr.units) (d_call c.in_place hr rfl T.d_in_place.mg T.d_in_place.fn.kp T.d_in_place.bi tk (a_cons (d_var 14) (a_cons (d_ix (d_var 2) d_int) (a_cons (d_var 3) a_nil)))) (d_var 12) (nomark _)) (ss_one (s_ret d_bl)) ss_nil))))) ss_nil))))))))))
 (ss_one (s_ret (d_and (d_cmp (o_eq hr.units) (d_call c.in_place hr rfl T.d_in_place.mg T.d_in_place.fn.kp T.d_in_place.bi tk (a_cons (d_tup a_nil) (a_cons (d_ix (d_var 2) d_int) (a_cons (d_var 3) a_nil)))) (d_tup a_nil) (nomark _)) (d_one (d_cmp (o_eq hr.units) (d_call c.stack_in_place hr rfl T.d_stack_in_place.mg T.d_stack_in_place.fn.kp T.d_stack_in_place.bi tk (a_cons (d_tup a_nil) (a_cons (d_ix (d_var 2) d_int) (a_cons (d_var 3) a_nil)))) (d_tup a_nil) (nomark _)))))))))))
theorem cal (fu : Nat) : ∀ n : Nat, Cal P w K mg base T n (den fu n)
  | 0 => ⟨fn_zero, fn_zero, fn_zero, fn_zero, fn_zero, fn_zero, fn_zero, fn_zero, fn_zero, fn_zero, fn_zero, fn_zero, fn_zero, fn_zero, fn_zero, fn_zero, fn_zero, fn_zero, fn_zero, fn_zero, fn_zero, fn_zero, fn_zero, fn_zero, fn_zero, fn_zero⟩
  | n + 1 => ⟨ok_row_told fu (cal fu n), ok_thing_in_place fu (cal fu n), ok_words_in_place fu (cal fu n), ok_in_place fu (cal fu n), ok_stack_in_place fu (cal fu n), ok_is_shuffle fu (cal fu n), ok_is_number fu (cal fu n), ok_is_name fu (cal fu n), ok_is_thing fu (cal fu n), ok_is_word fu (cal fu n), ok_is_row fu (cal fu n), ok_is_stack fu (cal fu n), ok_l_mixed fu (cal fu n), ok_l_deck fu (cal fu n), ok_l_take fu (cal fu n), ok_l_names fu (cal fu n), ok_l_number fu (cal fu n), ok_l_shuffle fu (cal fu n), ok_l_thing fu (cal fu n), ok_l_stack fu (cal fu n), ok_l_word fu (cal fu n), ok_l_row fu (cal fu n), ok_l_shown fu (cal fu n), ok_l_due fu (cal fu n), ok_l_right fu (cal fu n), ok_law fu (cal fu n)⟩
end
end K69

namespace K69
open PySem L2 PyProof.Rows DL
def txMk {K : PySem.W.Frag} {h : Heap} {mg : Str → Option Value} (X : K.In h) (G : h.Ns mainGlobals mg)
    {f1 : Addr} {od1 an1 : Option Addr} {sl1 : Array (Option Value)} {oc1 kV1 dc1 pm1 cd1 ct1 : Value}
    {f2 : Addr} {od2 an2 : Option Addr} {sl2 : Array (Option Value)} {oc2 kV2 dc2 pm2 cd2 ct2 : Value}
    {f3 : Addr} {od3 an3 : Option Addr} {sl3 : Array (Option Value)} {oc3 kV3 dc3 pm3 cd3 ct3 : Value}
    {f4 : Addr} {od4 an4 : Option Addr} {sl4 : Array (Option Value)} {oc4 kV4 dc4 pm4 cd4 ct4 : Value}
    {f5 : Addr} {od5 an5 : Option Addr} {sl5 : Array (Option Value)} {oc5 kV5 dc5 pm5 cd5 ct5 : Value}
    {f6 : Addr} {od6 an6 : Option Addr} {sl6 : Array (Option Value)} {oc6 kV6 dc6 pm6 cd6 ct6 : Value}
    {f7 : Addr} {od7 an7 : Option Addr} {sl7 : Array (Option Value)} {oc7 kV7 dc7 pm7 cd7 ct7 : Value}
    {f8 : Addr} {od8 an8 : Option Addr} {sl8 : Array (Option Value)} {oc8 kV8 dc8 pm8 cd8 ct8 : Value}
    {f9 : Addr} {od9 an9 : Option Addr} {sl9 : Array (Option Value)} {oc9 kV9 dc9 pm9 cd9 ct9 : Value}
    {f10 : Addr} {od10 an10 : Option Addr} {sl10 : Array (Option Value)} {oc10 kV10 dc10 pm10 cd10 ct10 : Value}
    {f11 : Addr} {od11 an11 : Option Addr} {sl11 : Array (Option Value)} {oc11 kV11 dc11 pm11 cd11 ct11 : Value}
    {f12 : Addr} {od12 an12 : Option Addr} {sl12 : Array (Option Value)} {oc12 kV12 dc12 pm12 cd12 ct12 : Value}
    {f13 : Addr} {od13 an13 : Option Addr} {sl13 : Array (Option Value)} {oc13 kV13 dc13 pm13 cd13 ct13 : Value}
    {f14 : Addr} {od14 an14 : Option Addr} {sl14 : Array (Option Value)} {oc14 kV14 dc14 pm14 cd14 ct14 : Value}
    {f15 : Addr} {od15 an15 : Option Addr} {sl15 : Array (Option Value)} {oc15 kV15 dc15 pm15 cd15 ct15 : Value}
    {f16 : Addr} {od16 an16 : Option Addr} {sl16 : Array (Option Value)} {oc16 kV16 dc16 pm16 cd16 ct16 : Value}
    {f17 : Addr} {od17 an17 : Option Addr} {sl17 : Array (Option Value)} {oc17 kV17 dc17 pm17 cd17 ct17 : Value}
    {f18 : Addr} {od18 an18 : Option Addr} {sl18 : Array (Option Value)} {oc18 kV18 dc18 pm18 cd18 ct18 : Value}
    {f19 : Addr} {od19 an19 : Option Addr} {sl19 : Array (Option Value)} {oc19 kV19 dc19 pm19 cd19 ct19 : Value}
    {f20 : Addr} {od20 an20 : Option Addr} {sl20 : Array (Option Value)} {oc20 kV20 dc20 pm20 cd20 ct20 : Value}
    {f21 : Addr} {od21 an21 : Option Addr} {sl21 : Array (Option Value)} {oc21 kV21 dc21 pm21 cd21 ct21 : Value}
    {f22 : Addr} {od22 an22 : Option Addr} {sl22 : Array (Option Value)} {oc22 kV22 dc22 pm22 cd22 ct22 : Value}
    {f23 : Addr} {od23 an23 : Option Addr} {sl23 : Array (Option Value)} {oc23 kV23 dc23 pm23 cd23 ct23 : Value}
    {f24 : Addr} {od24 an24 : Option Addr} {sl24 : Array (Option Value)} {oc24 kV24 dc24 pm24 cd24 ct24 : Value}
    {f25 : Addr} {od25 an25 : Option Addr} {sl25 : Array (Option Value)} {oc25 kV25 dc25 pm25 cd25 ct25 : Value}
    {f26 : Addr} {od26 an26 : Option Addr} {sl26 : Array (Option Value)} {oc26 kV26 dc26 pm26 cd26 ct26 : Value}
    {b_BASICS : Addr} {t_BASICS0 t_BASICS1 t_BASICS2 t_BASICS3 t_BASICS4 t_BASICS5 t_BASICS6 t_BASICS7 t_BASICS8 t_BASICS9 t_BASICS10 t_BASICS11 t_BASICS12 t_BASICS13 t_BASICS14 : Tok} {m_BASICS : Nat} {dd_BASICS : Option Addr} {sl_BASICS : Array (Option Value)}
    {t_LETTERS : Tok}
    {t_MOST_LEFT : Tok}
    {t_MOST_SIGNS : Tok}
    {t_NUMBERS : Tok}
    {t_SMALL : Tok}
    (a1 : PySem.W.nsIn K mainGlobals "row_told" = some (some (.ref f1))) (l1 : K.lookup f1 = some ⟨oc1, od1, .func (PySem.W.fnOf "row_told" "row_told" (defArgs s_row_told) (defBody s_row_told) (defScope s_row_told) .none kV1 dc1 pm1 an1 cd1 ct1), sl1⟩) (c1 : PySem.W.codeIn K cd1 "row_told" = true) (k1 : PySem.W.keepIn K (.ref f1) = true)
    (a2 : PySem.W.nsIn K mainGlobals "thing_in_place" = some (some (.ref f2))) (l2 : K.lookup f2 = some ⟨oc2, od2, .func (PySem.W.fnOf "thing_in_place" "thing_in_place" (defArgs s_thing_in_place) (defBody s_thing_in_place) (defScope s_thing_in_place) .none kV2 dc2 pm2 an2 cd2 ct2), sl2⟩) (c2 : PySem.W.codeIn K cd2 "thing_in_place" = true) (k2 : PySem.W.keepIn K (.ref f2) = true)
    (a3 : PySem.W.nsIn K mainGlobals "words_in_place" = some (some (.ref f3))) (l3 : K.lookup f3 = some ⟨oc3, od3, .func (PySem.W.fnOf "words_in_place" "words_in_place" (defArgs s_words_in_place) (defBody s_words_in_place) (defScope s_words_in_place) .none kV3 dc3 pm3 an3 cd3 ct3), sl3⟩) (c3 : PySem.W.codeIn K cd3 "words_in_place" = true) (k3 : PySem.W.keepIn K (.ref f3) = true)
    (a4 : PySem.W.nsIn K mainGlobals "in_place" = some (some (.ref f4))) (l4 : K.lookup f4 = some ⟨oc4, od4, .func (PySem.W.fnOf "in_place" "in_place" (defArgs s_in_place) (defBody s_in_place) (defScope s_in_place) .none kV4 dc4 pm4 an4 cd4 ct4), sl4⟩) (c4 : PySem.W.codeIn K cd4 "in_place" = true) (k4 : PySem.W.keepIn K (.ref f4) = true)
    (a5 : PySem.W.nsIn K mainGlobals "stack_in_place" = some (some (.ref f5))) (l5 : K.lookup f5 = some ⟨oc5, od5, .func (PySem.W.fnOf "stack_in_place" "stack_in_place" (defArgs s_stack_in_place) (defBody s_stack_in_place) (defScope s_stack_in_place) .none kV5 dc5 pm5 an5 cd5 ct5), sl5⟩) (c5 : PySem.W.codeIn K cd5 "stack_in_place" = true) (k5 : PySem.W.keepIn K (.ref f5) = true)
    (a6 : PySem.W.nsIn K mainGlobals "is_shuffle" = some (some (.ref f6))) (l6 : K.lookup f6 = some ⟨oc6, od6, .func (PySem.W.fnOf "is_shuffle" "is_shuffle" (defArgs s_is_shuffle) (defBody s_is_shuffle) (defScope s_is_shuffle) .none kV6 dc6 pm6 an6 cd6 ct6), sl6⟩) (c6 : PySem.W.codeIn K cd6 "is_shuffle" = true) (k6 : PySem.W.keepIn K (.ref f6) = true)
    (a7 : PySem.W.nsIn K mainGlobals "is_number" = some (some (.ref f7))) (l7 : K.lookup f7 = some ⟨oc7, od7, .func (PySem.W.fnOf "is_number" "is_number" (defArgs s_is_number) (defBody s_is_number) (defScope s_is_number) .none kV7 dc7 pm7 an7 cd7 ct7), sl7⟩) (c7 : PySem.W.codeIn K cd7 "is_number" = true) (k7 : PySem.W.keepIn K (.ref f7) = true)
    (a8 : PySem.W.nsIn K mainGlobals "is_name" = some (some (.ref f8))) (l8 : K.lookup f8 = some ⟨oc8, od8, .func (PySem.W.fnOf "is_name" "is_name" (defArgs s_is_name) (defBody s_is_name) (defScope s_is_name) .none kV8 dc8 pm8 an8 cd8 ct8), sl8⟩) (c8 : PySem.W.codeIn K cd8 "is_name" = true) (k8 : PySem.W.keepIn K (.ref f8) = true)
    (a9 : PySem.W.nsIn K mainGlobals "is_thing" = some (some (.ref f9))) (l9 : K.lookup f9 = some ⟨oc9, od9, .func (PySem.W.fnOf "is_thing" "is_thing" (defArgs s_is_thing) (defBody s_is_thing) (defScope s_is_thing) .none kV9 dc9 pm9 an9 cd9 ct9), sl9⟩) (c9 : PySem.W.codeIn K cd9 "is_thing" = true) (k9 : PySem.W.keepIn K (.ref f9) = true)
    (a10 : PySem.W.nsIn K mainGlobals "is_word" = some (some (.ref f10))) (l10 : K.lookup f10 = some ⟨oc10, od10, .func (PySem.W.fnOf "is_word" "is_word" (defArgs s_is_word) (defBody s_is_word) (defScope s_is_word) .none kV10 dc10 pm10 an10 cd10 ct10), sl10⟩) (c10 : PySem.W.codeIn K cd10 "is_word" = true) (k10 : PySem.W.keepIn K (.ref f10) = true)
    (a11 : PySem.W.nsIn K mainGlobals "is_row" = some (some (.ref f11))) (l11 : K.lookup f11 = some ⟨oc11, od11, .func (PySem.W.fnOf "is_row" "is_row" (defArgs s_is_row) (defBody s_is_row) (defScope s_is_row) .none kV11 dc11 pm11 an11 cd11 ct11), sl11⟩) (c11 : PySem.W.codeIn K cd11 "is_row" = true) (k11 : PySem.W.keepIn K (.ref f11) = true)
    (a12 : PySem.W.nsIn K mainGlobals "is_stack" = some (some (.ref f12))) (l12 : K.lookup f12 = some ⟨oc12, od12, .func (PySem.W.fnOf "is_stack" "is_stack" (defArgs s_is_stack) (defBody s_is_stack) (defScope s_is_stack) .none kV12 dc12 pm12 an12 cd12 ct12), sl12⟩) (c12 : PySem.W.codeIn K cd12 "is_stack" = true) (k12 : PySem.W.keepIn K (.ref f12) = true)
    (a13 : PySem.W.nsIn K mainGlobals "_law_mixed" = some (some (.ref f13))) (l13 : K.lookup f13 = some ⟨oc13, od13, .func (PySem.W.fnOf "_law_mixed" "_law_mixed" (defArgs s_l_mixed) (defBody s_l_mixed) (defScope s_l_mixed) .none kV13 dc13 pm13 an13 cd13 ct13), sl13⟩) (c13 : PySem.W.codeIn K cd13 "_law_mixed" = true) (k13 : PySem.W.keepIn K (.ref f13) = true)
    (a14 : PySem.W.nsIn K mainGlobals "_law_deck" = some (some (.ref f14))) (l14 : K.lookup f14 = some ⟨oc14, od14, .func (PySem.W.fnOf "_law_deck" "_law_deck" (defArgs s_l_deck) (defBody s_l_deck) (defScope s_l_deck) .none kV14 dc14 pm14 an14 cd14 ct14), sl14⟩) (c14 : PySem.W.codeIn K cd14 "_law_deck" = true) (k14 : PySem.W.keepIn K (.ref f14) = true)
    (a15 : PySem.W.nsIn K mainGlobals "_law_take" = some (some (.ref f15))) (l15 : K.lookup f15 = some ⟨oc15, od15, .func (PySem.W.fnOf "_law_take" "_law_take" (defArgs s_l_take) (defBody s_l_take) (defScope s_l_take) .none kV15 dc15 pm15 an15 cd15 ct15), sl15⟩) (c15 : PySem.W.codeIn K cd15 "_law_take" = true) (k15 : PySem.W.keepIn K (.ref f15) = true)
    (a16 : PySem.W.nsIn K mainGlobals "_law_names" = some (some (.ref f16))) (l16 : K.lookup f16 = some ⟨oc16, od16, .func (PySem.W.fnOf "_law_names" "_law_names" (defArgs s_l_names) (defBody s_l_names) (defScope s_l_names) .none kV16 dc16 pm16 an16 cd16 ct16), sl16⟩) (c16 : PySem.W.codeIn K cd16 "_law_names" = true) (k16 : PySem.W.keepIn K (.ref f16) = true)
    (a17 : PySem.W.nsIn K mainGlobals "_law_number" = some (some (.ref f17))) (l17 : K.lookup f17 = some ⟨oc17, od17, .func (PySem.W.fnOf "_law_number" "_law_number" (defArgs s_l_number) (defBody s_l_number) (defScope s_l_number) .none kV17 dc17 pm17 an17 cd17 ct17), sl17⟩) (c17 : PySem.W.codeIn K cd17 "_law_number" = true) (k17 : PySem.W.keepIn K (.ref f17) = true)
    (a18 : PySem.W.nsIn K mainGlobals "_law_shuffle" = some (some (.ref f18))) (l18 : K.lookup f18 = some ⟨oc18, od18, .func (PySem.W.fnOf "_law_shuffle" "_law_shuffle" (defArgs s_l_shuffle) (defBody s_l_shuffle) (defScope s_l_shuffle) .none kV18 dc18 pm18 an18 cd18 ct18), sl18⟩) (c18 : PySem.W.codeIn K cd18 "_law_shuffle" = true) (k18 : PySem.W.keepIn K (.ref f18) = true)
    (a19 : PySem.W.nsIn K mainGlobals "_law_thing" = some (some (.ref f19))) (l19 : K.lookup f19 = some ⟨oc19, od19, .func (PySem.W.fnOf "_law_thing" "_law_thing" (defArgs s_l_thing) (defBody s_l_thing) (defScope s_l_thing) .none kV19 dc19 pm19 an19 cd19 ct19), sl19⟩) (c19 : PySem.W.codeIn K cd19 "_law_thing" = true) (k19 : PySem.W.keepIn K (.ref f19) = true)
    (a20 : PySem.W.nsIn K mainGlobals "_law_stack" = some (some (.ref f20))) (l20 : K.lookup f20 = some ⟨oc20, od20, .func (PySem.W.fnOf "_law_stack" "_law_stack" (defArgs s_l_stack) (defBody s_l_stack) (defScope s_l_stack) .none kV20 dc20 pm20 an20 cd20 ct20), sl20⟩) (c20 : PySem.W.codeIn K cd20 "_law_stack" = true) (k20 : PySem.W.keepIn K (.ref f20) = true)
    (a21 : PySem.W.nsIn K mainGlobals "_law_word" = some (some (.ref f21))) (l21 : K.lookup f21 = some ⟨oc21, od21, .func (PySem.W.fnOf "_law_word" "_law_word" (defArgs s_l_word) (defBody s_l_word) (defScope s_l_word) .none kV21 dc21 pm21 an21 cd21 ct21), sl21⟩) (c21 : PySem.W.codeIn K cd21 "_law_word" = true) (k21 : PySem.W.keepIn K (.ref f21) = true)
    (a22 : PySem.W.nsIn K mainGlobals "_law_row" = some (some (.ref f22))) (l22 : K.lookup f22 = some ⟨oc22, od22, .func (PySem.W.fnOf "_law_row" "_law_row" (defArgs s_l_row) (defBody s_l_row) (defScope s_l_row) .none kV22 dc22 pm22 an22 cd22 ct22), sl22⟩) (c22 : PySem.W.codeIn K cd22 "_law_row" = true) (k22 : PySem.W.keepIn K (.ref f22) = true)
    (a23 : PySem.W.nsIn K mainGlobals "_law_shown" = some (some (.ref f23))) (l23 : K.lookup f23 = some ⟨oc23, od23, .func (PySem.W.fnOf "_law_shown" "_law_shown" (defArgs s_l_shown) (defBody s_l_shown) (defScope s_l_shown) .none kV23 dc23 pm23 an23 cd23 ct23), sl23⟩) (c23 : PySem.W.codeIn K cd23 "_law_shown" = true) (k23 : PySem.W.keepIn K (.ref f23) = true)
    (a24 : PySem.W.nsIn K mainGlobals "_law_due" = some (some (.ref f24))) (l24 : K.lookup f24 = some ⟨oc24, od24, .func (PySem.W.fnOf "_law_due" "_law_due" (defArgs s_l_due) (defBody s_l_due) (defScope s_l_due) .none kV24 dc24 pm24 an24 cd24 ct24), sl24⟩) (c24 : PySem.W.codeIn K cd24 "_law_due" = true) (k24 : PySem.W.keepIn K (.ref f24) = true)
    (a25 : PySem.W.nsIn K mainGlobals "_law_right" = some (some (.ref f25))) (l25 : K.lookup f25 = some ⟨oc25, od25, .func (PySem.W.fnOf "_law_right" "_law_right" (defArgs s_l_right) (defBody s_l_right) (defScope s_l_right) .none kV25 dc25 pm25 an25 cd25 ct25), sl25⟩) (c25 : PySem.W.codeIn K cd25 "_law_right" = true) (k25 : PySem.W.keepIn K (.ref f25) = true)
    (a26 : PySem.W.nsIn K mainGlobals "law" = some (some (.ref f26))) (l26 : K.lookup f26 = some ⟨oc26, od26, .func (PySem.W.fnOf "law" "law" (defArgs s_law) (defBody s_law) (defScope s_law) .none kV26 dc26 pm26 an26 cd26 ct26), sl26⟩) (c26 : PySem.W.codeIn K cd26 "law" = true) (k26 : PySem.W.keepIn K (.ref f26) = true)
    (z_all : PySem.W.nsIn K mainGlobals "all" = some none)
    (z_bool : PySem.W.nsIn K mainGlobals "bool" = some none)
    (z_int : PySem.W.nsIn K mainGlobals "int" = some none)
    (z_isinstance : PySem.W.nsIn K mainGlobals "isinstance" = some none)
    (z_len : PySem.W.nsIn K mainGlobals "len" = some none)
    (z_list : PySem.W.nsIn K mainGlobals "list" = some none)
    (z_range : PySem.W.nsIn K mainGlobals "range" = some none)
    (z_reversed : PySem.W.nsIn K mainGlobals "reversed" = some none)
    (z_str : PySem.W.nsIn K mainGlobals "str" = some none)
    (z_sum : PySem.W.nsIn K mainGlobals "sum" = some none)
    (z_tuple : PySem.W.nsIn K mainGlobals "tuple" = some none)
    (n_BASICS : PySem.W.nsIn K mainGlobals "BASICS" = some (some (.ref b_BASICS))) (q_BASICS : K.lookup b_BASICS = some ⟨.type "tuple", dd_BASICS, .seq #[.str "plus" t_BASICS0, .str "minus" t_BASICS1, .str "times" t_BASICS2, .str "less" t_BASICS3, .str "same" t_BASICS4, .str "do" t_BASICS5, .str "dip" t_BASICS6, .str "if" t_BASICS7, .str "while" t_BASICS8, .str "repeat" t_BASICS9, .str "join" t_BASICS10, .str "wrap" t_BASICS11, .str "put" t_BASICS12, .str "part" t_BASICS13, .str "each" t_BASICS14] m_BASICS, sl_BASICS⟩)
    (n_LETTERS : PySem.W.nsIn K mainGlobals "LETTERS" = some (some (.str "abcdefgh" t_LETTERS)))
    (n_MOST_LEFT : PySem.W.nsIn K mainGlobals "MOST_LEFT" = some (some (.int 12 t_MOST_LEFT)))
    (n_MOST_SIGNS : PySem.W.nsIn K mainGlobals "MOST_SIGNS" = some (some (.int 8 t_MOST_SIGNS)))
    (n_NUMBERS : PySem.W.nsIn K mainGlobals "NUMBERS" = some (some (.int 1000000000000 t_NUMBERS)))
    (n_SMALL : PySem.W.nsIn K mainGlobals "SMALL" = some (some (.str "abcdefghijklmnopqrstuvwxyz" t_SMALL))) : Tx K mg where
  a_row_told := f1
  f_row_told := PySem.W.fnOf "row_told" "row_told" (defArgs s_row_told) (defBody s_row_told) (defScope s_row_told) .none kV1 dc1 pm1 an1 cd1 ct1
  d_row_told := ⟨fun_mk (st := s_row_told) l1 c1 k1, PySem.W.mg_of X G a1, (fun_mk (st := s_row_told) l1 c1 k1).binds (ps := p_row_told) fun _ _ _ _ _ _ us hl => match us, hl with | [_, _], _ => rfl⟩
  a_thing_in_place := f2
  f_thing_in_place := PySem.W.fnOf "thing_in_place" "thing_in_place" (defArgs s_thing_in_place) (defBody s_thing_in_place) (defScope s_thing_in_place) .none kV2 dc2 pm2 an2 cd2 ct2
  d_thing_in_place := ⟨fun_mk (st := s_thing_in_place) l2 c2 k2, PySem.W.mg_of X G a2, (fun_mk (st := s_thing_in_place) l2 c2 k2).binds (ps := p_thing_in_place) fun _ _ _ _ _ _ us hl => match us, hl with | [_, _, _], _ => rfl⟩
  a_words_in_place := f3
  f_words_in_place := PySem.W.fnOf "words_in_place" "words_in_place" (defArgs s_words_in_place) (defBody s_words_in_place) (defScope s_words_in_place) .none kV3 dc3 pm3 an3 cd3 ct3
  d_words_in_place := ⟨fun_mk (st := s_words_in_place) l3 c3 k3, PySem.W.mg_of X G a3, (fun_mk (st := s_words_in_place) l3 c3 k3).binds (ps := p_words_in_place) fun _ _ _ _ _ _ us hl => match us, hl with | [_, _, _], _ => rfl⟩
  a_in_place := f4
  f_in_place := PySem.W.fnOf "in_place" "in_place" (defArgs s_in_place) (defBody s_in_place) (defScope s_in_place) .none kV4 dc4 pm4 an4 cd4 ct4
  d_in_place := ⟨fun_mk (st := s_in_place) l4 c4 k4, PySem.W.mg_of X G a4, (fun_mk (st := s_in_place) l4 c4 k4).binds (ps := p_in_place) fun _ _ _ _ _ _ us hl => match us, hl with | [_, _, _], _ => rfl⟩
  a_stack_in_place := f5
  f_stack_in_place := PySem.W.fnOf "stack_in_place" "stack_in_place" (defArgs s_stack_in_place) (defBody s_stack_in_place) (defScope s_stack_in_place) .none kV5 dc5 pm5 an5 cd5 ct5
  d_stack_in_place := ⟨fun_mk (st := s_stack_in_place) l5 c5 k5, PySem.W.mg_of X G a5, (fun_mk (st := s_stack_in_place) l5 c5 k5).binds (ps := p_stack_in_place) fun _ _ _ _ _ _ us hl => match us, hl with | [_, _, _], _ => rfl⟩
  a_is_shuffle := f6
  f_is_shuffle := PySem.W.fnOf "is_shuffle" "is_shuffle" (defArgs s_is_shuffle) (defBody s_is_shuffle) (defScope s_is_shuffle) .none kV6 dc6 pm6 an6 cd6 ct6
  d_is_shuffle := ⟨fun_mk (st := s_is_shuffle) l6 c6 k6, PySem.W.mg_of X G a6, (fun_mk (st := s_is_shuffle) l6 c6 k6).binds (ps := p_is_shuffle) fun _ _ _ _ _ _ us hl => match us, hl with | [_], _ => rfl⟩
  a_is_number := f7
  f_is_number := PySem.W.fnOf "is_number" "is_number" (defArgs s_is_number) (defBody s_is_number) (defScope s_is_number) .none kV7 dc7 pm7 an7 cd7 ct7
  d_is_number := ⟨fun_mk (st := s_is_number) l7 c7 k7, PySem.W.mg_of X G a7, (fun_mk (st := s_is_number) l7 c7 k7).binds (ps := p_is_number) fun _ _ _ _ _ _ us hl => match us, hl with | [_], _ => rfl⟩
  a_is_name := f8
  f_is_name := PySem.W.fnOf "is_name" "is_name" (defArgs s_is_name) (defBody s_is_name) (defScope s_is_name) .none kV8 dc8 pm8 an8 cd8 ct8
  d_is_name := ⟨fun_mk (st := s_is_name) l8 c8 k8, PySem.W.mg_of X G a8, (fun_mk (st := s_is_name) l8 c8 k8).binds (ps := p_is_name) fun _ _ _ _ _ _ us hl => match us, hl with | [_], _ => rfl⟩
  a_is_thing := f9
  f_is_thing := PySem.W.fnOf "is_thing" "is_thing" (defArgs s_is_thing) (defBody s_is_thing) (defScope s_is_thing) .none kV9 dc9 pm9 an9 cd9 ct9
  d_is_thing := ⟨fun_mk (st := s_is_thing) l9 c9 k9, PySem.W.mg_of X G a9, (fun_mk (st := s_is_thing) l9 c9 k9).binds (ps := p_is_thing) fun _ _ _ _ _ _ us hl => match us, hl with | [_], _ => rfl⟩
  a_is_word := f10
  f_is_word := PySem.W.fnOf "is_word" "is_word" (defArgs s_is_word) (defBody s_is_word) (defScope s_is_word) .none kV10 dc10 pm10 an10 cd10 ct10
  d_is_word := ⟨fun_mk (st := s_is_word) l10 c10 k10, PySem.W.mg_of X G a10, (fun_mk (st := s_is_word) l10 c10 k10).binds (ps := p_is_word) fun _ _ _ _ _ _ us hl => match us, hl with | [_], _ => rfl⟩
  a_is_row := f11
  f_is_row := PySem.W.fnOf "is_row" "is_row" (defArgs s_is_row) (defBody s_is_row) (defScope s_is_row) .none kV11 dc11 pm11 an11 cd11 ct11
  d_is_row := ⟨fun_mk (st := s_is_row) l11 c11 k11, PySem.W.mg_of X G a11, (fun_mk (st := s_is_row) l11 c11 k11).binds (ps := p_is_row) fun _ _ _ _ _ _ us hl => match us, hl with | [_], _ => rfl⟩
  a_is_stack := f12
  f_is_stack := PySem.W.fnOf "is_stack" "is_stack" (defArgs s_is_stack) (defBody s_is_stack) (defScope s_is_stack) .none kV12 dc12 pm12 an12 cd12 ct12
  d_is_stack := ⟨fun_mk (st := s_is_stack) l12 c12 k12, PySem.W.mg_of X G a12, (fun_mk (st := s_is_stack) l12 c12 k12).binds (ps := p_is_stack) fun _ _ _ _ _ _ us hl => match us, hl with | [_], _ => rfl⟩
  a_l_mixed := f13
  f_l_mixed := PySem.W.fnOf "_law_mixed" "_law_mixed" (defArgs s_l_mixed) (defBody s_l_mixed) (defScope s_l_mixed) .none kV13 dc13 pm13 an13 cd13 ct13
  d_l_mixed := ⟨fun_mk (st := s_l_mixed) l13 c13 k13, PySem.W.mg_of X G a13, (fun_mk (st := s_l_mixed) l13 c13 k13).binds (ps := p_l_mixed) fun _ _ _ _ _ _ us hl => match us, hl with | [_, _], _ => rfl⟩
  a_l_deck := f14
  f_l_deck := PySem.W.fnOf "_law_deck" "_law_deck" (defArgs s_l_deck) (defBody s_l_deck) (defScope s_l_deck) .none kV14 dc14 pm14 an14 cd14 ct14
  d_l_deck := ⟨fun_mk (st := s_l_deck) l14 c14 k14, PySem.W.mg_of X G a14, (fun_mk (st := s_l_deck) l14 c14 k14).binds (ps := p_l_deck) fun _ _ _ _ _ _ us hl => match us, hl with | [_], _ => rfl⟩
  a_l_take := f15
  f_l_take := PySem.W.fnOf "_law_take" "_law_take" (defArgs s_l_take) (defBody s_l_take) (defScope s_l_take) .none kV15 dc15 pm15 an15 cd15 ct15
  d_l_take := ⟨fun_mk (st := s_l_take) l15 c15 k15, PySem.W.mg_of X G a15, (fun_mk (st := s_l_take) l15 c15 k15).binds (ps := p_l_take) fun _ _ _ _ _ _ us hl => match us, hl with | [_, _], _ => rfl⟩
  a_l_names := f16
  f_l_names := PySem.W.fnOf "_law_names" "_law_names" (defArgs s_l_names) (defBody s_l_names) (defScope s_l_names) .none kV16 dc16 pm16 an16 cd16 ct16
  d_l_names := ⟨fun_mk (st := s_l_names) l16 c16 k16, PySem.W.mg_of X G a16, (fun_mk (st := s_l_names) l16 c16 k16).binds (ps := p_l_names) fun _ _ _ _ _ _ us hl => match us, hl with | [_, _], _ => rfl⟩
  a_l_number := f17
  f_l_number := PySem.W.fnOf "_law_number" "_law_number" (defArgs s_l_number) (defBody s_l_number) (defScope s_l_number) .none kV17 dc17 pm17 an17 cd17 ct17
  d_l_number := ⟨fun_mk (st := s_l_number) l17 c17 k17, PySem.W.mg_of X G a17, (fun_mk (st := s_l_number) l17 c17 k17).binds (ps := p_l_number) fun _ _ _ _ _ _ us hl => match us, hl with | [_], _ => rfl⟩
  a_l_shuffle := f18
  f_l_shuffle := PySem.W.fnOf "_law_shuffle" "_law_shuffle" (defArgs s_l_shuffle) (defBody s_l_shuffle) (defScope s_l_shuffle) .none kV18 dc18 pm18 an18 cd18 ct18
  d_l_shuffle := ⟨fun_mk (st := s_l_shuffle) l18 c18 k18, PySem.W.mg_of X G a18, (fun_mk (st := s_l_shuffle) l18 c18 k18).binds (ps := p_l_shuffle) fun _ _ _ _ _ _ us hl => match us, hl with | [_], _ => rfl⟩
  a_l_thing := f19
  f_l_thing := PySem.W.fnOf "_law_thing" "_law_thing" (defArgs s_l_thing) (defBody s_l_thing) (defScope s_l_thing) .none kV19 dc19 pm19 an19 cd19 ct19
  d_l_thing := ⟨fun_mk (st := s_l_thing) l19 c19 k19, PySem.W.mg_of X G a19, (fun_mk (st := s_l_thing) l19 c19 k19).binds (ps := p_l_thing) fun _ _ _ _ _ _ us hl => match us, hl with | [_, _, _, _], _ => rfl⟩
  a_l_stack := f20
  f_l_stack := PySem.W.fnOf "_law_stack" "_law_stack" (defArgs s_l_stack) (defBody s_l_stack) (defScope s_l_stack) .none kV20 dc20 pm20 an20 cd20 ct20
  d_l_stack := ⟨fun_mk (st := s_l_stack) l20 c20 k20, PySem.W.mg_of X G a20, (fun_mk (st := s_l_stack) l20 c20 k20).binds (ps := p_l_stack) fun _ _ _ _ _ _ us hl => match us, hl with | [_, _, _, _], _ => rfl⟩
  a_l_word := f21
  f_l_word := PySem.W.fnOf "_law_word" "_law_word" (defArgs s_l_word) (defBody s_l_word) (defScope s_l_word) .none kV21 dc21 pm21 an21 cd21 ct21
  d_l_word := ⟨fun_mk (st := s_l_word) l21 c21 k21, PySem.W.mg_of X G a21, (fun_mk (st := s_l_word) l21 c21 k21).binds (ps := p_l_word) fun _ _ _ _ _ _ us hl => match us, hl with | [_, _, _, _], _ => rfl⟩
  a_l_row := f22
  f_l_row := PySem.W.fnOf "_law_row" "_law_row" (defArgs s_l_row) (defBody s_l_row) (defScope s_l_row) .none kV22 dc22 pm22 an22 cd22 ct22
  d_l_row := ⟨fun_mk (st := s_l_row) l22 c22 k22, PySem.W.mg_of X G a22, (fun_mk (st := s_l_row) l22 c22 k22).binds (ps := p_l_row) fun _ _ _ _ _ _ us hl => match us, hl with | [_, _, _, _], _ => rfl⟩
  a_l_shown := f23
  f_l_shown := PySem.W.fnOf "_law_shown" "_law_shown" (defArgs s_l_shown) (defBody s_l_shown) (defScope s_l_shown) .none kV23 dc23 pm23 an23 cd23 ct23
  d_l_shown := ⟨fun_mk (st := s_l_shown) l23 c23 k23, PySem.W.mg_of X G a23, (fun_mk (st := s_l_shown) l23 c23 k23).binds (ps := p_l_shown) fun _ _ _ _ _ _ us hl => match us, hl with | [_, _], _ => rfl⟩
  a_l_due := f24
  f_l_due := PySem.W.fnOf "_law_due" "_law_due" (defArgs s_l_due) (defBody s_l_due) (defScope s_l_due) .none kV24 dc24 pm24 an24 cd24 ct24
  d_l_due := ⟨fun_mk (st := s_l_due) l24 c24 k24, PySem.W.mg_of X G a24, (fun_mk (st := s_l_due) l24 c24 k24).binds (ps := p_l_due) fun _ _ _ _ _ _ us hl => match us, hl with | [_, _, _], _ => rfl⟩
  a_l_right := f25
  f_l_right := PySem.W.fnOf "_law_right" "_law_right" (defArgs s_l_right) (defBody s_l_right) (defScope s_l_right) .none kV25 dc25 pm25 an25 cd25 ct25
  d_l_right := ⟨fun_mk (st := s_l_right) l25 c25 k25, PySem.W.mg_of X G a25, (fun_mk (st := s_l_right) l25 c25 k25).binds (ps := p_l_right) fun _ _ _ _ _ _ us hl => match us, hl with | [_, _, _, _], _ => rfl⟩
  a_law := f26
  f_law := PySem.W.fnOf "law" "law" (defArgs s_law) (defBody s_law) (defScope s_law) .none kV26 dc26 pm26 an26 cd26 ct26
  d_law := ⟨fun_mk (st := s_law) l26 c26 k26, PySem.W.mg_of X G a26, (fun_mk (st := s_law) l26 c26 k26).binds (ps := p_law) fun _ _ _ _ _ _ us hl => match us, hl with | [_], _ => rfl⟩
  z_all := PySem.W.mg_none_of X G z_all
  z_bool := PySem.W.mg_none_of X G z_bool
  z_int := PySem.W.mg_none_of X G z_int
  z_isinstance := PySem.W.mg_none_of X G z_isinstance
  z_len := PySem.W.mg_none_of X G z_len
  z_list := PySem.W.mg_none_of X G z_list
  z_range := PySem.W.mg_none_of X G z_range
  z_reversed := PySem.W.mg_none_of X G z_reversed
  z_str := PySem.W.mg_none_of X G z_str
  z_sum := PySem.W.mg_none_of X G z_sum
  z_tuple := PySem.W.mg_none_of X G z_tuple
  c_BASICS := ⟨_, .ref b_BASICS, PySem.W.mg_of X G n_BASICS, rfl, fun _ _ => .tup (vs := [.str "plus", .str "minus", .str "times", .str "less", .str "same", .str "do", .str "dip", .str "if", .str "while", .str "repeat", .str "join", .str "wrap", .str "put", .str "part", .str "each"]) (.inr ⟨_, _, _, q_BASICS, rfl, rfl, by simp [sizeLine_eq], (.cons ⟨_, rfl⟩ (.cons ⟨_, rfl⟩ (.cons ⟨_, rfl⟩ (.cons ⟨_, rfl⟩ (.cons ⟨_, rfl⟩ (.cons ⟨_, rfl⟩ (.cons ⟨_, rfl⟩ (.cons ⟨_, rfl⟩ (.cons ⟨_, rfl⟩ (.cons ⟨_, rfl⟩ (.cons ⟨_, rfl⟩ (.cons ⟨_, rfl⟩ (.cons ⟨_, rfl⟩ (.cons ⟨_, rfl⟩ (.cons ⟨_, rfl⟩ .nil)))))))))))))))⟩) (.cons (.str _) (.cons (.str _) (.cons (.str _) (.cons (.str _) (.cons (.str _) (.cons (.str _) (.cons (.str _) (.cons (.str _) (.cons (.str _) (.cons (.str _) (.cons (.str _) (.cons (.str _) (.cons (.str _) (.cons (.str _) (.cons (.str _) .nil)))))))))))))))⟩
  c_LETTERS := ⟨_, .str "abcdefgh", PySem.W.mg_of X G n_LETTERS, ⟨_, rfl⟩, fun _ _ => .str _⟩
  c_MOST_LEFT := ⟨_, .int 12, PySem.W.mg_of X G n_MOST_LEFT, ⟨_, rfl⟩, fun _ _ => .int _⟩
  c_MOST_SIGNS := ⟨_, .int 8, PySem.W.mg_of X G n_MOST_SIGNS, ⟨_, rfl⟩, fun _ _ => .int _⟩
  c_NUMBERS := ⟨_, .int 1000000000000, PySem.W.mg_of X G n_NUMBERS, ⟨_, rfl⟩, fun _ _ => .int _⟩
  c_SMALL := ⟨_, .str "abcdefghijklmnopqrstuvwxyz", PySem.W.mg_of X G n_SMALL, ⟨_, rfl⟩, fun _ _ => .str _⟩
def spLaw (K : PySem.W.Frag) : Sp := fun vs H Q _ => ∃ (a : Addr) (ns : List Int), vs = [.ref a] ∧ Only H ∧ SqL K H a (ns.map V.int) ∧ ns.length ≤ 63 ∧ ∀ H', Q (.bl true) H'
theorem law_sp {K : PySem.W.Frag} {mg : Str → Option Value} {G : List D → M D} (hG : ∀ ns : List Int, ns.length ≤ 63 → ∃ S', G [.fl (ns.map .int)] [] = .ok (.bl true) S') (vs : List V) (H : Hp) (Q : VK) (E : XK) (h : spLaw K vs H Q E) : spD K mg 1 G vs H Q E := by
  obtain ⟨a, ns, rfl, hO, hS, hl, k⟩ := h
  obtain ⟨S', hS'⟩ := hG ns hl
  refine ⟨⟨[], []⟩, [], [.fl (ns.map .int)], rfl, .cons (.fl (vs := ns.map V.int) ?_ (RDs.of_ints ns)) .nil, ⟨rfl, List.nodup_nil, fun i a m h => by simp at h, fun a h => by simp at h, fun a h => by simp at h⟩, ?_⟩
  · rcases hS with (hS | ⟨o, hS⟩) | hS
    · rcases hO a with z | ⟨o, xs, z⟩ <;> rw [hS] at z <;> cases z
    · exact .inl ⟨o, hS⟩
    · exact .inr hS
  · rw [hS']
    intro μ' H' _ _ v rv
    cases rv
    exact k H'
theorem all_mk {l : PySem.W.OpenLaw} {w : World} {K : PySem.W.Frag} {h : Heap} {mg : Str → Option Value} {fa : Addr} (fu n : Nat) (hG : ∀ ns : List Int, ns.length ≤ 63 → ∃ S', den fu n i_law [.fl (ns.map .int)] [] = .ok (.bl true) S') (X : K.In h) (G : h.Ns mainGlobals mg) (hfa : mg "law" = some (.ref fa))
    {f1 : Addr} {od1 an1 : Option Addr} {sl1 : Array (Option Value)} {oc1 kV1 dc1 pm1 cd1 ct1 : Value}
    {f2 : Addr} {od2 an2 : Option Addr} {sl2 : Array (Option Value)} {oc2 kV2 dc2 pm2 cd2 ct2 : Value}
    {f3 : Addr} {od3 an3 : Option Addr} {sl3 : Array (Option Value)} {oc3 kV3 dc3 pm3 cd3 ct3 : Value}
    {f4 : Addr} {od4 an4 : Option Addr} {sl4 : Array (Option Value)} {oc4 kV4 dc4 pm4 cd4 ct4 : Value}
    {f5 : Addr} {od5 an5 : Option Addr} {sl5 : Array (Option Value)} {oc5 kV5 dc5 pm5 cd5 ct5 : Value}
    {f6 : Addr} {od6 an6 : Option Addr} {sl6 : Array (Option Value)} {oc6 kV6 dc6 pm6 cd6 ct6 : Value}
    {f7 : Addr} {od7 an7 : Option Addr} {sl7 : Array (Option Value)} {oc7 kV7 dc7 pm7 cd7 ct7 : Value}
    {f8 : Addr} {od8 an8 : Option Addr} {sl8 : Array (Option Value)} {oc8 kV8 dc8 pm8 cd8 ct8 : Value}
    {f9 : Addr} {od9 an9 : Option Addr} {sl9 : Array (Option Value)} {oc9 kV9 dc9 pm9 cd9 ct9 : Value}
    {f10 : Addr} {od10 an10 : Option Addr} {sl10 : Array (Option Value)} {oc10 kV10 dc10 pm10 cd10 ct10 : Value}
    {f11 : Addr} {od11 an11 : Option Addr} {sl11 : Array (Option Value)} {oc11 kV11 dc11 pm11 cd11 ct11 : Value}
    {f12 : Addr} {od12 an12 : Option Addr} {sl12 : Array (Option Value)} {oc12 kV12 dc12 pm12 cd12 ct12 : Value}
    {f13 : Addr} {od13 an13 : Option Addr} {sl13 : Array (Option Value)} {oc13 kV13 dc13 pm13 cd13 ct13 : Value}
    {f14 : Addr} {od14 an14 : Option Addr} {sl14 : Array (Option Value)} {oc14 kV14 dc14 pm14 cd14 ct14 : Value}
    {f15 : Addr} {od15 an15 : Option Addr} {sl15 : Array (Option Value)} {oc15 kV15 dc15 pm15 cd15 ct15 : Value}
    {f16 : Addr} {od16 an16 : Option Addr} {sl16 : Array (Option Value)} {oc16 kV16 dc16 pm16 cd16 ct16 : Value}
    {f17 : Addr} {od17 an17 : Option Addr} {sl17 : Array (Option Value)} {oc17 kV17 dc17 pm17 cd17 ct17 : Value}
    {f18 : Addr} {od18 an18 : Option Addr} {sl18 : Array (Option Value)} {oc18 kV18 dc18 pm18 cd18 ct18 : Value}
    {f19 : Addr} {od19 an19 : Option Addr} {sl19 : Array (Option Value)} {oc19 kV19 dc19 pm19 cd19 ct19 : Value}
    {f20 : Addr} {od20 an20 : Option Addr} {sl20 : Array (Option Value)} {oc20 kV20 dc20 pm20 cd20 ct20 : Value}
    {f21 : Addr} {od21 an21 : Option Addr} {sl21 : Array (Option Value)} {oc21 kV21 dc21 pm21 cd21 ct21 : Value}
    {f22 : Addr} {od22 an22 : Option Addr} {sl22 : Array (Option Value)} {oc22 kV22 dc22 pm22 cd22 ct22 : Value}
    {f23 : Addr} {od23 an23 : Option Addr} {sl23 : Array (Option Value)} {oc23 kV23 dc23 pm23 cd23 ct23 : Value}
    {f24 : Addr} {od24 an24 : Option Addr} {sl24 : Array (Option Value)} {oc24 kV24 dc24 pm24 cd24 ct24 : Value}
    {f25 : Addr} {od25 an25 : Option Addr} {sl25 : Array (Option Value)} {oc25 kV25 dc25 pm25 cd25 ct25 : Value}
    {f26 : Addr} {od26 an26 : Option Addr} {sl26 : Array (Option Value)} {oc26 kV26 dc26 pm26 cd26 ct26 : Value}
    {b_BASICS : Addr} {t_BASICS0 t_BASICS1 t_BASICS2 t_BASICS3 t_BASICS4 t_BASICS5 t_BASICS6 t_BASICS7 t_BASICS8 t_BASICS9 t_BASICS10 t_BASICS11 t_BASICS12 t_BASICS13 t_BASICS14 : Tok} {m_BASICS : Nat} {dd_BASICS : Option Addr} {sl_BASICS : Array (Option Value)}
    {t_LETTERS : Tok}
    {t_MOST_LEFT : Tok}
    {t_MOST_SIGNS : Tok}
    {t_NUMBERS : Tok}
    {t_SMALL : Tok}
    (a1 : PySem.W.nsIn K mainGlobals "row_told" = some (some (.ref f1))) (l1 : K.lookup f1 = some ⟨oc1, od1, .func (PySem.W.fnOf "row_told" "row_told" (defArgs s_row_told) (defBody s_row_told) (defScope s_row_told) .none kV1 dc1 pm1 an1 cd1 ct1), sl1⟩) (c1 : PySem.W.codeIn K cd1 "row_told" = true) (k1 : PySem.W.keepIn K (.ref f1) = true)
    (a2 : PySem.W.nsIn K mainGlobals "thing_in_place" = some (some (.ref f2))) (l2 : K.lookup f2 = some ⟨oc2, od2, .func (PySem.W.fnOf "thing_in_place" "thing_in_place" (defArgs s_thing_in_place) (defBody s_thing_in_place) (defScope s_thing_in_place) .none kV2 dc2 pm2 an2 cd2 ct2), sl2⟩) (c2 : PySem.W.codeIn K cd2 "thing_in_place" = true) (k2 : PySem.W.keepIn K (.ref f2) = true)
    (a3 : PySem.W.nsIn K mainGlobals "words_in_place" = some (some (.ref f3))) (l3 : K.lookup f3 = some ⟨oc3, od3, .func (PySem.W.fnOf "words_in_place" "words_in_place" (defArgs s_words_in_place) (defBody s_words_in_place) (defScope s_words_in_place) .none kV3 dc3 pm3 an3 cd3 ct3), sl3⟩) (c3 : PySem.W.codeIn K cd3 "words_in_place" = true) (k3 : PySem.W.keepIn K (.ref f3) = true)
    (a4 : PySem.W.nsIn K mainGlobals "in_place" = some (some (.ref f4))) (l4 : K.lookup f4 = some ⟨oc4, od4, .func (PySem.W.fnOf "in_place" "in_place" (defArgs s_in_place) (defBody s_in_place) (defScope s_in_place) .none kV4 dc4 pm4 an4 cd4 ct4), sl4⟩) (c4 : PySem.W.codeIn K cd4 "in_place" = true) (k4 : PySem.W.keepIn K (.ref f4) = true)
    (a5 : PySem.W.nsIn K mainGlobals "stack_in_place" = some (some (.ref f5))) (l5 : K.lookup f5 = some ⟨oc5, od5, .func (PySem.W.fnOf "stack_in_place" "stack_in_place" (defArgs s_stack_in_place) (defBody s_stack_in_place) (defScope s_stack_in_place) .none kV5 dc5 pm5 an5 cd5 ct5), sl5⟩) (c5 : PySem.W.codeIn K cd5 "stack_in_place" = true) (k5 : PySem.W.keepIn K (.ref f5) = true)
    (a6 : PySem.W.nsIn K mainGlobals "is_shuffle" = some (some (.ref f6))) (l6 : K.lookup f6 = some ⟨oc6, od6, .func (PySem.W.fnOf "is_shuffle" "is_shuffle" (defArgs s_is_shuffle) (defBody s_is_shuffle) (defScope s_is_shuffle) .none kV6 dc6 pm6 an6 cd6 ct6), sl6⟩) (c6 : PySem.W.codeIn K cd6 "is_shuffle" = true) (k6 : PySem.W.keepIn K (.ref f6) = true)
    (a7 : PySem.W.nsIn K mainGlobals "is_number" = some (some (.ref f7))) (l7 : K.lookup f7 = some ⟨oc7, od7, .func (PySem.W.fnOf "is_number" "is_number" (defArgs s_is_number) (defBody s_is_number) (defScope s_is_number) .none kV7 dc7 pm7 an7 cd7 ct7), sl7⟩) (c7 : PySem.W.codeIn K cd7 "is_number" = true) (k7 : PySem.W.keepIn K (.ref f7) = true)
    (a8 : PySem.W.nsIn K mainGlobals "is_name" = some (some (.ref f8))) (l8 : K.lookup f8 = some ⟨oc8, od8, .func (PySem.W.fnOf "is_name" "is_name" (defArgs s_is_name) (defBody s_is_name) (defScope s_is_name) .none kV8 dc8 pm8 an8 cd8 ct8), sl8⟩) (c8 : PySem.W.codeIn K cd8 "is_name" = true) (k8 : PySem.W.keepIn K (.ref f8) = true)
    (a9 : PySem.W.nsIn K mainGlobals "is_thing" = some (some (.ref f9))) (l9 : K.lookup f9 = some ⟨oc9, od9, .func (PySem.W.fnOf "is_thing" "is_thing" (defArgs s_is_thing) (defBody s_is_thing) (defScope s_is_thing) .none kV9 dc9 pm9 an9 cd9 ct9), sl9⟩) (c9 : PySem.W.codeIn K cd9 "is_thing" = true) (k9 : PySem.W.keepIn K (.ref f9) = true)
    (a10 : PySem.W.nsIn K mainGlobals "is_word" = some (some (.ref f10))) (l10 : K.lookup f10 = some ⟨oc10, od10, .func (PySem.W.fnOf "is_word" "is_word" (defArgs s_is_word) (defBody s_is_word) (defScope s_is_word) .none kV10 dc10 pm10 an10 cd10 ct10), sl10⟩) (c10 : PySem.W.codeIn K cd10 "is_word" = true) (k10 : PySem.W.keepIn K (.ref f10) = true)
    (a11 : PySem.W.nsIn K mainGlobals "is_row" = some (some (.ref f11))) (l11 : K.lookup f11 = some ⟨oc11, od11, .func (PySem.W.fnOf "is_row" "is_row" (defArgs s_is_row) (defBody s_is_row) (defScope s_is_row) .none kV11 dc11 pm11 an11 cd11 ct11), sl11⟩) (c11 : PySem.W.codeIn K cd11 "is_row" = true) (k11 : PySem.W.keepIn K (.ref f11) = true)
    (a12 : PySem.W.nsIn K mainGlobals "is_stack" = some (some (.ref f12))) (l12 : K.lookup f12 = some ⟨oc12, od12, .func (PySem.W.fnOf "is_stack" "is_stack" (defArgs s_is_stack) (defBody s_is_stack) (defScope s_is_stack) .none kV12 dc12 pm12 an12 cd12 ct12), sl12⟩) (c12 : PySem.W.codeIn K cd12 "is_stack" = true) (k12 : PySem.W.keepIn K (.ref f12) = true)
    (a13 : PySem.W.nsIn K mainGlobals "_law_mixed" = some (some (.ref f13))) (l13 : K.lookup f13 = some ⟨oc13, od13, .func (PySem.W.fnOf "_law_mixed" "_law_mixed" (defArgs s_l_mixed) (defBody s_l_mixed) (defScope s_l_mixed) .none kV13 dc13 pm13 an13 cd13 ct13), sl13⟩) (c13 : PySem.W.codeIn K cd13 "_law_mixed" = true) (k13 : PySem.W.keepIn K (.ref f13) = true)
    (a14 : PySem.W.nsIn K mainGlobals "_law_deck" = some (some (.ref f14))) (l14 : K.lookup f14 = some ⟨oc14, od14, .func (PySem.W.fnOf "_law_deck" "_law_deck" (defArgs s_l_deck) (defBody s_l_deck) (defScope s_l_deck) .none kV14 dc14 pm14 an14 cd14 ct14), sl14⟩) (c14 : PySem.W.codeIn K cd14 "_law_deck" = true) (k14 : PySem.W.keepIn K (.ref f14) = true)
    (a15 : PySem.W.nsIn K mainGlobals "_law_take" = some (some (.ref f15))) (l15 : K.lookup f15 = some ⟨oc15, od15, .func (PySem.W.fnOf "_law_take" "_law_take" (defArgs s_l_take) (defBody s_l_take) (defScope s_l_take) .none kV15 dc15 pm15 an15 cd15 ct15), sl15⟩) (c15 : PySem.W.codeIn K cd15 "_law_take" = true) (k15 : PySem.W.keepIn K (.ref f15) = true)
    (a16 : PySem.W.nsIn K mainGlobals "_law_names" = some (some (.ref f16))) (l16 : K.lookup f16 = some ⟨oc16, od16, .func (PySem.W.fnOf "_law_names" "_law_names" (defArgs s_l_names) (defBody s_l_names) (defScope s_l_names) .none kV16 dc16 pm16 an16 cd16 ct16), sl16⟩) (c16 : PySem.W.codeIn K cd16 "_law_names" = true) (k16 : PySem.W.keepIn K (.ref f16) = true)
    (a17 : PySem.W.nsIn K mainGlobals "_law_number" = some (some (.ref f17))) (l17 : K.lookup f17 = some ⟨oc17, od17, .func (PySem.W.fnOf "_law_number" "_law_number" (defArgs s_l_number) (defBody s_l_number) (defScope s_l_number) .none kV17 dc17 pm17 an17 cd17 ct17), sl17⟩) (c17 : PySem.W.codeIn K cd17 "_law_number" = true) (k17 : PySem.W.keepIn K (.ref f17) = true)
    (a18 : PySem.W.nsIn K mainGlobals "_law_shuffle" = some (some (.ref f18))) (l18 : K.lookup f18 = some ⟨oc18, od18, .func (PySem.W.fnOf "_law_shuffle" "_law_shuffle" (defArgs s_l_shuffle) (defBody s_l_shuffle) (defScope s_l_shuffle) .none kV18 dc18 pm18 an18 cd18 ct18), sl18⟩) (c18 : PySem.W.codeIn K cd18 "_law_shuffle" = true) (k18 : PySem.W.keepIn K (.ref f18) = true)
    (a19 : PySem.W.nsIn K mainGlobals "_law_thing" = some (some (.ref f19))) (l19 : K.lookup f19 = some ⟨oc19, od19, .func (PySem.W.fnOf "_law_thing" "_law_thing" (defArgs s_l_thing) (defBody s_l_thing) (defScope s_l_thing) .none kV19 dc19 pm19 an19 cd19 ct19), sl19⟩) (c19 : PySem.W.codeIn K cd19 "_law_thing" = true) (k19 : PySem.W.keepIn K (.ref f19) = true)
    (a20 : PySem.W.nsIn K mainGlobals "_law_stack" = some (some (.ref f20))) (l20 : K.lookup f20 = some ⟨oc20, od20, .func (PySem.W.fnOf "_law_stack" "_law_stack" (defArgs s_l_stack) (defBody s_l_stack) (defScope s_l_stack) .none kV20 dc20 pm20 an20 cd20 ct20), sl20⟩) (c20 : PySem.W.codeIn K cd20 "_law_stack" = true) (k20 : PySem.W.keepIn K (.ref f20) = true)
    (a21 : PySem.W.nsIn K mainGlobals "_law_word" = some (some (.ref f21))) (l21 : K.lookup f21 = some ⟨oc21, od21, .func (PySem.W.fnOf "_law_word" "_law_word" (defArgs s_l_word) (defBody s_l_word) (defScope s_l_word) .none kV21 dc21 pm21 an21 cd21 ct21), sl21⟩) (c21 : PySem.W.codeIn K cd21 "_law_word" = true) (k21 : PySem.W.keepIn K (.ref f21) = true)
    (a22 : PySem.W.nsIn K mainGlobals "_law_row" = some (some (.ref f22))) (l22 : K.lookup f22 = some ⟨oc22, od22, .func (PySem.W.fnOf "_law_row" "_law_row" (defArgs s_l_row) (defBody s_l_row) (defScope s_l_row) .none kV22 dc22 pm22 an22 cd22 ct22), sl22⟩) (c22 : PySem.W.codeIn K cd22 "_law_row" = true) (k22 : PySem.W.keepIn K (.ref f22) = true)
    (a23 : PySem.W.nsIn K mainGlobals "_law_shown" = some (some (.ref f23))) (l23 : K.lookup f23 = some ⟨oc23, od23, .func (PySem.W.fnOf "_law_shown" "_law_shown" (defArgs s_l_shown) (defBody s_l_shown) (defScope s_l_shown) .none kV23 dc23 pm23 an23 cd23 ct23), sl23⟩) (c23 : PySem.W.codeIn K cd23 "_law_shown" = true) (k23 : PySem.W.keepIn K (.ref f23) = true)
    (a24 : PySem.W.nsIn K mainGlobals "_law_due" = some (some (.ref f24))) (l24 : K.lookup f24 = some ⟨oc24, od24, .func (PySem.W.fnOf "_law_due" "_law_due" (defArgs s_l_due) (defBody s_l_due) (defScope s_l_due) .none kV24 dc24 pm24 an24 cd24 ct24), sl24⟩) (c24 : PySem.W.codeIn K cd24 "_law_due" = true) (k24 : PySem.W.keepIn K (.ref f24) = true)
    (a25 : PySem.W.nsIn K mainGlobals "_law_right" = some (some (.ref f25))) (l25 : K.lookup f25 = some ⟨oc25, od25, .func (PySem.W.fnOf "_law_right" "_law_right" (defArgs s_l_right) (defBody s_l_right) (defScope s_l_right) .none kV25 dc25 pm25 an25 cd25 ct25), sl25⟩) (c25 : PySem.W.codeIn K cd25 "_law_right" = true) (k25 : PySem.W.keepIn K (.ref f25) = true)
    (a26 : PySem.W.nsIn K mainGlobals "law" = some (some (.ref f26))) (l26 : K.lookup f26 = some ⟨oc26, od26, .func (PySem.W.fnOf "law" "law" (defArgs s_law) (defBody s_law) (defScope s_law) .none kV26 dc26 pm26 an26 cd26 ct26), sl26⟩) (c26 : PySem.W.codeIn K cd26 "law" = true) (k26 : PySem.W.keepIn K (.ref f26) = true)
    (z_all : PySem.W.nsIn K mainGlobals "all" = some none)
    (z_bool : PySem.W.nsIn K mainGlobals "bool" = some none)
    (z_int : PySem.W.nsIn K mainGlobals "int" = some none)
    (z_isinstance : PySem.W.nsIn K mainGlobals "isinstance" = some none)
    (z_len : PySem.W.nsIn K mainGlobals "len" = some none)
    (z_list : PySem.W.nsIn K mainGlobals "list" = some none)
    (z_range : PySem.W.nsIn K mainGlobals "range" = some none)
    (z_reversed : PySem.W.nsIn K mainGlobals "reversed" = some none)
    (z_str : PySem.W.nsIn K mainGlobals "str" = some none)
    (z_sum : PySem.W.nsIn K mainGlobals "sum" = some none)
    (z_tuple : PySem.W.nsIn K mainGlobals "tuple" = some none)
    (n_BASICS : PySem.W.nsIn K mainGlobals "BASICS" = some (some (.ref b_BASICS))) (q_BASICS : K.lookup b_BASICS = some ⟨.type "tuple", dd_BASICS, .seq #[.str "plus" t_BASICS0, .str "minus" t_BASICS1, .str "times" t_BASICS2, .str "less" t_BASICS3, .str "same" t_BASICS4, .str "do" t_BASICS5, .str "dip" t_BASICS6, .str "if" t_BASICS7, .str "while" t_BASICS8, .str "repeat" t_BASICS9, .str "join" t_BASICS10, .str "wrap" t_BASICS11, .str "put" t_BASICS12, .str "part" t_BASICS13, .str "each" t_BASICS14] m_BASICS, sl_BASICS⟩)
    (n_LETTERS : PySem.W.nsIn K mainGlobals "LETTERS" = some (some (.str "abcdefgh" t_LETTERS)))
    (n_MOST_LEFT : PySem.W.nsIn K mainGlobals "MOST_LEFT" = some (some (.int 12 t_MOST_LEFT)))
    (n_MOST_SIGNS : PySem.W.nsIn K mainGlobals "MOST_SIGNS" = some (some (.int 8 t_MOST_SIGNS)))
    (n_NUMBERS : PySem.W.nsIn K mainGlobals "NUMBERS" = some (some (.int 1000000000000 t_NUMBERS)))
    (n_SMALL : PySem.W.nsIn K mainGlobals "SMALL" = some (some (.str "abcdefghijklmnopqrstuvwxyz" t_SMALL))) :
    ∃ fd : FuncData, (∀ (s : Shared) (v : Value), BindsTo s fd ⟨[v], []⟩ [("_law_script", v)]) ∧ ∀ base : Heap, K.In base → base.Ns mainGlobals mg → FnOk l.prog w K mg base (L2.CX l.prog w) n fa fd ["_law_script"] (spLaw K) := by
  have e := hfa.symm.trans (PySem.W.mg_of X G a26)
  cases e
  exact ⟨PySem.W.fnOf "law" "law" (defArgs s_law) (defBody s_law) (defScope s_law) .none kV26 dc26 pm26 an26 cd26 ct26, fun s v => .of_eq rfl, fun base _ _ => (cal (T := txMk X G a1 l1 c1 k1 a2 l2 c2 k2 a3 l3 c3 k3 a4 l4 c4 k4 a5 l5 c5 k5 a6 l6 c6 k6 a7 l7 c7 k7 a8 l8 c8 k8 a9 l9 c9 k9 a10 l10 c10 k10 a11 l11 c11 k11 a12 l12 c12 k12 a13 l13 c13 k13 a14 l14 c14 k14 a15 l15 c15 k15 a16 l16 c16 k16 a17 l17 c17 k17 a18 l18 c18 k18 a19 l19 c19 k19 a20 l20 c20 k20 a21 l21 c21 k21 a22 l22 c22 k22 a23 l23 c23 k23 a24 l24 c24 k24 a25 l25 c25 k25 a26 l26 c26 k26 z_all z_bool z_int z_isinstance z_len z_list z_range z_reversed z_str z_sum z_tuple n_BASICS q_BASICS n_LETTERS n_MOST_LEFT n_MOST_SIGNS n_NUMBERS n_SMALL) fu n).law.imp (law_sp hG)⟩
end K69

namespace K69
open PySem L2 DL
variable {fu n : Nat} {S : Sto} {F : D → Sto → Prop} {E : Exc → Sto → Prop}
theorem isiN_ss : isiN "str" "str" = true := by decide
theorem isiN_tt : isiN "tuple" "tuple" = true := by decide
theorem isiN_ii : isiN "int" "int" = true := by decide
theorem isiN_ib : isiN "int" "bool" = false := by decide
theorem isiN_bi : isiN "bool" "int" = true := by decide
theorem isiN_bb : isiN "bool" "bool" = true := by decide
theorem isiN_ts : isiN "tuple" "str" = false := by decide
theorem isiN_st : isiN "str" "tuple" = false := by decide
theorem isiN_lt : isiN "list" "tuple" = false := by decide
theorem isiN_nt : isiN "NoneType" "tuple" = false := by decide
theorem isiN_ns : isiN "NoneType" "str" = false := by decide
theorem isiN_ni : isiN "NoneType" "int" = false := by decide
theorem isiN_it : isiN "int" "tuple" = false := by decide
theorem isiN_si : isiN "str" "int" = false := by decide
theorem isiN_ti : isiN "tuple" "int" = false := by decide
theorem isiN_bt : isiN "bool" "tuple" = false := by decide
/-! the program -/
theorem number_ok {i : Int} (hS : OKS S) (hF : F (.bl (decide (0 ≤ i ∧ i < 1000000000000))) S) : wp (den fu (n + 1) i_is_number [.int i] S) F E := by
  show wp (runDef false 1 (b_is_number fu (den fu n)) _ _) _ _
  simp only [b_is_number, k_NUMBERS, isiN_ii, isiN_ib, fin_blO hS, wp_ok, wp_ret, wp_stuck, wp_bad, wp_bnd, wp_if, wp_fif, wps_ok_nx, wps_ok_rt, wps_ok_bk, wps_ok_ct, wps_ok_xc, wps_bad, wps_lft, wps_seq, wps_nil, wps_ret, wps_expr, wps_asg, wps_if, wp_run, wps_for, wps_while, wp_comp, wp_var, wp_C, wp_bin, wp_un, wp_T, wp_Tb, wp_asBl, wp_truthBl, wp_bAnd, wp_bOr, wp_bNot, wp_eIf, wp_eAnd, wp_eOr, wp_eNot, blCase_bl, wp_chain, wp_aNil, wp_aCons, wp_tup, wp_lst, wp_lstM, wp_call, wp_cl1, wp_cl2, wp_cl3, wp_cl4, wp_cl5, wp_meth, wp_isi, wp_oNone, wp_oSome, wp_sl, wp_it, wp_range1, wp_range2, wp_bYes, gEq_str, gNe_str, gEq_int, gNe_int, gEq_bl, gNe_bl, gIs_bl, gIsNot_bl, gAdd_int, gSub_int, gC_int, gI_int, gAdd_str, gAdd_tup, gAdd_lst, gNeg_int, gIx_tup, gIx_lst, gLen_tup, gLen_lst, gLen_str, gInt_int, gInt_bl, gTuple_lst, gTuple_tup, gList_lst, gList_tup, gSl_tup, gSl_lst, gSl_fl, gSl_str, srcL_tup, srcL_lst, srcL_fl, srcL_str, srcR1_int, typN, startR, List.map_cons, List.map_nil, List.length_cons, List.length_nil, Nat.reduceAdd, Nat.reduceSub, Nat.zero_add, Nat.sub_self, Nat.sub_zero, List.replicate_zero, List.replicate_succ, List.cons_append, List.nil_append, List.append_nil, List.getElem?_cons_zero, List.getElem?_cons_succ, List.set_cons_zero, List.set_cons_succ, List.set_nil, List.getElem?_nil, Option.some.injEq, exists_eq_left', exists_eq_left, exists_eq_right, reduceCtorEq, false_and, and_false, true_and, and_true, exists_false, exists_const, wipeR, Nat.zero_le, String.reduceEq, D.int.injEq, D.str.injEq, D.bl.injEq, atI_0, atI_1, atI_2, atI_3, atI_4, beq_self_eq_true, not_true_eq_false, not_false_eq_true, Int.cast_ofNat_Int, Int.reduceEq, Int.reduceLE, Int.reduceLT, Int.reduceAdd, Int.reduceSub, Int.reduceMul, Int.reduceNeg, if_true, if_false, ite_true, ite_false, Bool.false_eq_true, if_neg, if_pos, decide_eq_true_eq, Bool.not_eq_true', decide_eq_false_iff_not, eq_self_iff_true, decide_true, decide_false, Bool.not_true, Bool.not_false]
  by_cases h : 0 ≤ i
  · rw [if_pos h]; simpa [h] using hF
  · rw [if_neg h]; simpa [h] using hF
def small : List Nat := [97, 98, 99, 100, 101, 102, 103, 104, 105, 106, 107, 108, 109, 110, 111, 112, 113, 114, 115, 116, 117, 118, 119, 120, 121, 122]
def basics : List Str := ["plus", "minus", "times", "less", "same", "do", "dip", "if", "while", "repeat", "join", "wrap", "put", "part", "each"]
theorem k_BASICS_eq : k_BASICS = .tup (basics.map .str) := rfl
theorem small_eq : (Str.ofString "abcdefghijklmnopqrstuvwxyz").cps.toList = small := by decide +kernel
/-- a comprehension over a text's signs that asks where they stand -/
theorem signs_in {ρ : Rho} {i : Nat} {z : Str} {l : List Nat} (hl : z.length ≤ sizeLine) {el : EvD} (hi : ∀ c S, wp (el ((wipeR ρ [i]).set i (some (.str ⟨#[c]⟩))) S) (fun d S' => d = .bl (decide (c ∈ l)) ∧ S' = S) nx) {FF : List D → Sto → Prop} (h : FF ((z.cps.toList.map fun c => decide (c ∈ l)).map D.bl) S) :
    wp (compM none (z.cps.toList.map fun c => D.str ⟨#[c]⟩) (gN i) bYes el (wipeR ρ [i]) (z.cps.toList.map fun c => D.str ⟨#[c]⟩) S) FF nx := by
  refine wp_compM (fun k ys S' => S' = S ∧ ys = ((z.cps.toList.take k).map fun c => decide (c ∈ l)).map D.bl) (fun _ _ _ _ => trivial) (fun k d ys S' hd hk => ?_) (fun ys S' hk => ?_) ⟨rfl, rfl⟩
  · obtain ⟨rfl, rfl⟩ := hk
    rw [List.getElem?_map, Option.map_eq_some_iff] at hd
    obtain ⟨c, hc, rfl⟩ := hd
    refine ⟨_, rfl, ?_⟩
    rw [wp_bYes, if_pos rfl]
    refine wp_mono (hi c S') (fun y S'' hy => ?_) (fun _ _ h => h)
    obtain ⟨rfl, rfl⟩ := hy
    refine ⟨rfl, ?_⟩
    rw [List.take_succ, hc]
    simp
  · obtain ⟨rfl, rfl⟩ := hk
    rw [List.length_map, List.take_length]
    exact h
def nameB (z : Str) : Bool := decide (1 ≤ z.length) && decide (z.length ≤ 8) && !decide (z ∈ basics) && z.cps.toList.all fun c => decide (c ∈ small)
theorem name_ok {z : Str} (hS : OKS S) (hz : z.length ≤ sizeLine) (hF : F (.bl (nameB z)) S) : wp (den fu (n + 1) i_is_name [.str z] S) F E := by
  show wp (runDef false 2 (b_is_name fu (den fu n)) _ _) _ _
  simp only [b_is_name, k_MOST_SIGNS, isiN_ss, k_BASICS_eq, gIn_strs (show iLst S (.tup (basics.map .str)) = some (basics.map .str) from rfl), hz, fin_blO hS, wp_ok, wp_ret, wp_stuck, wp_bad, wp_bnd, wp_if, wp_fif, wps_ok_nx, wps_ok_rt, wps_ok_bk, wps_ok_ct, wps_ok_xc, wps_bad, wps_lft, wps_seq, wps_nil, wps_ret, wps_expr, wps_asg, wps_if, wp_run, wps_for, wps_while, wp_comp, wp_var, wp_C, wp_bin, wp_un, wp_T, wp_Tb, wp_asBl, wp_truthBl, wp_bAnd, wp_bOr, wp_bNot, wp_eIf, wp_eAnd, wp_eOr, wp_eNot, blCase_bl, wp_chain, wp_aNil, wp_aCons, wp_tup, wp_lst, wp_lstM, wp_call, wp_cl1, wp_cl2, wp_cl3, wp_cl4, wp_cl5, wp_meth, wp_isi, wp_oNone, wp_oSome, wp_sl, wp_it, wp_range1, wp_range2, wp_bYes, gEq_str, gNe_str, gEq_int, gNe_int, gEq_bl, gNe_bl, gIs_bl, gIsNot_bl, gAdd_int, gSub_int, gC_int, gI_int, gAdd_str, gAdd_tup, gAdd_lst, gNeg_int, gIx_tup, gIx_lst, gLen_tup, gLen_lst, gLen_str, gInt_int, gInt_bl, gTuple_lst, gTuple_tup, gList_lst, gList_tup, gSl_tup, gSl_lst, gSl_fl, gSl_str, srcL_tup, srcL_lst, srcL_fl, srcL_str, srcR1_int, typN, startR, List.map_cons, List.map_nil, List.length_cons, List.length_nil, Nat.reduceAdd, Nat.reduceSub, Nat.zero_add, Nat.sub_self, Nat.sub_zero, List.replicate_zero, List.replicate_succ, List.cons_append, List.nil_append, List.append_nil, List.getElem?_cons_zero, List.getElem?_cons_succ, List.set_cons_zero, List.set_cons_succ, List.set_nil, List.getElem?_nil, Option.some.injEq, exists_eq_left', exists_eq_left, exists_eq_right, reduceCtorEq, false_and, and_false, true_and, and_true, exists_false, exists_const, wipeR, Nat.zero_le, String.reduceEq, D.int.injEq, D.str.injEq, D.bl.injEq, atI_0, atI_1, atI_2, atI_3, atI_4, beq_self_eq_true, not_true_eq_false, not_false_eq_true, Int.cast_ofNat_Int, Int.reduceEq, Int.reduceLE, Int.reduceLT, Int.reduceAdd, Int.reduceSub, Int.reduceMul, Int.reduceNeg, if_true, if_false, ite_true, ite_false, Bool.false_eq_true, if_neg, if_pos, decide_eq_true_eq, Bool.not_eq_true', decide_eq_false_iff_not, eq_self_iff_true, decide_true, decide_false, Bool.not_true, Bool.not_false]
  by_cases h1 : (1 : Int) ≤ z.length
  · rw [if_pos h1]
    by_cases h2 : (z.length : Int) ≤ 8
    · simp only [h2, Nat.zero_le, String.reduceEq, D.int.injEq, D.str.injEq, D.bl.injEq, atI_0, atI_1, atI_2, atI_3, atI_4, beq_self_eq_true, not_true_eq_false, not_false_eq_true, Int.cast_ofNat_Int, Int.reduceEq, Int.reduceLE, Int.reduceLT, Int.reduceAdd, Int.reduceSub, Int.reduceMul, Int.reduceNeg, if_true, if_false, ite_true, ite_false, Bool.false_eq_true, if_neg, if_pos, decide_eq_true_eq, Bool.not_eq_true', decide_eq_false_iff_not, eq_self_iff_true, decide_true, decide_false, Bool.not_true, Bool.not_false]
      by_cases h3 : z ∈ basics
      · rw [if_pos h3]
        have : nameB z = false := by simp [nameB, h3]
        rw [this] at hF; exact hF
      · rw [if_neg h3]
        refine ⟨by rw [List.length_map, Array.length_toList]; exact hz, ?_⟩
        refine signs_in (ρ := [some (.str z), none]) hz (l := small) (fun c S => ?_) ?_
        · simp only [k_SMALL, gIn_sign, small_eq, wp_ok, wp_ret, wp_stuck, wp_bad, wp_bnd, wp_if, wp_fif, wps_ok_nx, wps_ok_rt, wps_ok_bk, wps_ok_ct, wps_ok_xc, wps_bad, wps_lft, wps_seq, wps_nil, wps_ret, wps_expr, wps_asg, wps_if, wp_run, wps_for, wps_while, wp_comp, wp_var, wp_C, wp_bin, wp_un, wp_T, wp_Tb, wp_asBl, wp_truthBl, wp_bAnd, wp_bOr, wp_bNot, wp_eIf, wp_eAnd, wp_eOr, wp_eNot, blCase_bl, wp_chain, wp_aNil, wp_aCons, wp_tup, wp_lst, wp_lstM, wp_call, wp_cl1, wp_cl2, wp_cl3, wp_cl4, wp_cl5, wp_meth, wp_isi, wp_oNone, wp_oSome, wp_sl, wp_it, wp_range1, wp_range2, wp_bYes, gEq_str, gNe_str, gEq_int, gNe_int, gEq_bl, gNe_bl, gIs_bl, gIsNot_bl, gAdd_int, gSub_int, gC_int, gI_int, gAdd_str, gAdd_tup, gAdd_lst, gNeg_int, gIx_tup, gIx_lst, gLen_tup, gLen_lst, gLen_str, gInt_int, gInt_bl, gTuple_lst, gTuple_tup, gList_lst, gList_tup, gSl_tup, gSl_lst, gSl_fl, gSl_str, srcL_tup, srcL_lst, srcL_fl, srcL_str, srcR1_int, typN, startR, List.map_cons, List.map_nil, List.length_cons, List.length_nil, Nat.reduceAdd, Nat.reduceSub, Nat.zero_add, Nat.sub_self, Nat.sub_zero, List.replicate_zero, List.replicate_succ, List.cons_append, List.nil_append, List.append_nil, List.getElem?_cons_zero, List.getElem?_cons_succ, List.set_cons_zero, List.set_cons_succ, List.set_nil, List.getElem?_nil, Option.some.injEq, exists_eq_left', exists_eq_left, exists_eq_right, reduceCtorEq, false_and, and_false, true_and, and_true, exists_false, exists_const, wipeR, Nat.zero_le, String.reduceEq, D.int.injEq, D.str.injEq, D.bl.injEq, atI_0, atI_1, atI_2, atI_3, atI_4, beq_self_eq_true, not_true_eq_false, not_false_eq_true, Int.cast_ofNat_Int, Int.reduceEq, Int.reduceLE, Int.reduceLT, Int.reduceAdd, Int.reduceSub, Int.reduceMul, Int.reduceNeg, if_true, if_false, ite_true, ite_false, Bool.false_eq_true, if_neg, if_pos, decide_eq_true_eq, Bool.not_eq_true', decide_eq_false_iff_not, eq_self_iff_true, decide_true, decide_false, Bool.not_true, Bool.not_false]
        · rw [gAll_bls]
          refine (fin_blO hS).mpr ?_
          have : nameB z = ((z.cps.toList.map fun c => decide (c ∈ small)).all id) := by
            have e1 : 1 ≤ z.length := by omega
            have e2 : z.length ≤ 8 := by omega
            simp [nameB, h3, e1, e2]
          rw [this] at hF; exact hF
    · simp only [h2, Nat.zero_le, String.reduceEq, D.int.injEq, D.str.injEq, D.bl.injEq, atI_0, atI_1, atI_2, atI_3, atI_4, beq_self_eq_true, not_true_eq_false, not_false_eq_true, Int.cast_ofNat_Int, Int.reduceEq, Int.reduceLE, Int.reduceLT, Int.reduceAdd, Int.reduceSub, Int.reduceMul, Int.reduceNeg, if_true, if_false, ite_true, ite_false, Bool.false_eq_true, if_neg, if_pos, decide_eq_true_eq, Bool.not_eq_true', decide_eq_false_iff_not, eq_self_iff_true, decide_true, decide_false, Bool.not_true, Bool.not_false]
      have : nameB z = false := by
        have e2 : ¬ z.length ≤ 8 := by omega
        simp [nameB, e2]
      rw [this] at hF; exact hF
  · rw [if_neg h1]
    have : nameB z = false := by
      have e1 : ¬ 1 ≤ z.length := by omega
      simp [nameB, e1]
    rw [this] at hF; exact hF
/-- a text of letters, a dash, letters of these -/
def IsSh (z : Str) : Prop := ∃ a b : List Nat, z = (⟨a.toArray⟩ : Str) ++ (⟨#[45]⟩ : Str) ++ (⟨b.toArray⟩ : Str) ∧ (∃ m, m ≤ 8 ∧ a = [97, 98, 99, 100, 101, 102, 103, 104].take m) ∧ b.length ≤ 12 ∧ ∀ x ∈ b, x ∈ a
theorem dash_eq : Str.ofString "-" = ⟨#[45]⟩ := by decide +kernel
theorem letters_eq : Str.ofString "abcdefgh" = ⟨#[97, 98, 99, 100, 101, 102, 103, 104]⟩ := by decide +kernel
theorem iLst_strs {l : List Str} : iLst S (.lst (l.map .str)) = some (l.map .str) := rfl
theorem shuffle_ok {z : Str} (hS : OKS S) (hz : IsSh z) (hF : F (.bl true) S) : wp (den fu (n + 1) i_is_shuffle [.str z] S) F E := by
  obtain ⟨a, b, rfl, ⟨m, hm, ha⟩, hb, hab⟩ := hz
  have la : a.length = m := by rw [ha]; simp; omega
  have n45 : ∀ x ∈ a, x ≠ 45 := by
    intro x hx
    rw [ha] at hx
    have := List.mem_of_mem_take hx
    intro e; subst e; revert this; decide
  have sp : Txt.split ((⟨a.toArray⟩ : Str) ++ (⟨#[45]⟩ : Str) ++ (⟨b.toArray⟩ : Str)) ⟨#[45]⟩ = [⟨a.toArray⟩, ⟨b.toArray⟩] :=
    split_two (fun h => n45 45 (by simpa using h) rfl) (fun h => n45 45 (hab 45 (by simpa using h)) rfl)
  have hlen : ((⟨a.toArray⟩ : Str) ++ (⟨#[45]⟩ : Str) ++ (⟨b.toArray⟩ : Str)).length ≤ 21 := by
    show ((a.toArray ++ #[45]) ++ b.toArray).size ≤ 21
    simp; omega
  generalize hzz : ((⟨a.toArray⟩ : Str) ++ (⟨#[45]⟩ : Str) ++ (⟨b.toArray⟩ : Str)) = z at sp hlen
  show wp (runDef false 3 (b_is_shuffle fu (den fu n)) _ _) _ _
  have spl : ∀ S F, wp (gSplit false (.str z) [.str (Str.ofString "-")] S) F E ↔ F (.lst [.str ⟨a.toArray⟩, .str ⟨b.toArray⟩]) S := by
    intro S F
    unfold gSplit
    rw [dash_eq]
    simp only [sp, List.map_cons, List.map_nil]
    rw [if_pos ⟨by decide, by rw [sizeLine_eq]; omega⟩]
    exact Iff.rfl
  have l8 : ∀ x : Nat, x ≤ 16777216 → x ≤ sizeLine := fun x h => by rw [sizeLine_eq]; exact h
  have cut : cutS (Str.ofString "abcdefgh") none (some (m : Int)) = ⟨a.toArray⟩ := by
    rw [letters_eq]
    unfold cutS
    apply str_ext
    simp only [List.toList_toArray]
    rw [ha]
    have e1 : HT.sIx (Str.length ⟨#[97, 98, 99, 100, 101, 102, 103, 104]⟩) 0 none = 0 := rfl
    have e2 : HT.sIx (Str.length ⟨#[97, 98, 99, 100, 101, 102, 103, 104]⟩) (Str.length ⟨#[97, 98, 99, 100, 101, 102, 103, 104]⟩) (some (m : Int)) = m := by
      rw [HT.sIx_nat]; show min m 8 = m; omega
    rw [e1, e2]; simp
  have hL : ((⟨a.toArray⟩ : Str)).length = m := by show a.toArray.size = m; simp [la]
  have hR : ((⟨b.toArray⟩ : Str)).length = b.length := by show b.toArray.size = _; simp
  have hA : (Str.ofString "abcdefgh").length ≤ sizeLine := by rw [letters_eq]; exact l8 _ (by decide)
  simp only [b_is_shuffle, k_MOST_LEFT, k_LETTERS, isiN_ss, spl, isTy, hL, hR, cut, hA, l8 m (by omega), l8 b.length (by omega), show ¬ (12 : Int) < (b.length : Int) by omega, wp_ok, wp_ret, wp_stuck, wp_bad, wp_bnd, wp_if, wp_fif, wps_ok_nx, wps_ok_rt, wps_ok_bk, wps_ok_ct, wps_ok_xc, wps_bad, wps_lft, wps_seq, wps_nil, wps_ret, wps_expr, wps_asg, wps_if, wp_run, wps_for, wps_while, wp_comp, wp_var, wp_C, wp_bin, wp_un, wp_T, wp_Tb, wp_asBl, wp_truthBl, wp_bAnd, wp_bOr, wp_bNot, wp_eIf, wp_eAnd, wp_eOr, wp_eNot, blCase_bl, wp_chain, wp_aNil, wp_aCons, wp_tup, wp_lst, wp_lstM, wp_call, wp_cl1, wp_cl2, wp_cl3, wp_cl4, wp_cl5, wp_meth, wp_isi, wp_oNone, wp_oSome, wp_sl, wp_it, wp_range1, wp_range2, wp_bYes, gEq_str, gNe_str, gEq_int, gNe_int, gEq_bl, gNe_bl, gIs_bl, gIsNot_bl, gAdd_int, gSub_int, gC_int, gI_int, gAdd_str, gAdd_tup, gAdd_lst, gNeg_int, gIx_tup, gIx_lst, gLen_tup, gLen_lst, gLen_str, gInt_int, gInt_bl, gTuple_lst, gTuple_tup, gList_lst, gList_tup, gSl_tup, gSl_lst, gSl_fl, gSl_str, srcL_tup, srcL_lst, srcL_fl, srcL_str, srcR1_int, typN, startR, List.map_cons, List.map_nil, List.length_cons, List.length_nil, Nat.reduceAdd, Nat.reduceSub, Nat.zero_add, Nat.sub_self, Nat.sub_zero, List.replicate_zero, List.replicate_succ, List.cons_append, List.nil_append, List.append_nil, List.getElem?_cons_zero, List.getElem?_cons_succ, List.set_cons_zero, List.set_cons_succ, List.set_nil, List.getElem?_nil, Option.some.injEq, exists_eq_left', exists_eq_left, exists_eq_right, reduceCtorEq, false_and, and_false, true_and, and_true, exists_false, exists_const, wipeR, Nat.zero_le, String.reduceEq, D.int.injEq, D.str.injEq, D.bl.injEq, atI_0, atI_1, atI_2, atI_3, atI_4, beq_self_eq_true, not_true_eq_false, not_false_eq_true, Int.cast_ofNat_Int, Int.reduceEq, Int.reduceLE, Int.reduceLT, Int.reduceAdd, Int.reduceSub, Int.reduceMul, Int.reduceNeg, if_true, if_false, ite_true, ite_false, Bool.false_eq_true, if_neg, if_pos, decide_eq_true_eq, Bool.not_eq_true', decide_eq_false_iff_not, eq_self_iff_true, decide_true, decide_false, Bool.not_true, Bool.not_false]
  refine ⟨by rw [List.length_map]; exact l8 _ (by omega), ?_⟩
  refine signs_in (ρ := [some (.str z), some (.lst [.str ⟨a.toArray⟩, .str ⟨b.toArray⟩]), none]) (by rw [hR]; exact l8 _ (by omega)) (l := a) (fun c S => ?_) ?_
  · simp only [gIn_sign, List.toList_toArray, wp_ok, wp_ret, wp_stuck, wp_bad, wp_bnd, wp_if, wp_fif, wps_ok_nx, wps_ok_rt, wps_ok_bk, wps_ok_ct, wps_ok_xc, wps_bad, wps_lft, wps_seq, wps_nil, wps_ret, wps_expr, wps_asg, wps_if, wp_run, wps_for, wps_while, wp_comp, wp_var, wp_C, wp_bin, wp_un, wp_T, wp_Tb, wp_asBl, wp_truthBl, wp_bAnd, wp_bOr, wp_bNot, wp_eIf, wp_eAnd, wp_eOr, wp_eNot, blCase_bl, wp_chain, wp_aNil, wp_aCons, wp_tup, wp_lst, wp_lstM, wp_call, wp_cl1, wp_cl2, wp_cl3, wp_cl4, wp_cl5, wp_meth, wp_isi, wp_oNone, wp_oSome, wp_sl, wp_it, wp_range1, wp_range2, wp_bYes, gEq_str, gNe_str, gEq_int, gNe_int, gEq_bl, gNe_bl, gIs_bl, gIsNot_bl, gAdd_int, gSub_int, gC_int, gI_int, gAdd_str, gAdd_tup, gAdd_lst, gNeg_int, gIx_tup, gIx_lst, gLen_tup, gLen_lst, gLen_str, gInt_int, gInt_bl, gTuple_lst, gTuple_tup, gList_lst, gList_tup, gSl_tup, gSl_lst, gSl_fl, gSl_str, srcL_tup, srcL_lst, srcL_fl, srcL_str, srcR1_int, typN, startR, List.map_cons, List.map_nil, List.length_cons, List.length_nil, Nat.reduceAdd, Nat.reduceSub, Nat.zero_add, Nat.sub_self, Nat.sub_zero, List.replicate_zero, List.replicate_succ, List.cons_append, List.nil_append, List.append_nil, List.getElem?_cons_zero, List.getElem?_cons_succ, List.set_cons_zero, List.set_cons_succ, List.set_nil, List.getElem?_nil, Option.some.injEq, exists_eq_left', exists_eq_left, exists_eq_right, reduceCtorEq, false_and, and_false, true_and, and_true, exists_false, exists_const, wipeR, Nat.zero_le, String.reduceEq, D.int.injEq, D.str.injEq, D.bl.injEq, atI_0, atI_1, atI_2, atI_3, atI_4, beq_self_eq_true, not_true_eq_false, not_false_eq_true, Int.cast_ofNat_Int, Int.reduceEq, Int.reduceLE, Int.reduceLT, Int.reduceAdd, Int.reduceSub, Int.reduceMul, Int.reduceNeg, if_true, if_false, ite_true, ite_false, Bool.false_eq_true, if_neg, if_pos, decide_eq_true_eq, Bool.not_eq_true', decide_eq_false_iff_not, eq_self_iff_true, decide_true, decide_false, Bool.not_true, Bool.not_false]
  · rw [gAll_bls, List.toList_toArray]
    have : ((b.map fun c => decide (c ∈ a)).all id) = true := by simpa using hab
    rw [this]
    exact (fin_blO hS).mpr hF
def NameP (z : Str) : Prop := 1 ≤ z.length ∧ z.length ≤ 8 ∧ z ∉ basics ∧ ∀ c ∈ z.cps.toList, c ∈ small
theorem NameP.b {z : Str} (h : NameP z) : nameB z = true := by
  obtain ⟨a, b, c, d⟩ := h
  simp only [nameB, Bool.and_eq_true, decide_eq_true_eq, Bool.not_eq_true', decide_eq_false_iff_not, List.all_eq_true]
  exact ⟨⟨⟨a, b⟩, c⟩, d⟩
/-- a word that is a text -/
def WS (z : Str) : Prop := z.length ≤ 100 ∧ (z ∈ basics ∨ NameP z ∨ IsSh z)
theorem word_str {N : Nat} {z : Str} (hN : 2 ≤ N) (hS : OKS S) (h : WS z) (hF : F (.bl true) S) : wp (den fu N i_is_word [.str z] S) F E := by
  obtain ⟨m, rfl⟩ : ∃ m, N = m + 2 := ⟨N - 2, by omega⟩
  obtain ⟨hz, h⟩ := h
  show wp (runDef false 1 (b_is_word fu (den fu (m + 1))) _ _) _ _
  simp only [b_is_word, isiN_ss, k_BASICS_eq, gIn_strs (show iLst S (.tup (basics.map .str)) = some (basics.map .str) from rfl), fin_blO hS, wp_ok, wp_ret, wp_stuck, wp_bad, wp_bnd, wp_if, wp_fif, wps_ok_nx, wps_ok_rt, wps_ok_bk, wps_ok_ct, wps_ok_xc, wps_bad, wps_lft, wps_seq, wps_nil, wps_ret, wps_expr, wps_asg, wps_if, wp_run, wps_for, wps_while, wp_comp, wp_var, wp_C, wp_bin, wp_un, wp_T, wp_Tb, wp_asBl, wp_truthBl, wp_bAnd, wp_bOr, wp_bNot, wp_eIf, wp_eAnd, wp_eOr, wp_eNot, blCase_bl, wp_chain, wp_aNil, wp_aCons, wp_tup, wp_lst, wp_lstM, wp_call, wp_cl1, wp_cl2, wp_cl3, wp_cl4, wp_cl5, wp_meth, wp_isi, wp_oNone, wp_oSome, wp_sl, wp_it, wp_range1, wp_range2, wp_bYes, gEq_str, gNe_str, gEq_int, gNe_int, gEq_bl, gNe_bl, gIs_bl, gIsNot_bl, gAdd_int, gSub_int, gC_int, gI_int, gAdd_str, gAdd_tup, gAdd_lst, gNeg_int, gIx_tup, gIx_lst, gLen_tup, gLen_lst, gLen_str, gInt_int, gInt_bl, gTuple_lst, gTuple_tup, gList_lst, gList_tup, gSl_tup, gSl_lst, gSl_fl, gSl_str, srcL_tup, srcL_lst, srcL_fl, srcL_str, srcR1_int, typN, startR, List.map_cons, List.map_nil, List.length_cons, List.length_nil, Nat.reduceAdd, Nat.reduceSub, Nat.zero_add, Nat.sub_self, Nat.sub_zero, List.replicate_zero, List.replicate_succ, List.cons_append, List.nil_append, List.append_nil, List.getElem?_cons_zero, List.getElem?_cons_succ, List.set_cons_zero, List.set_cons_succ, List.set_nil, List.getElem?_nil, Option.some.injEq, exists_eq_left', exists_eq_left, exists_eq_right, reduceCtorEq, false_and, and_false, true_and, and_true, exists_false, exists_const, wipeR, Nat.zero_le, String.reduceEq, D.int.injEq, D.str.injEq, D.bl.injEq, atI_0, atI_1, atI_2, atI_3, atI_4, beq_self_eq_true, not_true_eq_false, not_false_eq_true, Int.cast_ofNat_Int, Int.reduceEq, Int.reduceLE, Int.reduceLT, Int.reduceAdd, Int.reduceSub, Int.reduceMul, Int.reduceNeg, if_true, if_false, ite_true, ite_false, Bool.false_eq_true, if_neg, if_pos, decide_eq_true_eq, Bool.not_eq_true', decide_eq_false_iff_not, eq_self_iff_true, decide_true, decide_false, Bool.not_true, Bool.not_false]
  by_cases hb : z ∈ basics
  · rw [if_pos hb]; exact hF
  · rw [if_neg hb]
    refine name_ok hS (small_line (by omega)) ?_
    rw [blCase_bl]
    cases hn : nameB z with
    | true => rw [if_pos rfl]; exact (fin_blO hS).mpr hF
    | false =>
      rw [if_neg Bool.false_ne_true]
      rcases h with h | h | h
      · exact absurd h hb
      · rw [h.b] at hn; cases hn
      · exact shuffle_ok hS h ((fin_blO hS).mpr hF)
def Num (d : D) : Prop := ∃ i : Int, d = .tup [.str "number", .int i] ∧ 0 ≤ i ∧ i < 1000000000000
def ThG (B : Nat) (Q : Str → Prop) : Nat → D → Prop
  | 0, d => Num d
  | k + 1, d => Num d ∨ (∃ ws, d = .tup [.str "row", .tup ws] ∧ ws.length ≤ B ∧ ∀ w ∈ ws, (∃ z, w = .str z ∧ WS z ∧ Q z) ∨ ∃ t, w = .tup [.str "push", t] ∧ ThG B Q k t) ∨
      (∃ ts, d = .tup [.str "list", .tup ts] ∧ ts.length ≤ B ∧ ∀ t ∈ ts, ThG B Q k t)
def WdG (B : Nat) (Q : Str → Prop) (k : Nat) (w : D) : Prop := (∃ z, w = .str z ∧ WS z ∧ Q z) ∨ ∃ t, w = .tup [.str "push", t] ∧ ThG B Q k t
theorem ThG.num {B : Nat} {Q : Str → Prop} {d : D} (h : Num d) : ∀ k, ThG B Q k d
  | 0 => h
  | _ + 1 => .inl h
theorem tr_push {t : D} (h : tr t) : tr (.tup [.str "push", t]) := by
  have h' : t.lo 0 = true := h
  simp [DL.tr, D.lo, D.los, h']
theorem ThG.tr {B : Nat} {Q : Str → Prop} : ∀ {k : Nat} {d : D}, ThG B Q k d → tr d
  | 0, d, ⟨i, e, _⟩ => by subst e; rfl
  | k + 1, d, h => by
    rcases h with ⟨i, rfl, _⟩ | ⟨ws, rfl, _, h⟩ | ⟨ts, rfl, _, h⟩
    · rfl
    · have : D.los 0 ws = true := trs fun w hw => by
        rcases h w hw with ⟨z, rfl, _⟩ | ⟨t, rfl, q⟩
        · rfl
        · exact tr_push (ThG.tr q)
      simp [DL.tr, D.lo, D.los, this]
    · have : D.los 0 ts = true := trs fun t ht => ThG.tr (h t ht)
      simp [DL.tr, D.lo, D.los, this]
theorem WdG.tr {B k : Nat} {Q : Str → Prop} {w : D} (h : WdG B Q k w) : tr w := by
  rcases h with ⟨z, rfl, _⟩ | ⟨t, rfl, q⟩
  · rfl
  · exact tr_push q.tr
theorem thing_ok {B : Nat} {Q : Str → Prop} (hB : B ≤ 16777216) : ∀ (k : Nat) (d : D) (N : Nat) (S : Sto) (F : D → Sto → Prop) (E : Exc → Sto → Prop), ThG B Q k d → 3 * k + 2 ≤ N → OKS S → F (.bl true) S → wp (den fu N i_is_thing [d] S) F E := by
  intro k
  induction k with
  | zero =>
    rintro d N S F E ⟨i, rfl, h0, h1⟩ hN hS hF
    obtain ⟨m, rfl⟩ : ∃ m, N = m + 2 := ⟨N - 2, by omega⟩
    show wp (runDef false 1 (b_is_thing fu (den fu (m + 1))) _ _) _ _
    simp only [b_is_thing, isiN_ss, isiN_tt, fin_blO hS, ofString_inj, wp_ok, wp_ret, wp_stuck, wp_bad, wp_bnd, wp_if, wp_fif, wps_ok_nx, wps_ok_rt, wps_ok_bk, wps_ok_ct, wps_ok_xc, wps_bad, wps_lft, wps_seq, wps_nil, wps_ret, wps_expr, wps_asg, wps_if, wp_run, wps_for, wps_while, wp_comp, wp_var, wp_C, wp_bin, wp_un, wp_T, wp_Tb, wp_asBl, wp_truthBl, wp_bAnd, wp_bOr, wp_bNot, wp_eIf, wp_eAnd, wp_eOr, wp_eNot, blCase_bl, wp_chain, wp_aNil, wp_aCons, wp_tup, wp_lst, wp_lstM, wp_call, wp_cl1, wp_cl2, wp_cl3, wp_cl4, wp_cl5, wp_meth, wp_isi, wp_oNone, wp_oSome, wp_sl, wp_it, wp_range1, wp_range2, wp_bYes, gEq_str, gNe_str, gEq_int, gNe_int, gEq_bl, gNe_bl, gIs_bl, gIsNot_bl, gAdd_int, gSub_int, gC_int, gI_int, gAdd_str, gAdd_tup, gAdd_lst, gNeg_int, gIx_tup, gIx_lst, gLen_tup, gLen_lst, gLen_str, gInt_int, gInt_bl, gTuple_lst, gTuple_tup, gList_lst, gList_tup, gSl_tup, gSl_lst, gSl_fl, gSl_str, srcL_tup, srcL_lst, srcL_fl, srcL_str, srcR1_int, typN, startR, List.map_cons, List.map_nil, List.length_cons, List.length_nil, Nat.reduceAdd, Nat.reduceSub, Nat.zero_add, Nat.sub_self, Nat.sub_zero, List.replicate_zero, List.replicate_succ, List.cons_append, List.nil_append, List.append_nil, List.getElem?_cons_zero, List.getElem?_cons_succ, List.set_cons_zero, List.set_cons_succ, List.set_nil, List.getElem?_nil, Option.some.injEq, exists_eq_left', exists_eq_left, exists_eq_right, reduceCtorEq, false_and, and_false, true_and, and_true, exists_false, exists_const, wipeR, Nat.zero_le, String.reduceEq, D.int.injEq, D.str.injEq, D.bl.injEq, atI_0, atI_1, atI_2, atI_3, atI_4, beq_self_eq_true, not_true_eq_false, not_false_eq_true, Int.cast_ofNat_Int, Int.reduceEq, Int.reduceLE, Int.reduceLT, Int.reduceAdd, Int.reduceSub, Int.reduceMul, Int.reduceNeg, if_true, if_false, ite_true, ite_false, Bool.false_eq_true, if_neg, if_pos, decide_eq_true_eq, Bool.not_eq_true', decide_eq_false_iff_not, eq_self_iff_true, decide_true, decide_false, Bool.not_true, Bool.not_false]
    refine number_ok hS ?_
    rw [show decide (0 ≤ i ∧ i < 1000000000000) = true from decide_eq_true ⟨h0, h1⟩]
    exact (fin_blO hS).mpr hF
  | succ k ih =>
    intro d N S F E hd hN hS hF
    obtain ⟨m, rfl⟩ : ∃ m, N = m + 3 := ⟨N - 3, by omega⟩
    have hm : 3 * k + 2 ≤ m := by omega
    show wp (runDef false 1 (b_is_thing fu (den fu (m + 2))) _ _) _ _
    rcases hd with ⟨i, rfl, h0, h1⟩ | ⟨ws, rfl, hl, hw⟩ | ⟨ts, rfl, hl, ht⟩
    · simp only [b_is_thing, isiN_ss, isiN_tt, fin_blO hS, ofString_inj, wp_ok, wp_ret, wp_stuck, wp_bad, wp_bnd, wp_if, wp_fif, wps_ok_nx, wps_ok_rt, wps_ok_bk, wps_ok_ct, wps_ok_xc, wps_bad, wps_lft, wps_seq, wps_nil, wps_ret, wps_expr, wps_asg, wps_if, wp_run, wps_for, wps_while, wp_comp, wp_var, wp_C, wp_bin, wp_un, wp_T, wp_Tb, wp_asBl, wp_truthBl, wp_bAnd, wp_bOr, wp_bNot, wp_eIf, wp_eAnd, wp_eOr, wp_eNot, blCase_bl, wp_chain, wp_aNil, wp_aCons, wp_tup, wp_lst, wp_lstM, wp_call, wp_cl1, wp_cl2, wp_cl3, wp_cl4, wp_cl5, wp_meth, wp_isi, wp_oNone, wp_oSome, wp_sl, wp_it, wp_range1, wp_range2, wp_bYes, gEq_str, gNe_str, gEq_int, gNe_int, gEq_bl, gNe_bl, gIs_bl, gIsNot_bl, gAdd_int, gSub_int, gC_int, gI_int, gAdd_str, gAdd_tup, gAdd_lst, gNeg_int, gIx_tup, gIx_lst, gLen_tup, gLen_lst, gLen_str, gInt_int, gInt_bl, gTuple_lst, gTuple_tup, gList_lst, gList_tup, gSl_tup, gSl_lst, gSl_fl, gSl_str, srcL_tup, srcL_lst, srcL_fl, srcL_str, srcR1_int, typN, startR, List.map_cons, List.map_nil, List.length_cons, List.length_nil, Nat.reduceAdd, Nat.reduceSub, Nat.zero_add, Nat.sub_self, Nat.sub_zero, List.replicate_zero, List.replicate_succ, List.cons_append, List.nil_append, List.append_nil, List.getElem?_cons_zero, List.getElem?_cons_succ, List.set_cons_zero, List.set_cons_succ, List.set_nil, List.getElem?_nil, Option.some.injEq, exists_eq_left', exists_eq_left, exists_eq_right, reduceCtorEq, false_and, and_false, true_and, and_true, exists_false, exists_const, wipeR, Nat.zero_le, String.reduceEq, D.int.injEq, D.str.injEq, D.bl.injEq, atI_0, atI_1, atI_2, atI_3, atI_4, beq_self_eq_true, not_true_eq_false, not_false_eq_true, Int.cast_ofNat_Int, Int.reduceEq, Int.reduceLE, Int.reduceLT, Int.reduceAdd, Int.reduceSub, Int.reduceMul, Int.reduceNeg, if_true, if_false, ite_true, ite_false, Bool.false_eq_true, if_neg, if_pos, decide_eq_true_eq, Bool.not_eq_true', decide_eq_false_iff_not, eq_self_iff_true, decide_true, decide_false, Bool.not_true, Bool.not_false]
      refine number_ok hS ?_
      rw [show decide (0 ≤ i ∧ i < 1000000000000) = true from decide_eq_true ⟨h0, h1⟩]
      exact (fin_blO hS).mpr hF
    · simp only [b_is_thing, isiN_ss, isiN_tt, fin_blO hS, ofString_inj, wp_ok, wp_ret, wp_stuck, wp_bad, wp_bnd, wp_if, wp_fif, wps_ok_nx, wps_ok_rt, wps_ok_bk, wps_ok_ct, wps_ok_xc, wps_bad, wps_lft, wps_seq, wps_nil, wps_ret, wps_expr, wps_asg, wps_if, wp_run, wps_for, wps_while, wp_comp, wp_var, wp_C, wp_bin, wp_un, wp_T, wp_Tb, wp_asBl, wp_truthBl, wp_bAnd, wp_bOr, wp_bNot, wp_eIf, wp_eAnd, wp_eOr, wp_eNot, blCase_bl, wp_chain, wp_aNil, wp_aCons, wp_tup, wp_lst, wp_lstM, wp_call, wp_cl1, wp_cl2, wp_cl3, wp_cl4, wp_cl5, wp_meth, wp_isi, wp_oNone, wp_oSome, wp_sl, wp_it, wp_range1, wp_range2, wp_bYes, gEq_str, gNe_str, gEq_int, gNe_int, gEq_bl, gNe_bl, gIs_bl, gIsNot_bl, gAdd_int, gSub_int, gC_int, gI_int, gAdd_str, gAdd_tup, gAdd_lst, gNeg_int, gIx_tup, gIx_lst, gLen_tup, gLen_lst, gLen_str, gInt_int, gInt_bl, gTuple_lst, gTuple_tup, gList_lst, gList_tup, gSl_tup, gSl_lst, gSl_fl, gSl_str, srcL_tup, srcL_lst, srcL_fl, srcL_str, srcR1_int, typN, startR, List.map_cons, List.map_nil, List.length_cons, List.length_nil, Nat.reduceAdd, Nat.reduceSub, Nat.zero_add, Nat.sub_self, Nat.sub_zero, List.replicate_zero, List.replicate_succ, List.cons_append, List.nil_append, List.append_nil, List.getElem?_cons_zero, List.getElem?_cons_succ, List.set_cons_zero, List.set_cons_succ, List.set_nil, List.getElem?_nil, Option.some.injEq, exists_eq_left', exists_eq_left, exists_eq_right, reduceCtorEq, false_and, and_false, true_and, and_true, exists_false, exists_const, wipeR, Nat.zero_le, String.reduceEq, D.int.injEq, D.str.injEq, D.bl.injEq, atI_0, atI_1, atI_2, atI_3, atI_4, beq_self_eq_true, not_true_eq_false, not_false_eq_true, Int.cast_ofNat_Int, Int.reduceEq, Int.reduceLE, Int.reduceLT, Int.reduceAdd, Int.reduceSub, Int.reduceMul, Int.reduceNeg, if_true, if_false, ite_true, ite_false, Bool.false_eq_true, if_neg, if_pos, decide_eq_true_eq, Bool.not_eq_true', decide_eq_false_iff_not, eq_self_iff_true, decide_true, decide_false, Bool.not_true, Bool.not_false]
      show wp (runDef false 2 (b_is_row fu (den fu (m + 1))) _ _) _ _
      simp only [b_is_row, isiN_tt, fin_blO hS, wp_ok, wp_ret, wp_stuck, wp_bad, wp_bnd, wp_if, wp_fif, wps_ok_nx, wps_ok_rt, wps_ok_bk, wps_ok_ct, wps_ok_xc, wps_bad, wps_lft, wps_seq, wps_nil, wps_ret, wps_expr, wps_asg, wps_if, wp_run, wps_for, wps_while, wp_comp, wp_var, wp_C, wp_bin, wp_un, wp_T, wp_Tb, wp_asBl, wp_truthBl, wp_bAnd, wp_bOr, wp_bNot, wp_eIf, wp_eAnd, wp_eOr, wp_eNot, blCase_bl, wp_chain, wp_aNil, wp_aCons, wp_tup, wp_lst, wp_lstM, wp_call, wp_cl1, wp_cl2, wp_cl3, wp_cl4, wp_cl5, wp_meth, wp_isi, wp_oNone, wp_oSome, wp_sl, wp_it, wp_range1, wp_range2, wp_bYes, gEq_str, gNe_str, gEq_int, gNe_int, gEq_bl, gNe_bl, gIs_bl, gIsNot_bl, gAdd_int, gSub_int, gC_int, gI_int, gAdd_str, gAdd_tup, gAdd_lst, gNeg_int, gIx_tup, gIx_lst, gLen_tup, gLen_lst, gLen_str, gInt_int, gInt_bl, gTuple_lst, gTuple_tup, gList_lst, gList_tup, gSl_tup, gSl_lst, gSl_fl, gSl_str, srcL_tup, srcL_lst, srcL_fl, srcL_str, srcR1_int, typN, startR, List.map_cons, List.map_nil, List.length_cons, List.length_nil, Nat.reduceAdd, Nat.reduceSub, Nat.zero_add, Nat.sub_self, Nat.sub_zero, List.replicate_zero, List.replicate_succ, List.cons_append, List.nil_append, List.append_nil, List.getElem?_cons_zero, List.getElem?_cons_succ, List.set_cons_zero, List.set_cons_succ, List.set_nil, List.getElem?_nil, Option.some.injEq, exists_eq_left', exists_eq_left, exists_eq_right, reduceCtorEq, false_and, and_false, true_and, and_true, exists_false, exists_const, wipeR, Nat.zero_le, String.reduceEq, D.int.injEq, D.str.injEq, D.bl.injEq, atI_0, atI_1, atI_2, atI_3, atI_4, beq_self_eq_true, not_true_eq_false, not_false_eq_true, Int.cast_ofNat_Int, Int.reduceEq, Int.reduceLE, Int.reduceLT, Int.reduceAdd, Int.reduceSub, Int.reduceMul, Int.reduceNeg, if_true, if_false, ite_true, ite_false, Bool.false_eq_true, if_neg, if_pos, decide_eq_true_eq, Bool.not_eq_true', decide_eq_false_iff_not, eq_self_iff_true, decide_true, decide_false, Bool.not_true, Bool.not_false]
      refine ⟨small_line (by omega), ?_⟩
      refine comp_pure (fun _ => .bl true) (fun w hwm => ?_) ?_
      · simp only [wp_ok, wp_ret, wp_stuck, wp_bad, wp_bnd, wp_if, wp_fif, wps_ok_nx, wps_ok_rt, wps_ok_bk, wps_ok_ct, wps_ok_xc, wps_bad, wps_lft, wps_seq, wps_nil, wps_ret, wps_expr, wps_asg, wps_if, wp_run, wps_for, wps_while, wp_comp, wp_var, wp_C, wp_bin, wp_un, wp_T, wp_Tb, wp_asBl, wp_truthBl, wp_bAnd, wp_bOr, wp_bNot, wp_eIf, wp_eAnd, wp_eOr, wp_eNot, blCase_bl, wp_chain, wp_aNil, wp_aCons, wp_tup, wp_lst, wp_lstM, wp_call, wp_cl1, wp_cl2, wp_cl3, wp_cl4, wp_cl5, wp_meth, wp_isi, wp_oNone, wp_oSome, wp_sl, wp_it, wp_range1, wp_range2, wp_bYes, gEq_str, gNe_str, gEq_int, gNe_int, gEq_bl, gNe_bl, gIs_bl, gIsNot_bl, gAdd_int, gSub_int, gC_int, gI_int, gAdd_str, gAdd_tup, gAdd_lst, gNeg_int, gIx_tup, gIx_lst, gLen_tup, gLen_lst, gLen_str, gInt_int, gInt_bl, gTuple_lst, gTuple_tup, gList_lst, gList_tup, gSl_tup, gSl_lst, gSl_fl, gSl_str, srcL_tup, srcL_lst, srcL_fl, srcL_str, srcR1_int, typN, startR, List.map_cons, List.map_nil, List.length_cons, List.length_nil, Nat.reduceAdd, Nat.reduceSub, Nat.zero_add, Nat.sub_self, Nat.sub_zero, List.replicate_zero, List.replicate_succ, List.cons_append, List.nil_append, List.append_nil, List.getElem?_cons_zero, List.getElem?_cons_succ, List.set_cons_zero, List.set_cons_succ, List.set_nil, List.getElem?_nil, Option.some.injEq, exists_eq_left', exists_eq_left, exists_eq_right, reduceCtorEq, false_and, and_false, true_and, and_true, exists_false, exists_const, wipeR, Nat.zero_le, String.reduceEq, D.int.injEq, D.str.injEq, D.bl.injEq, atI_0, atI_1, atI_2, atI_3, atI_4, beq_self_eq_true, not_true_eq_false, not_false_eq_true, Int.cast_ofNat_Int, Int.reduceEq, Int.reduceLE, Int.reduceLT, Int.reduceAdd, Int.reduceSub, Int.reduceMul, Int.reduceNeg, if_true, if_false, ite_true, ite_false, Bool.false_eq_true, if_neg, if_pos, decide_eq_true_eq, Bool.not_eq_true', decide_eq_false_iff_not, eq_self_iff_true, decide_true, decide_false, Bool.not_true, Bool.not_false]
        rcases hw w hwm with ⟨z, rfl, hz, _⟩ | ⟨t, rfl, ht⟩
        · exact word_str (by omega) hS hz ⟨rfl, rfl⟩
        · show wp (runDef false 1 (b_is_word fu (den fu m)) _ _) _ _
          simp only [b_is_word, isiN_ss, isiN_tt, isiN_ts, fin_blO hS, ofString_inj, wp_ok, wp_ret, wp_stuck, wp_bad, wp_bnd, wp_if, wp_fif, wps_ok_nx, wps_ok_rt, wps_ok_bk, wps_ok_ct, wps_ok_xc, wps_bad, wps_lft, wps_seq, wps_nil, wps_ret, wps_expr, wps_asg, wps_if, wp_run, wps_for, wps_while, wp_comp, wp_var, wp_C, wp_bin, wp_un, wp_T, wp_Tb, wp_asBl, wp_truthBl, wp_bAnd, wp_bOr, wp_bNot, wp_eIf, wp_eAnd, wp_eOr, wp_eNot, blCase_bl, wp_chain, wp_aNil, wp_aCons, wp_tup, wp_lst, wp_lstM, wp_call, wp_cl1, wp_cl2, wp_cl3, wp_cl4, wp_cl5, wp_meth, wp_isi, wp_oNone, wp_oSome, wp_sl, wp_it, wp_range1, wp_range2, wp_bYes, gEq_str, gNe_str, gEq_int, gNe_int, gEq_bl, gNe_bl, gIs_bl, gIsNot_bl, gAdd_int, gSub_int, gC_int, gI_int, gAdd_str, gAdd_tup, gAdd_lst, gNeg_int, gIx_tup, gIx_lst, gLen_tup, gLen_lst, gLen_str, gInt_int, gInt_bl, gTuple_lst, gTuple_tup, gList_lst, gList_tup, gSl_tup, gSl_lst, gSl_fl, gSl_str, srcL_tup, srcL_lst, srcL_fl, srcL_str, srcR1_int, typN, startR, List.map_cons, List.map_nil, List.length_cons, List.length_nil, Nat.reduceAdd, Nat.reduceSub, Nat.zero_add, Nat.sub_self, Nat.sub_zero, List.replicate_zero, List.replicate_succ, List.cons_append, List.nil_append, List.append_nil, List.getElem?_cons_zero, List.getElem?_cons_succ, List.set_cons_zero, List.set_cons_succ, List.set_nil, List.getElem?_nil, Option.some.injEq, exists_eq_left', exists_eq_left, exists_eq_right, reduceCtorEq, false_and, and_false, true_and, and_true, exists_false, exists_const, wipeR, Nat.zero_le, String.reduceEq, D.int.injEq, D.str.injEq, D.bl.injEq, atI_0, atI_1, atI_2, atI_3, atI_4, beq_self_eq_true, not_true_eq_false, not_false_eq_true, Int.cast_ofNat_Int, Int.reduceEq, Int.reduceLE, Int.reduceLT, Int.reduceAdd, Int.reduceSub, Int.reduceMul, Int.reduceNeg, if_true, if_false, ite_true, ite_false, Bool.false_eq_true, if_neg, if_pos, decide_eq_true_eq, Bool.not_eq_true', decide_eq_false_iff_not, eq_self_iff_true, decide_true, decide_false, Bool.not_true, Bool.not_false]
          exact ih t m S _ _ ht hm hS ((fin_blO hS).mpr ⟨rfl, rfl⟩)
      · have e : (ws.map fun _ => D.bl true) = (ws.map fun _ => true).map D.bl := by simp
        rw [e, gAll_bls, show ((ws.map fun _ => true).all id) = true by simp]
        exact (fin_blO hS).mpr ((fin_blO hS).mpr hF)
    · simp only [b_is_thing, isiN_ss, isiN_tt, fin_blO hS, ofString_inj, wp_ok, wp_ret, wp_stuck, wp_bad, wp_bnd, wp_if, wp_fif, wps_ok_nx, wps_ok_rt, wps_ok_bk, wps_ok_ct, wps_ok_xc, wps_bad, wps_lft, wps_seq, wps_nil, wps_ret, wps_expr, wps_asg, wps_if, wp_run, wps_for, wps_while, wp_comp, wp_var, wp_C, wp_bin, wp_un, wp_T, wp_Tb, wp_asBl, wp_truthBl, wp_bAnd, wp_bOr, wp_bNot, wp_eIf, wp_eAnd, wp_eOr, wp_eNot, blCase_bl, wp_chain, wp_aNil, wp_aCons, wp_tup, wp_lst, wp_lstM, wp_call, wp_cl1, wp_cl2, wp_cl3, wp_cl4, wp_cl5, wp_meth, wp_isi, wp_oNone, wp_oSome, wp_sl, wp_it, wp_range1, wp_range2, wp_bYes, gEq_str, gNe_str, gEq_int, gNe_int, gEq_bl, gNe_bl, gIs_bl, gIsNot_bl, gAdd_int, gSub_int, gC_int, gI_int, gAdd_str, gAdd_tup, gAdd_lst, gNeg_int, gIx_tup, gIx_lst, gLen_tup, gLen_lst, gLen_str, gInt_int, gInt_bl, gTuple_lst, gTuple_tup, gList_lst, gList_tup, gSl_tup, gSl_lst, gSl_fl, gSl_str, srcL_tup, srcL_lst, srcL_fl, srcL_str, srcR1_int, typN, startR, List.map_cons, List.map_nil, List.length_cons, List.length_nil, Nat.reduceAdd, Nat.reduceSub, Nat.zero_add, Nat.sub_self, Nat.sub_zero, List.replicate_zero, List.replicate_succ, List.cons_append, List.nil_append, List.append_nil, List.getElem?_cons_zero, List.getElem?_cons_succ, List.set_cons_zero, List.set_cons_succ, List.set_nil, List.getElem?_nil, Option.some.injEq, exists_eq_left', exists_eq_left, exists_eq_right, reduceCtorEq, false_and, and_false, true_and, and_true, exists_false, exists_const, wipeR, Nat.zero_le, String.reduceEq, D.int.injEq, D.str.injEq, D.bl.injEq, atI_0, atI_1, atI_2, atI_3, atI_4, beq_self_eq_true, not_true_eq_false, not_false_eq_true, Int.cast_ofNat_Int, Int.reduceEq, Int.reduceLE, Int.reduceLT, Int.reduceAdd, Int.reduceSub, Int.reduceMul, Int.reduceNeg, if_true, if_false, ite_true, ite_false, Bool.false_eq_true, if_neg, if_pos, decide_eq_true_eq, Bool.not_eq_true', decide_eq_false_iff_not, eq_self_iff_true, decide_true, decide_false, Bool.not_true, Bool.not_false]
      show wp (runDef false 2 (b_is_stack fu (den fu (m + 1))) _ _) _ _
      simp only [b_is_stack, isiN_tt, fin_blO hS, wp_ok, wp_ret, wp_stuck, wp_bad, wp_bnd, wp_if, wp_fif, wps_ok_nx, wps_ok_rt, wps_ok_bk, wps_ok_ct, wps_ok_xc, wps_bad, wps_lft, wps_seq, wps_nil, wps_ret, wps_expr, wps_asg, wps_if, wp_run, wps_for, wps_while, wp_comp, wp_var, wp_C, wp_bin, wp_un, wp_T, wp_Tb, wp_asBl, wp_truthBl, wp_bAnd, wp_bOr, wp_bNot, wp_eIf, wp_eAnd, wp_eOr, wp_eNot, blCase_bl, wp_chain, wp_aNil, wp_aCons, wp_tup, wp_lst, wp_lstM, wp_call, wp_cl1, wp_cl2, wp_cl3, wp_cl4, wp_cl5, wp_meth, wp_isi, wp_oNone, wp_oSome, wp_sl, wp_it, wp_range1, wp_range2, wp_bYes, gEq_str, gNe_str, gEq_int, gNe_int, gEq_bl, gNe_bl, gIs_bl, gIsNot_bl, gAdd_int, gSub_int, gC_int, gI_int, gAdd_str, gAdd_tup, gAdd_lst, gNeg_int, gIx_tup, gIx_lst, gLen_tup, gLen_lst, gLen_str, gInt_int, gInt_bl, gTuple_lst, gTuple_tup, gList_lst, gList_tup, gSl_tup, gSl_lst, gSl_fl, gSl_str, srcL_tup, srcL_lst, srcL_fl, srcL_str, srcR1_int, typN, startR, List.map_cons, List.map_nil, List.length_cons, List.length_nil, Nat.reduceAdd, Nat.reduceSub, Nat.zero_add, Nat.sub_self, Nat.sub_zero, List.replicate_zero, List.replicate_succ, List.cons_append, List.nil_append, List.append_nil, List.getElem?_cons_zero, List.getElem?_cons_succ, List.set_cons_zero, List.set_cons_succ, List.set_nil, List.getElem?_nil, Option.some.injEq, exists_eq_left', exists_eq_left, exists_eq_right, reduceCtorEq, false_and, and_false, true_and, and_true, exists_false, exists_const, wipeR, Nat.zero_le, String.reduceEq, D.int.injEq, D.str.injEq, D.bl.injEq, atI_0, atI_1, atI_2, atI_3, atI_4, beq_self_eq_true, not_true_eq_false, not_false_eq_true, Int.cast_ofNat_Int, Int.reduceEq, Int.reduceLE, Int.reduceLT, Int.reduceAdd, Int.reduceSub, Int.reduceMul, Int.reduceNeg, if_true, if_false, ite_true, ite_false, Bool.false_eq_true, if_neg, if_pos, decide_eq_true_eq, Bool.not_eq_true', decide_eq_false_iff_not, eq_self_iff_true, decide_true, decide_false, Bool.not_true, Bool.not_false]
      refine ⟨small_line (by omega), ?_⟩
      refine comp_pure (fun _ => .bl true) (fun t htm => ?_) ?_
      · simp only [wp_ok, wp_ret, wp_stuck, wp_bad, wp_bnd, wp_if, wp_fif, wps_ok_nx, wps_ok_rt, wps_ok_bk, wps_ok_ct, wps_ok_xc, wps_bad, wps_lft, wps_seq, wps_nil, wps_ret, wps_expr, wps_asg, wps_if, wp_run, wps_for, wps_while, wp_comp, wp_var, wp_C, wp_bin, wp_un, wp_T, wp_Tb, wp_asBl, wp_truthBl, wp_bAnd, wp_bOr, wp_bNot, wp_eIf, wp_eAnd, wp_eOr, wp_eNot, blCase_bl, wp_chain, wp_aNil, wp_aCons, wp_tup, wp_lst, wp_lstM, wp_call, wp_cl1, wp_cl2, wp_cl3, wp_cl4, wp_cl5, wp_meth, wp_isi, wp_oNone, wp_oSome, wp_sl, wp_it, wp_range1, wp_range2, wp_bYes, gEq_str, gNe_str, gEq_int, gNe_int, gEq_bl, gNe_bl, gIs_bl, gIsNot_bl, gAdd_int, gSub_int, gC_int, gI_int, gAdd_str, gAdd_tup, gAdd_lst, gNeg_int, gIx_tup, gIx_lst, gLen_tup, gLen_lst, gLen_str, gInt_int, gInt_bl, gTuple_lst, gTuple_tup, gList_lst, gList_tup, gSl_tup, gSl_lst, gSl_fl, gSl_str, srcL_tup, srcL_lst, srcL_fl, srcL_str, srcR1_int, typN, startR, List.map_cons, List.map_nil, List.length_cons, List.length_nil, Nat.reduceAdd, Nat.reduceSub, Nat.zero_add, Nat.sub_self, Nat.sub_zero, List.replicate_zero, List.replicate_succ, List.cons_append, List.nil_append, List.append_nil, List.getElem?_cons_zero, List.getElem?_cons_succ, List.set_cons_zero, List.set_cons_succ, List.set_nil, List.getElem?_nil, Option.some.injEq, exists_eq_left', exists_eq_left, exists_eq_right, reduceCtorEq, false_and, and_false, true_and, and_true, exists_false, exists_const, wipeR, Nat.zero_le, String.reduceEq, D.int.injEq, D.str.injEq, D.bl.injEq, atI_0, atI_1, atI_2, atI_3, atI_4, beq_self_eq_true, not_true_eq_false, not_false_eq_true, Int.cast_ofNat_Int, Int.reduceEq, Int.reduceLE, Int.reduceLT, Int.reduceAdd, Int.reduceSub, Int.reduceMul, Int.reduceNeg, if_true, if_false, ite_true, ite_false, Bool.false_eq_true, if_neg, if_pos, decide_eq_true_eq, Bool.not_eq_true', decide_eq_false_iff_not, eq_self_iff_true, decide_true, decide_false, Bool.not_true, Bool.not_false]
        exact ih t (m + 1) S _ _ (ht t htm) (by omega) hS ⟨rfl, rfl⟩
      · have e : (ts.map fun _ => D.bl true) = (ts.map fun _ => true).map D.bl := by simp
        rw [e, gAll_bls, show ((ts.map fun _ => true).all id) = true by simp]
        exact (fin_blO hS).mpr ((fin_blO hS).mpr hF)
theorem row_ok {B k N : Nat} {Q : Str → Prop} {ws : List D} (hB : B ≤ 16777216) (hl : ws.length ≤ B) (hw : ∀ w ∈ ws, WdG B Q k w) (hN : 3 * k + 4 ≤ N) (hS : OKS S) (hF : F (.bl true) S) : wp (den fu N i_is_row [.tup ws] S) F E := by
  obtain ⟨m, rfl⟩ : ∃ m, N = m + 2 := ⟨N - 2, by omega⟩
  show wp (runDef false 2 (b_is_row fu (den fu (m + 1))) _ _) _ _
  simp only [b_is_row, isiN_tt, fin_blO hS, wp_ok, wp_ret, wp_stuck, wp_bad, wp_bnd, wp_if, wp_fif, wps_ok_nx, wps_ok_rt, wps_ok_bk, wps_ok_ct, wps_ok_xc, wps_bad, wps_lft, wps_seq, wps_nil, wps_ret, wps_expr, wps_asg, wps_if, wp_run, wps_for, wps_while, wp_comp, wp_var, wp_C, wp_bin, wp_un, wp_T, wp_Tb, wp_asBl, wp_truthBl, wp_bAnd, wp_bOr, wp_bNot, wp_eIf, wp_eAnd, wp_eOr, wp_eNot, blCase_bl, wp_chain, wp_aNil, wp_aCons, wp_tup, wp_lst, wp_lstM, wp_call, wp_cl1, wp_cl2, wp_cl3, wp_cl4, wp_cl5, wp_meth, wp_isi, wp_oNone, wp_oSome, wp_sl, wp_it, wp_range1, wp_range2, wp_bYes, gEq_str, gNe_str, gEq_int, gNe_int, gEq_bl, gNe_bl, gIs_bl, gIsNot_bl, gAdd_int, gSub_int, gC_int, gI_int, gAdd_str, gAdd_tup, gAdd_lst, gNeg_int, gIx_tup, gIx_lst, gLen_tup, gLen_lst, gLen_str, gInt_int, gInt_bl, gTuple_lst, gTuple_tup, gList_lst, gList_tup, gSl_tup, gSl_lst, gSl_fl, gSl_str, srcL_tup, srcL_lst, srcL_fl, srcL_str, srcR1_int, typN, startR, List.map_cons, List.map_nil, List.length_cons, List.length_nil, Nat.reduceAdd, Nat.reduceSub, Nat.zero_add, Nat.sub_self, Nat.sub_zero, List.replicate_zero, List.replicate_succ, List.cons_append, List.nil_append, List.append_nil, List.getElem?_cons_zero, List.getElem?_cons_succ, List.set_cons_zero, List.set_cons_succ, List.set_nil, List.getElem?_nil, Option.some.injEq, exists_eq_left', exists_eq_left, exists_eq_right, reduceCtorEq, false_and, and_false, true_and, and_true, exists_false, exists_const, wipeR, Nat.zero_le, String.reduceEq, D.int.injEq, D.str.injEq, D.bl.injEq, atI_0, atI_1, atI_2, atI_3, atI_4, beq_self_eq_true, not_true_eq_false, not_false_eq_true, Int.cast_ofNat_Int, Int.reduceEq, Int.reduceLE, Int.reduceLT, Int.reduceAdd, Int.reduceSub, Int.reduceMul, Int.reduceNeg, if_true, if_false, ite_true, ite_false, Bool.false_eq_true, if_neg, if_pos, decide_eq_true_eq, Bool.not_eq_true', decide_eq_false_iff_not, eq_self_iff_true, decide_true, decide_false, Bool.not_true, Bool.not_false]
  refine ⟨small_line (by omega), ?_⟩
  refine comp_pure (fun _ => .bl true) (fun w hwm => ?_) ?_
  · simp only [wp_ok, wp_ret, wp_stuck, wp_bad, wp_bnd, wp_if, wp_fif, wps_ok_nx, wps_ok_rt, wps_ok_bk, wps_ok_ct, wps_ok_xc, wps_bad, wps_lft, wps_seq, wps_nil, wps_ret, wps_expr, wps_asg, wps_if, wp_run, wps_for, wps_while, wp_comp, wp_var, wp_C, wp_bin, wp_un, wp_T, wp_Tb, wp_asBl, wp_truthBl, wp_bAnd, wp_bOr, wp_bNot, wp_eIf, wp_eAnd, wp_eOr, wp_eNot, blCase_bl, wp_chain, wp_aNil, wp_aCons, wp_tup, wp_lst, wp_lstM, wp_call, wp_cl1, wp_cl2, wp_cl3, wp_cl4, wp_cl5, wp_meth, wp_isi, wp_oNone, wp_oSome, wp_sl, wp_it, wp_range1, wp_range2, wp_bYes, gEq_str, gNe_str, gEq_int, gNe_int, gEq_bl, gNe_bl, gIs_bl, gIsNot_bl, gAdd_int, gSub_int, gC_int, gI_int, gAdd_str, gAdd_tup, gAdd_lst, gNeg_int, gIx_tup, gIx_lst, gLen_tup, gLen_lst, gLen_str, gInt_int, gInt_bl, gTuple_lst, gTuple_tup, gList_lst, gList_tup, gSl_tup, gSl_lst, gSl_fl, gSl_str, srcL_tup, srcL_lst, srcL_fl, srcL_str, srcR1_int, typN, startR, List.map_cons, List.map_nil, List.length_cons, List.length_nil, Nat.reduceAdd, Nat.reduceSub, Nat.zero_add, Nat.sub_self, Nat.sub_zero, List.replicate_zero, List.replicate_succ, List.cons_append, List.nil_append, List.append_nil, List.getElem?_cons_zero, List.getElem?_cons_succ, List.set_cons_zero, List.set_cons_succ, List.set_nil, List.getElem?_nil, Option.some.injEq, exists_eq_left', exists_eq_left, exists_eq_right, reduceCtorEq, false_and, and_false, true_and, and_true, exists_false, exists_const, wipeR, Nat.zero_le, String.reduceEq, D.int.injEq, D.str.injEq, D.bl.injEq, atI_0, atI_1, atI_2, atI_3, atI_4, beq_self_eq_true, not_true_eq_false, not_false_eq_true, Int.cast_ofNat_Int, Int.reduceEq, Int.reduceLE, Int.reduceLT, Int.reduceAdd, Int.reduceSub, Int.reduceMul, Int.reduceNeg, if_true, if_false, ite_true, ite_false, Bool.false_eq_true, if_neg, if_pos, decide_eq_true_eq, Bool.not_eq_true', decide_eq_false_iff_not, eq_self_iff_true, decide_true, decide_false, Bool.not_true, Bool.not_false]
    rcases hw w hwm with ⟨z, rfl, hz, _⟩ | ⟨t, rfl, ht⟩
    · exact word_str (by omega) hS hz ⟨rfl, rfl⟩
    · show wp (runDef false 1 (b_is_word fu (den fu m)) _ _) _ _
      simp only [b_is_word, isiN_ss, isiN_tt, isiN_ts, fin_blO hS, ofString_inj, wp_ok, wp_ret, wp_stuck, wp_bad, wp_bnd, wp_if, wp_fif, wps_ok_nx, wps_ok_rt, wps_ok_bk, wps_ok_ct, wps_ok_xc, wps_bad, wps_lft, wps_seq, wps_nil, wps_ret, wps_expr, wps_asg, wps_if, wp_run, wps_for, wps_while, wp_comp, wp_var, wp_C, wp_bin, wp_un, wp_T, wp_Tb, wp_asBl, wp_truthBl, wp_bAnd, wp_bOr, wp_bNot, wp_eIf, wp_eAnd, wp_eOr, wp_eNot, blCase_bl, wp_chain, wp_aNil, wp_aCons, wp_tup, wp_lst, wp_lstM, wp_call, wp_cl1, wp_cl2, wp_cl3, wp_cl4, wp_cl5, wp_meth, wp_isi, wp_oNone, wp_oSome, wp_sl, wp_it, wp_range1, wp_range2, wp_bYes, gEq_str, gNe_str, gEq_int, gNe_int, gEq_bl, gNe_bl, gIs_bl, gIsNot_bl, gAdd_int, gSub_int, gC_int, gI_int, gAdd_str, gAdd_tup, gAdd_lst, gNeg_int, gIx_tup, gIx_lst, gLen_tup, gLen_lst, gLen_str, gInt_int, gInt_bl, gTuple_lst, gTuple_tup, gList_lst, gList_tup, gSl_tup, gSl_lst, gSl_fl, gSl_str, srcL_tup, srcL_lst, srcL_fl, srcL_str, srcR1_int, typN, startR, List.map_cons, List.map_nil, List.length_cons, List.length_nil, Nat.reduceAdd, Nat.reduceSub, Nat.zero_add, Nat.sub_self, Nat.sub_zero, List.replicate_zero, List.replicate_succ, List.cons_append, List.nil_append, List.append_nil, List.getElem?_cons_zero, List.getElem?_cons_succ, List.set_cons_zero, List.set_cons_succ, List.set_nil, List.getElem?_nil, Option.some.injEq, exists_eq_left', exists_eq_left, exists_eq_right, reduceCtorEq, false_and, and_false, true_and, and_true, exists_false, exists_const, wipeR, Nat.zero_le, String.reduceEq, D.int.injEq, D.str.injEq, D.bl.injEq, atI_0, atI_1, atI_2, atI_3, atI_4, beq_self_eq_true, not_true_eq_false, not_false_eq_true, Int.cast_ofNat_Int, Int.reduceEq, Int.reduceLE, Int.reduceLT, Int.reduceAdd, Int.reduceSub, Int.reduceMul, Int.reduceNeg, if_true, if_false, ite_true, ite_false, Bool.false_eq_true, if_neg, if_pos, decide_eq_true_eq, Bool.not_eq_true', decide_eq_false_iff_not, eq_self_iff_true, decide_true, decide_false, Bool.not_true, Bool.not_false]
      exact thing_ok hB k t m S _ _ ht (by omega) hS ((fin_blO hS).mpr ⟨rfl, rfl⟩)
  · have e : (ws.map fun _ => D.bl true) = (ws.map fun _ => true).map D.bl := by simp
    rw [e, gAll_bls, show ((ws.map fun _ => true).all id) = true by simp]
    exact (fin_blO hS).mpr hF
theorem stack_ok {B k N : Nat} {Q : Str → Prop} {ts : List D} (hB : B ≤ 16777216) (hl : ts.length ≤ B) (ht : ∀ t ∈ ts, ThG B Q k t) (hN : 3 * k + 4 ≤ N) (hS : OKS S) (hF : F (.bl true) S) : wp (den fu N i_is_stack [.tup ts] S) F E := by
  obtain ⟨m, rfl⟩ : ∃ m, N = m + 1 := ⟨N - 1, by omega⟩
  show wp (runDef false 2 (b_is_stack fu (den fu m)) _ _) _ _
  simp only [b_is_stack, isiN_tt, fin_blO hS, wp_ok, wp_ret, wp_stuck, wp_bad, wp_bnd, wp_if, wp_fif, wps_ok_nx, wps_ok_rt, wps_ok_bk, wps_ok_ct, wps_ok_xc, wps_bad, wps_lft, wps_seq, wps_nil, wps_ret, wps_expr, wps_asg, wps_if, wp_run, wps_for, wps_while, wp_comp, wp_var, wp_C, wp_bin, wp_un, wp_T, wp_Tb, wp_asBl, wp_truthBl, wp_bAnd, wp_bOr, wp_bNot, wp_eIf, wp_eAnd, wp_eOr, wp_eNot, blCase_bl, wp_chain, wp_aNil, wp_aCons, wp_tup, wp_lst, wp_lstM, wp_call, wp_cl1, wp_cl2, wp_cl3, wp_cl4, wp_cl5, wp_meth, wp_isi, wp_oNone, wp_oSome, wp_sl, wp_it, wp_range1, wp_range2, wp_bYes, gEq_str, gNe_str, gEq_int, gNe_int, gEq_bl, gNe_bl, gIs_bl, gIsNot_bl, gAdd_int, gSub_int, gC_int, gI_int, gAdd_str, gAdd_tup, gAdd_lst, gNeg_int, gIx_tup, gIx_lst, gLen_tup, gLen_lst, gLen_str, gInt_int, gInt_bl, gTuple_lst, gTuple_tup, gList_lst, gList_tup, gSl_tup, gSl_lst, gSl_fl, gSl_str, srcL_tup, srcL_lst, srcL_fl, srcL_str, srcR1_int, typN, startR, List.map_cons, List.map_nil, List.length_cons, List.length_nil, Nat.reduceAdd, Nat.reduceSub, Nat.zero_add, Nat.sub_self, Nat.sub_zero, List.replicate_zero, List.replicate_succ, List.cons_append, List.nil_append, List.append_nil, List.getElem?_cons_zero, List.getElem?_cons_succ, List.set_cons_zero, List.set_cons_succ, List.set_nil, List.getElem?_nil, Option.some.injEq, exists_eq_left', exists_eq_left, exists_eq_right, reduceCtorEq, false_and, and_false, true_and, and_true, exists_false, exists_const, wipeR, Nat.zero_le, String.reduceEq, D.int.injEq, D.str.injEq, D.bl.injEq, atI_0, atI_1, atI_2, atI_3, atI_4, beq_self_eq_true, not_true_eq_false, not_false_eq_true, Int.cast_ofNat_Int, Int.reduceEq, Int.reduceLE, Int.reduceLT, Int.reduceAdd, Int.reduceSub, Int.reduceMul, Int.reduceNeg, if_true, if_false, ite_true, ite_false, Bool.false_eq_true, if_neg, if_pos, decide_eq_true_eq, Bool.not_eq_true', decide_eq_false_iff_not, eq_self_iff_true, decide_true, decide_false, Bool.not_true, Bool.not_false]
  refine ⟨small_line (by omega), ?_⟩
  refine comp_pure (fun _ => .bl true) (fun t htm => ?_) ?_
  · simp only [wp_ok, wp_ret, wp_stuck, wp_bad, wp_bnd, wp_if, wp_fif, wps_ok_nx, wps_ok_rt, wps_ok_bk, wps_ok_ct, wps_ok_xc, wps_bad, wps_lft, wps_seq, wps_nil, wps_ret, wps_expr, wps_asg, wps_if, wp_run, wps_for, wps_while, wp_comp, wp_var, wp_C, wp_bin, wp_un, wp_T, wp_Tb, wp_asBl, wp_truthBl, wp_bAnd, wp_bOr, wp_bNot, wp_eIf, wp_eAnd, wp_eOr, wp_eNot, blCase_bl, wp_chain, wp_aNil, wp_aCons, wp_tup, wp_lst, wp_lstM, wp_call, wp_cl1, wp_cl2, wp_cl3, wp_cl4, wp_cl5, wp_meth, wp_isi, wp_oNone, wp_oSome, wp_sl, wp_it, wp_range1, wp_range2, wp_bYes, gEq_str, gNe_str, gEq_int, gNe_int, gEq_bl, gNe_bl, gIs_bl, gIsNot_bl, gAdd_int, gSub_int, gC_int, gI_int, gAdd_str, gAdd_tup, gAdd_lst, gNeg_int, gIx_tup, gIx_lst, gLen_tup, gLen_lst, gLen_str, gInt_int, gInt_bl, gTuple_lst, gTuple_tup, gList_lst, gList_tup, gSl_tup, gSl_lst, gSl_fl, gSl_str, srcL_tup, srcL_lst, srcL_fl, srcL_str, srcR1_int, typN, startR, List.map_cons, List.map_nil, List.length_cons, List.length_nil, Nat.reduceAdd, Nat.reduceSub, Nat.zero_add, Nat.sub_self, Nat.sub_zero, List.replicate_zero, List.replicate_succ, List.cons_append, List.nil_append, List.append_nil, List.getElem?_cons_zero, List.getElem?_cons_succ, List.set_cons_zero, List.set_cons_succ, List.set_nil, List.getElem?_nil, Option.some.injEq, exists_eq_left', exists_eq_left, exists_eq_right, reduceCtorEq, false_and, and_false, true_and, and_true, exists_false, exists_const, wipeR, Nat.zero_le, String.reduceEq, D.int.injEq, D.str.injEq, D.bl.injEq, atI_0, atI_1, atI_2, atI_3, atI_4, beq_self_eq_true, not_true_eq_false, not_false_eq_true, Int.cast_ofNat_Int, Int.reduceEq, Int.reduceLE, Int.reduceLT, Int.reduceAdd, Int.reduceSub, Int.reduceMul, Int.reduceNeg, if_true, if_false, ite_true, ite_false, Bool.false_eq_true, if_neg, if_pos, decide_eq_true_eq, Bool.not_eq_true', decide_eq_false_iff_not, eq_self_iff_true, decide_true, decide_false, Bool.not_true, Bool.not_false]
    exact thing_ok hB k t m S _ _ (ht t htm) (by omega) hS ⟨rfl, rfl⟩
  · have e : (ts.map fun _ => D.bl true) = (ts.map fun _ => true).map D.bl := by simp
    rw [e, gAll_bls, show ((ts.map fun _ => true).all id) = true by simp]
    exact (fin_blO hS).mpr hF
end K69

namespace K69
open PySem L2 DL
variable {fu n : Nat} {R S : Sto} {F : D → Sto → Prop} {E : Exc → Sto → Prop}
/-! the draws -/
theorem mixed_ok {x y : Int} (hS : OKS S) (hF : ∀ v : Int, F (.int v) S) : wp (den fu (n + 1) i_l_mixed [.int x, .int y] S) F E := by
  show wp (runDef false 3 (b_l_mixed fu (den fu n)) _ _) _ _
  simp only [b_l_mixed, fin_intO hS, wp_ok, wp_ret, wp_stuck, wp_bad, wp_bnd, wp_if, wp_fif, wps_ok_nx, wps_ok_rt, wps_ok_bk, wps_ok_ct, wps_ok_xc, wps_bad, wps_lft, wps_seq, wps_nil, wps_ret, wps_expr, wps_asg, wps_if, wp_run, wps_for, wps_while, wp_comp, wp_var, wp_C, wp_bin, wp_un, wp_T, wp_Tb, wp_asBl, wp_truthBl, wp_bAnd, wp_bOr, wp_bNot, wp_eIf, wp_eAnd, wp_eOr, wp_eNot, blCase_bl, wp_chain, wp_aNil, wp_aCons, wp_tup, wp_lst, wp_lstM, wp_call, wp_cl1, wp_cl2, wp_cl3, wp_cl4, wp_cl5, wp_meth, wp_isi, wp_oNone, wp_oSome, wp_sl, wp_it, wp_range1, wp_range2, wp_bYes, gEq_str, gNe_str, gEq_int, gNe_int, gEq_bl, gNe_bl, gIs_bl, gIsNot_bl, gAdd_int, gSub_int, gC_int, gI_int, gAdd_str, gAdd_tup, gAdd_lst, gNeg_int, gIx_tup, gIx_lst, gLen_tup, gLen_lst, gLen_str, gInt_int, gInt_bl, gTuple_lst, gTuple_tup, gList_lst, gList_tup, gSl_tup, gSl_lst, gSl_fl, gSl_str, srcL_tup, srcL_lst, srcL_fl, srcL_str, srcR1_int, typN, startR, List.map_cons, List.map_nil, List.length_cons, List.length_nil, Nat.reduceAdd, Nat.reduceSub, Nat.zero_add, Nat.sub_self, Nat.sub_zero, List.replicate_zero, List.replicate_succ, List.cons_append, List.nil_append, List.append_nil, List.getElem?_cons_zero, List.getElem?_cons_succ, List.set_cons_zero, List.set_cons_succ, List.set_nil, List.getElem?_nil, Option.some.injEq, exists_eq_left', exists_eq_left, exists_eq_right, reduceCtorEq, false_and, and_false, true_and, and_true, exists_false, exists_const, wipeR, Nat.zero_le, String.reduceEq, D.int.injEq, D.str.injEq, D.bl.injEq, atI_0, atI_1, atI_2, atI_3, atI_4, beq_self_eq_true, not_true_eq_false, not_false_eq_true, Int.cast_ofNat_Int, Int.reduceEq, Int.reduceLE, Int.reduceLT, Int.reduceAdd, Int.reduceSub, Int.reduceMul, Int.reduceNeg, if_true, if_false, ite_true, ite_false, Bool.false_eq_true, if_neg, if_pos, decide_eq_true_eq, Bool.not_eq_true', decide_eq_false_iff_not, eq_self_iff_true, decide_true, decide_false, Bool.not_true, Bool.not_false]
  have h3 := Int.emod_nonneg ((x % 2147483629 + 7919 * y + 1) * 48271) (show (2147483647 : Int) ≠ 0 by decide)
  have h4 := Int.emod_lt_of_pos ((x % 2147483629 + 7919 * y + 1) * 48271) (show (0 : Int) < 2147483647 by decide)
  generalize ((x % 2147483629 + 7919 * y + 1) * 48271) % 2147483647 = b at h3 h4
  have h5 := Int.emod_nonneg (b * b + 69621 * y + 7) (show (2147483587 : Int) ≠ 0 by decide)
  have h6 := Int.emod_lt_of_pos (b * b + 69621 * y + 7) (show (0 : Int) < 2147483587 by decide)
  exact ⟨cMul_l (by decide) (by decide), cMul_r (by decide) (by decide), cMul_l h3 (by omega), cMul_l (by decide) (by decide), cMul_r (by decide) (by decide), cMul_l h5 (by omega), cMul_l (by decide) (by decide), hF _⟩
theorem take_ok {m : Int} {N : Nat} (hN : 2 ≤ N) (h : DS R S) (hm : 0 < m) (hm2 : m < 18446744073709551616) (hF : ∀ (v : Int) (S' : Sto), 0 ≤ v → v < m → DS R S' → F (.int v) S') : wp (den fu N i_l_take [.ref 1, .int m] S) F E := by
  obtain ⟨N', rfl⟩ : ∃ N', N = N' + 2 := ⟨N - 2, by omega⟩
  show wp (runDef false 4 (b_l_take fu (den fu (N' + 1))) _ _) _ _
  obtain ⟨cells, a, b, hc, at0, at1, up0, up1⟩ := h.cells
  have h1 := up1 a (b + 1)
  have hl1 : (S.set 1 (.lst [.ref 0, .int a, .int (b + 1)])).length = S.length := by simp
  have st : ∀ d, wp (gSet (.ref 1) (.int 2) (.int d) S) = wp (.ok () (S.set 1 (.lst [.ref 0, .int a, .int d]))) := fun d => by
    funext F E
    exact propext (gSet_ref (j := 2) at1 (by show ixN 3 2 = some 2; decide))
  simp only [b_l_take, gIx_ref at1, wps_sub, st, wp_ok, wp_ret, wp_stuck, wp_bad, wp_bnd, wp_if, wp_fif, wps_ok_nx, wps_ok_rt, wps_ok_bk, wps_ok_ct, wps_ok_xc, wps_bad, wps_lft, wps_seq, wps_nil, wps_ret, wps_expr, wps_asg, wps_if, wp_run, wps_for, wps_while, wp_comp, wp_var, wp_C, wp_bin, wp_un, wp_T, wp_Tb, wp_asBl, wp_truthBl, wp_bAnd, wp_bOr, wp_bNot, wp_eIf, wp_eAnd, wp_eOr, wp_eNot, blCase_bl, wp_chain, wp_aNil, wp_aCons, wp_tup, wp_lst, wp_lstM, wp_call, wp_cl1, wp_cl2, wp_cl3, wp_cl4, wp_cl5, wp_meth, wp_isi, wp_oNone, wp_oSome, wp_sl, wp_it, wp_range1, wp_range2, wp_bYes, gEq_str, gNe_str, gEq_int, gNe_int, gEq_bl, gNe_bl, gIs_bl, gIsNot_bl, gAdd_int, gSub_int, gC_int, gI_int, gAdd_str, gAdd_tup, gAdd_lst, gNeg_int, gIx_tup, gIx_lst, gLen_tup, gLen_lst, gLen_str, gInt_int, gInt_bl, gTuple_lst, gTuple_tup, gList_lst, gList_tup, gSl_tup, gSl_lst, gSl_fl, gSl_str, srcL_tup, srcL_lst, srcL_fl, srcL_str, srcR1_int, typN, startR, List.map_cons, List.map_nil, List.length_cons, List.length_nil, Nat.reduceAdd, Nat.reduceSub, Nat.zero_add, Nat.sub_self, Nat.sub_zero, List.replicate_zero, List.replicate_succ, List.cons_append, List.nil_append, List.append_nil, List.getElem?_cons_zero, List.getElem?_cons_succ, List.set_cons_zero, List.set_cons_succ, List.set_nil, List.getElem?_nil, Option.some.injEq, exists_eq_left', exists_eq_left, exists_eq_right, reduceCtorEq, false_and, and_false, true_and, and_true, exists_false, exists_const, wipeR, Nat.zero_le, String.reduceEq, D.int.injEq, D.str.injEq, D.bl.injEq, atI_0, atI_1, atI_2, atI_3, atI_4, beq_self_eq_true, not_true_eq_false, not_false_eq_true, Int.cast_ofNat_Int, Int.reduceEq, Int.reduceLE, Int.reduceLT, Int.reduceAdd, Int.reduceSub, Int.reduceMul, Int.reduceNeg, if_true, if_false, ite_true, ite_false, Bool.false_eq_true, if_neg, if_pos, decide_eq_true_eq, Bool.not_eq_true', decide_eq_false_iff_not, eq_self_iff_true, decide_true, decide_false, Bool.not_true, Bool.not_false]
  have two : (2 : Nat) ≤ S.length := h.two
  obtain ⟨c1, a1, b1, hc1, at0', at1', up0', up1'⟩ := h1.cells
  have e1 : c1 = cells ∧ a1 = a ∧ b1 = b + 1 := by
    have q1 : atL (S.set 1 (.lst [.ref 0, .int a, .int (b + 1)])) 1 = some [.ref 0, .int a, .int (b + 1)] := atL_set (by omega)
    rw [q1] at at1'
    have q0 : atL (S.set 1 (.lst [.ref 0, .int a, .int (b + 1)])) 0 = atL S 0 := by unfold atL; rw [List.getElem?_set_ne (by omega)]
    rw [q0, at0] at at0'
    simp only [Option.some.injEq, List.cons.injEq, D.int.injEq, true_and, and_true] at at0' at1'
    refine ⟨?_, at1'.1.symm, at1'.2.symm⟩
    have : ∀ u v : List Int, u.map D.int = v.map D.int → u = v := fun u v h => List.map_inj_right (fun _ _ e => by cases e; rfl) |>.mp h
    exact (this _ _ at0').symm
  obtain ⟨rfl, rfl, rfl⟩ := e1
  simp only [gEq_refNil at0', wp_ok, wp_ret, wp_stuck, wp_bad, wp_bnd, wp_if, wp_fif, wps_ok_nx, wps_ok_rt, wps_ok_bk, wps_ok_ct, wps_ok_xc, wps_bad, wps_lft, wps_seq, wps_nil, wps_ret, wps_expr, wps_asg, wps_if, wp_run, wps_for, wps_while, wp_comp, wp_var, wp_C, wp_bin, wp_un, wp_T, wp_Tb, wp_asBl, wp_truthBl, wp_bAnd, wp_bOr, wp_bNot, wp_eIf, wp_eAnd, wp_eOr, wp_eNot, blCase_bl, wp_chain, wp_aNil, wp_aCons, wp_tup, wp_lst, wp_lstM, wp_call, wp_cl1, wp_cl2, wp_cl3, wp_cl4, wp_cl5, wp_meth, wp_isi, wp_oNone, wp_oSome, wp_sl, wp_it, wp_range1, wp_range2, wp_bYes, gEq_str, gNe_str, gEq_int, gNe_int, gEq_bl, gNe_bl, gIs_bl, gIsNot_bl, gAdd_int, gSub_int, gC_int, gI_int, gAdd_str, gAdd_tup, gAdd_lst, gNeg_int, gIx_tup, gIx_lst, gLen_tup, gLen_lst, gLen_str, gInt_int, gInt_bl, gTuple_lst, gTuple_tup, gList_lst, gList_tup, gSl_tup, gSl_lst, gSl_fl, gSl_str, srcL_tup, srcL_lst, srcL_fl, srcL_str, srcR1_int, typN, startR, List.map_cons, List.map_nil, List.length_cons, List.length_nil, Nat.reduceAdd, Nat.reduceSub, Nat.zero_add, Nat.sub_self, Nat.sub_zero, List.replicate_zero, List.replicate_succ, List.cons_append, List.nil_append, List.append_nil, List.getElem?_cons_zero, List.getElem?_cons_succ, List.set_cons_zero, List.set_cons_succ, List.set_nil, List.getElem?_nil, Option.some.injEq, exists_eq_left', exists_eq_left, exists_eq_right, reduceCtorEq, false_and, and_false, true_and, and_true, exists_false, exists_const, wipeR, Nat.zero_le, String.reduceEq, D.int.injEq, D.str.injEq, D.bl.injEq, atI_0, atI_1, atI_2, atI_3, atI_4, beq_self_eq_true, not_true_eq_false, not_false_eq_true, Int.cast_ofNat_Int, Int.reduceEq, Int.reduceLE, Int.reduceLT, Int.reduceAdd, Int.reduceSub, Int.reduceMul, Int.reduceNeg, if_true, if_false, ite_true, ite_false, Bool.false_eq_true, if_neg, if_pos, decide_eq_true_eq, Bool.not_eq_true', decide_eq_false_iff_not, eq_self_iff_true, decide_true, decide_false, Bool.not_true, Bool.not_false]
  by_cases hne : c1 = []
  · rw [if_pos hne]
    simp only [gIx_ref at1', wp_ok, wp_ret, wp_stuck, wp_bad, wp_bnd, wp_if, wp_fif, wps_ok_nx, wps_ok_rt, wps_ok_bk, wps_ok_ct, wps_ok_xc, wps_bad, wps_lft, wps_seq, wps_nil, wps_ret, wps_expr, wps_asg, wps_if, wp_run, wps_for, wps_while, wp_comp, wp_var, wp_C, wp_bin, wp_un, wp_T, wp_Tb, wp_asBl, wp_truthBl, wp_bAnd, wp_bOr, wp_bNot, wp_eIf, wp_eAnd, wp_eOr, wp_eNot, blCase_bl, wp_chain, wp_aNil, wp_aCons, wp_tup, wp_lst, wp_lstM, wp_call, wp_cl1, wp_cl2, wp_cl3, wp_cl4, wp_cl5, wp_meth, wp_isi, wp_oNone, wp_oSome, wp_sl, wp_it, wp_range1, wp_range2, wp_bYes, gEq_str, gNe_str, gEq_int, gNe_int, gEq_bl, gNe_bl, gIs_bl, gIsNot_bl, gAdd_int, gSub_int, gC_int, gI_int, gAdd_str, gAdd_tup, gAdd_lst, gNeg_int, gIx_tup, gIx_lst, gLen_tup, gLen_lst, gLen_str, gInt_int, gInt_bl, gTuple_lst, gTuple_tup, gList_lst, gList_tup, gSl_tup, gSl_lst, gSl_fl, gSl_str, srcL_tup, srcL_lst, srcL_fl, srcL_str, srcR1_int, typN, startR, List.map_cons, List.map_nil, List.length_cons, List.length_nil, Nat.reduceAdd, Nat.reduceSub, Nat.zero_add, Nat.sub_self, Nat.sub_zero, List.replicate_zero, List.replicate_succ, List.cons_append, List.nil_append, List.append_nil, List.getElem?_cons_zero, List.getElem?_cons_succ, List.set_cons_zero, List.set_cons_succ, List.set_nil, List.getElem?_nil, Option.some.injEq, exists_eq_left', exists_eq_left, exists_eq_right, reduceCtorEq, false_and, and_false, true_and, and_true, exists_false, exists_const, wipeR, Nat.zero_le, String.reduceEq, D.int.injEq, D.str.injEq, D.bl.injEq, atI_0, atI_1, atI_2, atI_3, atI_4, beq_self_eq_true, not_true_eq_false, not_false_eq_true, Int.cast_ofNat_Int, Int.reduceEq, Int.reduceLE, Int.reduceLT, Int.reduceAdd, Int.reduceSub, Int.reduceMul, Int.reduceNeg, if_true, if_false, ite_true, ite_false, Bool.false_eq_true, if_neg, if_pos, decide_eq_true_eq, Bool.not_eq_true', decide_eq_false_iff_not, eq_self_iff_true, decide_true, decide_false, Bool.not_true, Bool.not_false]
    refine mixed_ok h1.oks fun v => ?_
    simp only [hm, wp_ok, wp_ret, wp_stuck, wp_bad, wp_bnd, wp_if, wp_fif, wps_ok_nx, wps_ok_rt, wps_ok_bk, wps_ok_ct, wps_ok_xc, wps_bad, wps_lft, wps_seq, wps_nil, wps_ret, wps_expr, wps_asg, wps_if, wp_run, wps_for, wps_while, wp_comp, wp_var, wp_C, wp_bin, wp_un, wp_T, wp_Tb, wp_asBl, wp_truthBl, wp_bAnd, wp_bOr, wp_bNot, wp_eIf, wp_eAnd, wp_eOr, wp_eNot, blCase_bl, wp_chain, wp_aNil, wp_aCons, wp_tup, wp_lst, wp_lstM, wp_call, wp_cl1, wp_cl2, wp_cl3, wp_cl4, wp_cl5, wp_meth, wp_isi, wp_oNone, wp_oSome, wp_sl, wp_it, wp_range1, wp_range2, wp_bYes, gEq_str, gNe_str, gEq_int, gNe_int, gEq_bl, gNe_bl, gIs_bl, gIsNot_bl, gAdd_int, gSub_int, gC_int, gI_int, gAdd_str, gAdd_tup, gAdd_lst, gNeg_int, gIx_tup, gIx_lst, gLen_tup, gLen_lst, gLen_str, gInt_int, gInt_bl, gTuple_lst, gTuple_tup, gList_lst, gList_tup, gSl_tup, gSl_lst, gSl_fl, gSl_str, srcL_tup, srcL_lst, srcL_fl, srcL_str, srcR1_int, typN, startR, List.map_cons, List.map_nil, List.length_cons, List.length_nil, Nat.reduceAdd, Nat.reduceSub, Nat.zero_add, Nat.sub_self, Nat.sub_zero, List.replicate_zero, List.replicate_succ, List.cons_append, List.nil_append, List.append_nil, List.getElem?_cons_zero, List.getElem?_cons_succ, List.set_cons_zero, List.set_cons_succ, List.set_nil, List.getElem?_nil, Option.some.injEq, exists_eq_left', exists_eq_left, exists_eq_right, reduceCtorEq, false_and, and_false, true_and, and_true, exists_false, exists_const, wipeR, Nat.zero_le, String.reduceEq, D.int.injEq, D.str.injEq, D.bl.injEq, atI_0, atI_1, atI_2, atI_3, atI_4, beq_self_eq_true, not_true_eq_false, not_false_eq_true, Int.cast_ofNat_Int, Int.reduceEq, Int.reduceLE, Int.reduceLT, Int.reduceAdd, Int.reduceSub, Int.reduceMul, Int.reduceNeg, if_true, if_false, ite_true, ite_false, Bool.false_eq_true, if_neg, if_pos, decide_eq_true_eq, Bool.not_eq_true', decide_eq_false_iff_not, eq_self_iff_true, decide_true, decide_false, Bool.not_true, Bool.not_false]
    exact h1.fin_same hl1 rfl (hF _ _ (Int.emod_nonneg _ (by omega)) (Int.emod_lt_of_pos _ hm) h1)
  · rw [if_neg hne]
    obtain ⟨cs, c, rfl⟩ : ∃ cs c, c1 = cs ++ [c] := ⟨c1.dropLast, c1.getLast hne, (List.dropLast_concat_getLast hne).symm⟩
    simp only [List.length_append, List.length_singleton] at hc
    have e1 : ((cs ++ [c]).map D.int)[((cs ++ [c]).map D.int).length - 1]? = some (.int c) := by simp
    have e2 : ((cs ++ [c]).map D.int).dropLast = cs.map .int := by simp
    simp only [isTy_ref at0', gPop_ref at0', e1, e2, cPow, wp_ok, wp_ret, wp_stuck, wp_bad, wp_bnd, wp_if, wp_fif, wps_ok_nx, wps_ok_rt, wps_ok_bk, wps_ok_ct, wps_ok_xc, wps_bad, wps_lft, wps_seq, wps_nil, wps_ret, wps_expr, wps_asg, wps_if, wp_run, wps_for, wps_while, wp_comp, wp_var, wp_C, wp_bin, wp_un, wp_T, wp_Tb, wp_asBl, wp_truthBl, wp_bAnd, wp_bOr, wp_bNot, wp_eIf, wp_eAnd, wp_eOr, wp_eNot, blCase_bl, wp_chain, wp_aNil, wp_aCons, wp_tup, wp_lst, wp_lstM, wp_call, wp_cl1, wp_cl2, wp_cl3, wp_cl4, wp_cl5, wp_meth, wp_isi, wp_oNone, wp_oSome, wp_sl, wp_it, wp_range1, wp_range2, wp_bYes, gEq_str, gNe_str, gEq_int, gNe_int, gEq_bl, gNe_bl, gIs_bl, gIsNot_bl, gAdd_int, gSub_int, gC_int, gI_int, gAdd_str, gAdd_tup, gAdd_lst, gNeg_int, gIx_tup, gIx_lst, gLen_tup, gLen_lst, gLen_str, gInt_int, gInt_bl, gTuple_lst, gTuple_tup, gList_lst, gList_tup, gSl_tup, gSl_lst, gSl_fl, gSl_str, srcL_tup, srcL_lst, srcL_fl, srcL_str, srcR1_int, typN, startR, List.map_cons, List.map_nil, List.length_cons, List.length_nil, Nat.reduceAdd, Nat.reduceSub, Nat.zero_add, Nat.sub_self, Nat.sub_zero, List.replicate_zero, List.replicate_succ, List.cons_append, List.nil_append, List.append_nil, List.getElem?_cons_zero, List.getElem?_cons_succ, List.set_cons_zero, List.set_cons_succ, List.set_nil, List.getElem?_nil, Option.some.injEq, exists_eq_left', exists_eq_left, exists_eq_right, reduceCtorEq, false_and, and_false, true_and, and_true, exists_false, exists_const, wipeR, Nat.zero_le, String.reduceEq, D.int.injEq, D.str.injEq, D.bl.injEq, atI_0, atI_1, atI_2, atI_3, atI_4, beq_self_eq_true, not_true_eq_false, not_false_eq_true, Int.cast_ofNat_Int, Int.reduceEq, Int.reduceLE, Int.reduceLT, Int.reduceAdd, Int.reduceSub, Int.reduceMul, Int.reduceNeg, if_true, if_false, ite_true, ite_false, Bool.false_eq_true, if_neg, if_pos, decide_eq_true_eq, Bool.not_eq_true', decide_eq_false_iff_not, eq_self_iff_true, decide_true, decide_false, Bool.not_true, Bool.not_false]
    have h2 := up0' cs (by omega)
    generalize hS1 : S.set 1 (.lst [.ref 0, .int a1, .int (b + 1)]) = S1 at *
    obtain ⟨c3, a3, b3, hc3, at03, at13, up03, up13⟩ := h2.cells
    have q0 : atL (S1.set 0 (.lst (cs.map .int))) 0 = some (cs.map .int) := atL_set (by omega)
    have q1 : atL (S1.set 0 (.lst (cs.map .int))) 1 = some [.ref 0, .int a1, .int (b + 1)] := by
      have : atL (S1.set 0 (.lst (cs.map .int))) 1 = atL S1 1 := by unfold atL; rw [List.getElem?_set_ne (by omega)]
      rw [this]; exact at1'
    have hl2 : (S1.set 0 (.lst (cs.map .int))).length = S.length := by simp [hl1]
    refine ⟨by decide, ?_⟩
    by_cases hge : c < (10 : Int) ^ (Int.toNat 18)
    · rw [if_pos hge]
      simp only [gIx_ref q1, wp_ok, wp_ret, wp_stuck, wp_bad, wp_bnd, wp_if, wp_fif, wps_ok_nx, wps_ok_rt, wps_ok_bk, wps_ok_ct, wps_ok_xc, wps_bad, wps_lft, wps_seq, wps_nil, wps_ret, wps_expr, wps_asg, wps_if, wp_run, wps_for, wps_while, wp_comp, wp_var, wp_C, wp_bin, wp_un, wp_T, wp_Tb, wp_asBl, wp_truthBl, wp_bAnd, wp_bOr, wp_bNot, wp_eIf, wp_eAnd, wp_eOr, wp_eNot, blCase_bl, wp_chain, wp_aNil, wp_aCons, wp_tup, wp_lst, wp_lstM, wp_call, wp_cl1, wp_cl2, wp_cl3, wp_cl4, wp_cl5, wp_meth, wp_isi, wp_oNone, wp_oSome, wp_sl, wp_it, wp_range1, wp_range2, wp_bYes, gEq_str, gNe_str, gEq_int, gNe_int, gEq_bl, gNe_bl, gIs_bl, gIsNot_bl, gAdd_int, gSub_int, gC_int, gI_int, gAdd_str, gAdd_tup, gAdd_lst, gNeg_int, gIx_tup, gIx_lst, gLen_tup, gLen_lst, gLen_str, gInt_int, gInt_bl, gTuple_lst, gTuple_tup, gList_lst, gList_tup, gSl_tup, gSl_lst, gSl_fl, gSl_str, srcL_tup, srcL_lst, srcL_fl, srcL_str, srcR1_int, typN, startR, List.map_cons, List.map_nil, List.length_cons, List.length_nil, Nat.reduceAdd, Nat.reduceSub, Nat.zero_add, Nat.sub_self, Nat.sub_zero, List.replicate_zero, List.replicate_succ, List.cons_append, List.nil_append, List.append_nil, List.getElem?_cons_zero, List.getElem?_cons_succ, List.set_cons_zero, List.set_cons_succ, List.set_nil, List.getElem?_nil, Option.some.injEq, exists_eq_left', exists_eq_left, exists_eq_right, reduceCtorEq, false_and, and_false, true_and, and_true, exists_false, exists_const, wipeR, Nat.zero_le, String.reduceEq, D.int.injEq, D.str.injEq, D.bl.injEq, atI_0, atI_1, atI_2, atI_3, atI_4, beq_self_eq_true, not_true_eq_false, not_false_eq_true, Int.cast_ofNat_Int, Int.reduceEq, Int.reduceLE, Int.reduceLT, Int.reduceAdd, Int.reduceSub, Int.reduceMul, Int.reduceNeg, if_true, if_false, ite_true, ite_false, Bool.false_eq_true, if_neg, if_pos, decide_eq_true_eq, Bool.not_eq_true', decide_eq_false_iff_not, eq_self_iff_true, decide_true, decide_false, Bool.not_true, Bool.not_false]
      refine mixed_ok h2.oks fun v => ?_
      simp only [hm, wp_ok, wp_ret, wp_stuck, wp_bad, wp_bnd, wp_if, wp_fif, wps_ok_nx, wps_ok_rt, wps_ok_bk, wps_ok_ct, wps_ok_xc, wps_bad, wps_lft, wps_seq, wps_nil, wps_ret, wps_expr, wps_asg, wps_if, wp_run, wps_for, wps_while, wp_comp, wp_var, wp_C, wp_bin, wp_un, wp_T, wp_Tb, wp_asBl, wp_truthBl, wp_bAnd, wp_bOr, wp_bNot, wp_eIf, wp_eAnd, wp_eOr, wp_eNot, blCase_bl, wp_chain, wp_aNil, wp_aCons, wp_tup, wp_lst, wp_lstM, wp_call, wp_cl1, wp_cl2, wp_cl3, wp_cl4, wp_cl5, wp_meth, wp_isi, wp_oNone, wp_oSome, wp_sl, wp_it, wp_range1, wp_range2, wp_bYes, gEq_str, gNe_str, gEq_int, gNe_int, gEq_bl, gNe_bl, gIs_bl, gIsNot_bl, gAdd_int, gSub_int, gC_int, gI_int, gAdd_str, gAdd_tup, gAdd_lst, gNeg_int, gIx_tup, gIx_lst, gLen_tup, gLen_lst, gLen_str, gInt_int, gInt_bl, gTuple_lst, gTuple_tup, gList_lst, gList_tup, gSl_tup, gSl_lst, gSl_fl, gSl_str, srcL_tup, srcL_lst, srcL_fl, srcL_str, srcR1_int, typN, startR, List.map_cons, List.map_nil, List.length_cons, List.length_nil, Nat.reduceAdd, Nat.reduceSub, Nat.zero_add, Nat.sub_self, Nat.sub_zero, List.replicate_zero, List.replicate_succ, List.cons_append, List.nil_append, List.append_nil, List.getElem?_cons_zero, List.getElem?_cons_succ, List.set_cons_zero, List.set_cons_succ, List.set_nil, List.getElem?_nil, Option.some.injEq, exists_eq_left', exists_eq_left, exists_eq_right, reduceCtorEq, false_and, and_false, true_and, and_true, exists_false, exists_const, wipeR, Nat.zero_le, String.reduceEq, D.int.injEq, D.str.injEq, D.bl.injEq, atI_0, atI_1, atI_2, atI_3, atI_4, beq_self_eq_true, not_true_eq_false, not_false_eq_true, Int.cast_ofNat_Int, Int.reduceEq, Int.reduceLE, Int.reduceLT, Int.reduceAdd, Int.reduceSub, Int.reduceMul, Int.reduceNeg, if_true, if_false, ite_true, ite_false, Bool.false_eq_true, if_neg, if_pos, decide_eq_true_eq, Bool.not_eq_true', decide_eq_false_iff_not, eq_self_iff_true, decide_true, decide_false, Bool.not_true, Bool.not_false]
      exact h2.fin_same hl2 rfl (hF _ _ (Int.emod_nonneg _ (by omega)) (Int.emod_lt_of_pos _ hm) h2)
    · rw [if_neg hge]
      refine ⟨cDiv_of hm hm2, ?_⟩
      by_cases hq : 0 < c / m
      · rw [if_pos hq]
        simp only [isTy_ref q0, gAppend_ref q0, cDiv_of hm hm2, hm, wp_ok, wp_ret, wp_stuck, wp_bad, wp_bnd, wp_if, wp_fif, wps_ok_nx, wps_ok_rt, wps_ok_bk, wps_ok_ct, wps_ok_xc, wps_bad, wps_lft, wps_seq, wps_nil, wps_ret, wps_expr, wps_asg, wps_if, wp_run, wps_for, wps_while, wp_comp, wp_var, wp_C, wp_bin, wp_un, wp_T, wp_Tb, wp_asBl, wp_truthBl, wp_bAnd, wp_bOr, wp_bNot, wp_eIf, wp_eAnd, wp_eOr, wp_eNot, blCase_bl, wp_chain, wp_aNil, wp_aCons, wp_tup, wp_lst, wp_lstM, wp_call, wp_cl1, wp_cl2, wp_cl3, wp_cl4, wp_cl5, wp_meth, wp_isi, wp_oNone, wp_oSome, wp_sl, wp_it, wp_range1, wp_range2, wp_bYes, gEq_str, gNe_str, gEq_int, gNe_int, gEq_bl, gNe_bl, gIs_bl, gIsNot_bl, gAdd_int, gSub_int, gC_int, gI_int, gAdd_str, gAdd_tup, gAdd_lst, gNeg_int, gIx_tup, gIx_lst, gLen_tup, gLen_lst, gLen_str, gInt_int, gInt_bl, gTuple_lst, gTuple_tup, gList_lst, gList_tup, gSl_tup, gSl_lst, gSl_fl, gSl_str, srcL_tup, srcL_lst, srcL_fl, srcL_str, srcR1_int, typN, startR, List.map_cons, List.map_nil, List.length_cons, List.length_nil, Nat.reduceAdd, Nat.reduceSub, Nat.zero_add, Nat.sub_self, Nat.sub_zero, List.replicate_zero, List.replicate_succ, List.cons_append, List.nil_append, List.append_nil, List.getElem?_cons_zero, List.getElem?_cons_succ, List.set_cons_zero, List.set_cons_succ, List.set_nil, List.getElem?_nil, Option.some.injEq, exists_eq_left', exists_eq_left, exists_eq_right, reduceCtorEq, false_and, and_false, true_and, and_true, exists_false, exists_const, wipeR, Nat.zero_le, String.reduceEq, D.int.injEq, D.str.injEq, D.bl.injEq, atI_0, atI_1, atI_2, atI_3, atI_4, beq_self_eq_true, not_true_eq_false, not_false_eq_true, Int.cast_ofNat_Int, Int.reduceEq, Int.reduceLE, Int.reduceLT, Int.reduceAdd, Int.reduceSub, Int.reduceMul, Int.reduceNeg, if_true, if_false, ite_true, ite_false, Bool.false_eq_true, if_neg, if_pos, decide_eq_true_eq, Bool.not_eq_true', decide_eq_false_iff_not, eq_self_iff_true, decide_true, decide_false, Bool.not_true, Bool.not_false]
        refine ⟨by rw [sizeLine_eq, List.length_map]; omega, ?_⟩
        have h3 := up03 (cs ++ [c / m]) (by simp; omega)
        rw [List.map_append] at h3
        refine h3.fin_same (by simp [hl1]) rfl (hF _ _ (Int.emod_nonneg _ (by omega)) (Int.emod_lt_of_pos _ hm) h3)
      · rw [if_neg hq]
        simp only [hm, wp_ok, wp_ret, wp_stuck, wp_bad, wp_bnd, wp_if, wp_fif, wps_ok_nx, wps_ok_rt, wps_ok_bk, wps_ok_ct, wps_ok_xc, wps_bad, wps_lft, wps_seq, wps_nil, wps_ret, wps_expr, wps_asg, wps_if, wp_run, wps_for, wps_while, wp_comp, wp_var, wp_C, wp_bin, wp_un, wp_T, wp_Tb, wp_asBl, wp_truthBl, wp_bAnd, wp_bOr, wp_bNot, wp_eIf, wp_eAnd, wp_eOr, wp_eNot, blCase_bl, wp_chain, wp_aNil, wp_aCons, wp_tup, wp_lst, wp_lstM, wp_call, wp_cl1, wp_cl2, wp_cl3, wp_cl4, wp_cl5, wp_meth, wp_isi, wp_oNone, wp_oSome, wp_sl, wp_it, wp_range1, wp_range2, wp_bYes, gEq_str, gNe_str, gEq_int, gNe_int, gEq_bl, gNe_bl, gIs_bl, gIsNot_bl, gAdd_int, gSub_int, gC_int, gI_int, gAdd_str, gAdd_tup, gAdd_lst, gNeg_int, gIx_tup, gIx_lst, gLen_tup, gLen_lst, gLen_str, gInt_int, gInt_bl, gTuple_lst, gTuple_tup, gList_lst, gList_tup, gSl_tup, gSl_lst, gSl_fl, gSl_str, srcL_tup, srcL_lst, srcL_fl, srcL_str, srcR1_int, typN, startR, List.map_cons, List.map_nil, List.length_cons, List.length_nil, Nat.reduceAdd, Nat.reduceSub, Nat.zero_add, Nat.sub_self, Nat.sub_zero, List.replicate_zero, List.replicate_succ, List.cons_append, List.nil_append, List.append_nil, List.getElem?_cons_zero, List.getElem?_cons_succ, List.set_cons_zero, List.set_cons_succ, List.set_nil, List.getElem?_nil, Option.some.injEq, exists_eq_left', exists_eq_left, exists_eq_right, reduceCtorEq, false_and, and_false, true_and, and_true, exists_false, exists_const, wipeR, Nat.zero_le, String.reduceEq, D.int.injEq, D.str.injEq, D.bl.injEq, atI_0, atI_1, atI_2, atI_3, atI_4, beq_self_eq_true, not_true_eq_false, not_false_eq_true, Int.cast_ofNat_Int, Int.reduceEq, Int.reduceLE, Int.reduceLT, Int.reduceAdd, Int.reduceSub, Int.reduceMul, Int.reduceNeg, if_true, if_false, ite_true, ite_false, Bool.false_eq_true, if_neg, if_pos, decide_eq_true_eq, Bool.not_eq_true', decide_eq_false_iff_not, eq_self_iff_true, decide_true, decide_false, Bool.not_true, Bool.not_false]
        exact h2.fin_same hl2 rfl (hF _ _ (Int.emod_nonneg _ (by omega)) (Int.emod_lt_of_pos _ hm) h2)
end K69

namespace K69
open PySem L2 DL
variable {fu n : Nat} {R S : Sto} {F : D → Sto → Prop} {E : Exc → Sto → Prop}
theorem number_gen {N : Nat} (hN : 3 ≤ N) (h : DS R S) (hF : ∀ (i : Int) (S' : Sto), 0 ≤ i → i < 1000000000000 → DS R S' → F (.int i) S') : wp (den fu N i_l_number [.ref 1] S) F E := by
  obtain ⟨N', rfl⟩ : ∃ N', N = N' + 1 := ⟨N - 1, by omega⟩
  show wp (runDef false 2 (b_l_number fu (den fu N')) _ _) _ _
  simp only [b_l_number, wp_ok, wp_ret, wp_stuck, wp_bad, wp_bnd, wp_if, wp_fif, wps_ok_nx, wps_ok_rt, wps_ok_bk, wps_ok_ct, wps_ok_xc, wps_bad, wps_lft, wps_seq, wps_nil, wps_ret, wps_expr, wps_asg, wps_if, wp_run, wps_for, wps_while, wp_comp, wp_var, wp_C, wp_bin, wp_un, wp_T, wp_Tb, wp_asBl, wp_truthBl, wp_bAnd, wp_bOr, wp_bNot, wp_eIf, wp_eAnd, wp_eOr, wp_eNot, blCase_bl, wp_chain, wp_aNil, wp_aCons, wp_tup, wp_lst, wp_lstM, wp_call, wp_cl1, wp_cl2, wp_cl3, wp_cl4, wp_cl5, wp_meth, wp_isi, wp_oNone, wp_oSome, wp_sl, wp_it, wp_range1, wp_range2, wp_bYes, gEq_str, gNe_str, gEq_int, gNe_int, gEq_bl, gNe_bl, gIs_bl, gIsNot_bl, gAdd_int, gSub_int, gC_int, gI_int, gAdd_str, gAdd_tup, gAdd_lst, gNeg_int, gIx_tup, gIx_lst, gLen_tup, gLen_lst, gLen_str, gInt_int, gInt_bl, gTuple_lst, gTuple_tup, gList_lst, gList_tup, gSl_tup, gSl_lst, gSl_fl, gSl_str, srcL_tup, srcL_lst, srcL_fl, srcL_str, srcR1_int, typN, startR, List.map_cons, List.map_nil, List.length_cons, List.length_nil, Nat.reduceAdd, Nat.reduceSub, Nat.zero_add, Nat.sub_self, Nat.sub_zero, List.replicate_zero, List.replicate_succ, List.cons_append, List.nil_append, List.append_nil, List.getElem?_cons_zero, List.getElem?_cons_succ, List.set_cons_zero, List.set_cons_succ, List.set_nil, List.getElem?_nil, Option.some.injEq, exists_eq_left', exists_eq_left, exists_eq_right, reduceCtorEq, false_and, and_false, true_and, and_true, exists_false, exists_const, wipeR, Nat.zero_le, String.reduceEq, D.int.injEq, D.str.injEq, D.bl.injEq, atI_0, atI_1, atI_2, atI_3, atI_4, beq_self_eq_true, not_true_eq_false, not_false_eq_true, Int.cast_ofNat_Int, Int.reduceEq, Int.reduceLE, Int.reduceLT, Int.reduceAdd, Int.reduceSub, Int.reduceMul, Int.reduceNeg, if_true, if_false, ite_true, ite_false, Bool.false_eq_true, if_neg, if_pos, decide_eq_true_eq, Bool.not_eq_true', decide_eq_false_iff_not, eq_self_iff_true, decide_true, decide_false, Bool.not_true, Bool.not_false]
  refine take_ok (by omega) h (by decide) (by decide) fun v1 S1 h1 h1' d1 => ?_
  simp only [cPow, wp_ok, wp_ret, wp_stuck, wp_bad, wp_bnd, wp_if, wp_fif, wps_ok_nx, wps_ok_rt, wps_ok_bk, wps_ok_ct, wps_ok_xc, wps_bad, wps_lft, wps_seq, wps_nil, wps_ret, wps_expr, wps_asg, wps_if, wp_run, wps_for, wps_while, wp_comp, wp_var, wp_C, wp_bin, wp_un, wp_T, wp_Tb, wp_asBl, wp_truthBl, wp_bAnd, wp_bOr, wp_bNot, wp_eIf, wp_eAnd, wp_eOr, wp_eNot, blCase_bl, wp_chain, wp_aNil, wp_aCons, wp_tup, wp_lst, wp_lstM, wp_call, wp_cl1, wp_cl2, wp_cl3, wp_cl4, wp_cl5, wp_meth, wp_isi, wp_oNone, wp_oSome, wp_sl, wp_it, wp_range1, wp_range2, wp_bYes, gEq_str, gNe_str, gEq_int, gNe_int, gEq_bl, gNe_bl, gIs_bl, gIsNot_bl, gAdd_int, gSub_int, gC_int, gI_int, gAdd_str, gAdd_tup, gAdd_lst, gNeg_int, gIx_tup, gIx_lst, gLen_tup, gLen_lst, gLen_str, gInt_int, gInt_bl, gTuple_lst, gTuple_tup, gList_lst, gList_tup, gSl_tup, gSl_lst, gSl_fl, gSl_str, srcL_tup, srcL_lst, srcL_fl, srcL_str, srcR1_int, typN, startR, List.map_cons, List.map_nil, List.length_cons, List.length_nil, Nat.reduceAdd, Nat.reduceSub, Nat.zero_add, Nat.sub_self, Nat.sub_zero, List.replicate_zero, List.replicate_succ, List.cons_append, List.nil_append, List.append_nil, List.getElem?_cons_zero, List.getElem?_cons_succ, List.set_cons_zero, List.set_cons_succ, List.set_nil, List.getElem?_nil, Option.some.injEq, exists_eq_left', exists_eq_left, exists_eq_right, reduceCtorEq, false_and, and_false, true_and, and_true, exists_false, exists_const, wipeR, Nat.zero_le, String.reduceEq, D.int.injEq, D.str.injEq, D.bl.injEq, atI_0, atI_1, atI_2, atI_3, atI_4, beq_self_eq_true, not_true_eq_false, not_false_eq_true, Int.cast_ofNat_Int, Int.reduceEq, Int.reduceLE, Int.reduceLT, Int.reduceAdd, Int.reduceSub, Int.reduceMul, Int.reduceNeg, if_true, if_false, ite_true, ite_false, Bool.false_eq_true, if_neg, if_pos, decide_eq_true_eq, Bool.not_eq_true', decide_eq_false_iff_not, eq_self_iff_true, decide_true, decide_false, Bool.not_true, Bool.not_false]
  refine ⟨by decide, by decide, take_ok (by omega) d1 (by decide) (by decide) fun v2 S2 h2 h2' d2 => ?_⟩
  refine ⟨small_line (by decide), take_ok (by omega) d2 (by decide) (by decide) fun v3 S3 h3 h3' d3 => ?_⟩
  refine pick h3 h3' (fun d => ∃ i : Int, d = .int i ∧ 0 ≤ i ∧ i < 1000000000000) (fun d hd => ?_) fun d hd => ?_
  · simp only [List.mem_cons, List.not_mem_nil, or_false] at hd
    have hp : (10 : Int) ^ Int.toNat 12 = 1000000000000 := by decide
    rcases hd with rfl | rfl | rfl | rfl | rfl | rfl
    · exact ⟨_, rfl, by decide, by decide⟩
    · exact ⟨_, rfl, by decide, by decide⟩
    · exact ⟨_, rfl, by decide, by decide⟩
    · exact ⟨_, rfl, h1, by omega⟩
    · exact ⟨_, rfl, by omega, by omega⟩
    · exact ⟨_, rfl, h2, by omega⟩
  · obtain ⟨i, rfl, q1, q2⟩ := hd
    exact d3.fin_same (by rw [d3.len, h.len]) rfl (hF i S3 q1 q2 d3)
/-! texts joined -/
def sg (c : Nat) : Str := ⟨#[c]⟩
theorem all_sg {A : List Nat} : ∀ {ys : List D}, (∀ y ∈ ys, ∃ c ∈ A, y = .str (sg c)) → ∃ bs : List Nat, ys = (bs.map sg).map D.str ∧ (∀ c ∈ bs, c ∈ A)
  | [], _ => ⟨[], rfl, fun _ h => (List.not_mem_nil h).elim⟩
  | y :: ys, h => by
    obtain ⟨c, hc, rfl⟩ := h y List.mem_cons_self
    obtain ⟨bs, rfl, hb⟩ := all_sg (A := A) (ys := ys) fun z hz => h z (List.mem_cons_of_mem _ hz)
    exact ⟨c :: bs, rfl, fun x hx => by rcases List.mem_cons.mp hx with rfl | hx; exact hc; exact hb x hx⟩
theorem join_sg : ∀ bs : List Nat, Str.join (Str.ofString "") (bs.map sg) = ⟨bs.toArray⟩
  | [] => rfl
  | [c] => rfl
  | c :: d :: bs => by
    show sg c ++ Str.ofString "" ++ Str.join (Str.ofString "") ((d :: bs).map sg) = _
    rw [join_sg (d :: bs)]
    apply str_ext
    have e0 : (Str.ofString "").cps.toList = [] := by decide +kernel
    rw [app_toList, app_toList, e0]
    simp [sg]
theorem sum_sg (bs : List Nat) : ((bs.map sg).map (·.length)).sum = bs.length := by
  induction bs with
  | nil => rfl
  | cons c bs ih => simp only [List.map_cons, List.sum_cons, ih, List.length_cons]; show 1 + bs.length = _; omega
theorem gJoin_strs {a : Str} {ps : List Str} : wp (gJoin (.str a) [.lst (ps.map .str)] S) F E ↔ (ps.map (·.length)).sum + ps.length * a.length ≤ 16777216 ∧ F (.str (Str.join a ps)) S := by
  unfold gJoin
  simp only [show iLst S (.lst (ps.map .str)) = some (ps.map .str) from rfl, Option.bind_some, strsOf_map]
  by_cases h : (ps.map (·.length)).sum + ps.length * a.length ≤ 16777216
  · rw [if_pos h, show Txt.join a ps = Str.join a ps from StrLaws.glued_eq_join a ps]
    exact ⟨fun q => ⟨h, q⟩, fun q => q.2⟩
  · rw [if_neg h]
    exact ⟨fun q => q.elim, fun q => h q.1⟩
theorem empty_len : (Str.ofString "").length = 0 := by decide +kernel
theorem shuffle_gen {N : Nat} (hN : 3 ≤ N) (h : DS R S) (hF : ∀ (z : Str) (S' : Sto), z.length ≤ 100 → IsSh z → DS R S' → F (.str z) S') : wp (den fu N i_l_shuffle [.ref 1] S) F E := by
  obtain ⟨N', rfl⟩ : ∃ N', N = N' + 1 := ⟨N - 1, by omega⟩
  show wp (runDef false 4 (b_l_shuffle fu (den fu N')) _ _) _ _
  simp only [b_l_shuffle, wp_ok, wp_ret, wp_stuck, wp_bad, wp_bnd, wp_if, wp_fif, wps_ok_nx, wps_ok_rt, wps_ok_bk, wps_ok_ct, wps_ok_xc, wps_bad, wps_lft, wps_seq, wps_nil, wps_ret, wps_expr, wps_asg, wps_if, wp_run, wps_for, wps_while, wp_comp, wp_var, wp_C, wp_bin, wp_un, wp_T, wp_Tb, wp_asBl, wp_truthBl, wp_bAnd, wp_bOr, wp_bNot, wp_eIf, wp_eAnd, wp_eOr, wp_eNot, blCase_bl, wp_chain, wp_aNil, wp_aCons, wp_tup, wp_lst, wp_lstM, wp_call, wp_cl1, wp_cl2, wp_cl3, wp_cl4, wp_cl5, wp_meth, wp_isi, wp_oNone, wp_oSome, wp_sl, wp_it, wp_range1, wp_range2, wp_bYes, gEq_str, gNe_str, gEq_int, gNe_int, gEq_bl, gNe_bl, gIs_bl, gIsNot_bl, gAdd_int, gSub_int, gC_int, gI_int, gAdd_str, gAdd_tup, gAdd_lst, gNeg_int, gIx_tup, gIx_lst, gLen_tup, gLen_lst, gLen_str, gInt_int, gInt_bl, gTuple_lst, gTuple_tup, gList_lst, gList_tup, gSl_tup, gSl_lst, gSl_fl, gSl_str, srcL_tup, srcL_lst, srcL_fl, srcL_str, srcR1_int, typN, startR, List.map_cons, List.map_nil, List.length_cons, List.length_nil, Nat.reduceAdd, Nat.reduceSub, Nat.zero_add, Nat.sub_self, Nat.sub_zero, List.replicate_zero, List.replicate_succ, List.cons_append, List.nil_append, List.append_nil, List.getElem?_cons_zero, List.getElem?_cons_succ, List.set_cons_zero, List.set_cons_succ, List.set_nil, List.getElem?_nil, Option.some.injEq, exists_eq_left', exists_eq_left, exists_eq_right, reduceCtorEq, false_and, and_false, true_and, and_true, exists_false, exists_const, wipeR, Nat.zero_le, String.reduceEq, D.int.injEq, D.str.injEq, D.bl.injEq, atI_0, atI_1, atI_2, atI_3, atI_4, beq_self_eq_true, not_true_eq_false, not_false_eq_true, Int.cast_ofNat_Int, Int.reduceEq, Int.reduceLE, Int.reduceLT, Int.reduceAdd, Int.reduceSub, Int.reduceMul, Int.reduceNeg, if_true, if_false, ite_true, ite_false, Bool.false_eq_true, if_neg, if_pos, decide_eq_true_eq, Bool.not_eq_true', decide_eq_false_iff_not, eq_self_iff_true, decide_true, decide_false, Bool.not_true, Bool.not_false]
  refine take_ok (by omega) h (by decide) (by decide) fun v1 S1 a0 a1 d1 => ?_
  refine take_ok (by omega) d1 (by decide) (by decide) fun v2 S2 b0 b1 d2 => ?_
  refine ⟨small_line (by decide), take_ok (by omega) d2 (by decide) (by decide) fun v3 S3 c0 c1 d3 => ?_⟩
  simp only [wp_ok, wp_ret, wp_stuck, wp_bad, wp_bnd, wp_if, wp_fif, wps_ok_nx, wps_ok_rt, wps_ok_bk, wps_ok_ct, wps_ok_xc, wps_bad, wps_lft, wps_seq, wps_nil, wps_ret, wps_expr, wps_asg, wps_if, wp_run, wps_for, wps_while, wp_comp, wp_var, wp_C, wp_bin, wp_un, wp_T, wp_Tb, wp_asBl, wp_truthBl, wp_bAnd, wp_bOr, wp_bNot, wp_eIf, wp_eAnd, wp_eOr, wp_eNot, blCase_bl, wp_chain, wp_aNil, wp_aCons, wp_tup, wp_lst, wp_lstM, wp_call, wp_cl1, wp_cl2, wp_cl3, wp_cl4, wp_cl5, wp_meth, wp_isi, wp_oNone, wp_oSome, wp_sl, wp_it, wp_range1, wp_range2, wp_bYes, gEq_str, gNe_str, gEq_int, gNe_int, gEq_bl, gNe_bl, gIs_bl, gIsNot_bl, gAdd_int, gSub_int, gC_int, gI_int, gAdd_str, gAdd_tup, gAdd_lst, gNeg_int, gIx_tup, gIx_lst, gLen_tup, gLen_lst, gLen_str, gInt_int, gInt_bl, gTuple_lst, gTuple_tup, gList_lst, gList_tup, gSl_tup, gSl_lst, gSl_fl, gSl_str, srcL_tup, srcL_lst, srcL_fl, srcL_str, srcR1_int, typN, startR, List.map_cons, List.map_nil, List.length_cons, List.length_nil, Nat.reduceAdd, Nat.reduceSub, Nat.zero_add, Nat.sub_self, Nat.sub_zero, List.replicate_zero, List.replicate_succ, List.cons_append, List.nil_append, List.append_nil, List.getElem?_cons_zero, List.getElem?_cons_succ, List.set_cons_zero, List.set_cons_succ, List.set_nil, List.getElem?_nil, Option.some.injEq, exists_eq_left', exists_eq_left, exists_eq_right, reduceCtorEq, false_and, and_false, true_and, and_true, exists_false, exists_const, wipeR, Nat.zero_le, String.reduceEq, D.int.injEq, D.str.injEq, D.bl.injEq, atI_0, atI_1, atI_2, atI_3, atI_4, beq_self_eq_true, not_true_eq_false, not_false_eq_true, Int.cast_ofNat_Int, Int.reduceEq, Int.reduceLE, Int.reduceLT, Int.reduceAdd, Int.reduceSub, Int.reduceMul, Int.reduceNeg, if_true, if_false, ite_true, ite_false, Bool.false_eq_true, if_neg, if_pos, decide_eq_true_eq, Bool.not_eq_true', decide_eq_false_iff_not, eq_self_iff_true, decide_true, decide_false, Bool.not_true, Bool.not_false]
  have pk : ∀ (x y : Int) (v3 : Int) (hi : Int) (G : D → Prop), 0 ≤ x → x ≤ hi → 0 ≤ y → y ≤ hi → (∀ z : Int, 0 ≤ z → z ≤ hi → G (.int z)) → ∃ d, atI [D.int x, D.int y] (if v3 = 0 then (1 : Int) else 0) = some d ∧ G d := by
    intro x y v3 hi G hx hx2 hy hy2 hF
    by_cases hv : v3 = 0
    · rw [if_pos hv]
      exact ⟨_, atI_1, hF y hy hy2⟩
    · rw [if_neg hv]
      exact ⟨_, atI_0, hF x hx hx2⟩
  refine pk v1 v2 v3 8 _ a0 (by omega) b0 (by omega) fun w0 hw0 hw8 => ⟨w0, rfl, ?_⟩
  obtain ⟨w, rfl⟩ := Int.eq_ofNat_of_zero_le hw0
  have hw : w ≤ 8 := by omega
  have hA : (Str.ofString "abcdefgh").length ≤ sizeLine := by rw [letters_eq]; exact small_line (by decide)
  let a : List Nat := [97, 98, 99, 100, 101, 102, 103, 104].take w
  have la : a.length = w := by show ([97, 98, 99, 100, 101, 102, 103, 104].take w).length = w; simp; omega
  have cut : cutS (Str.ofString "abcdefgh") none (some ((w : Nat) : Int)) = ⟨a.toArray⟩ := by
    rw [letters_eq]
    unfold cutS
    apply str_ext
    simp only [List.toList_toArray]
    have e1 : HT.sIx (Str.length ⟨#[97, 98, 99, 100, 101, 102, 103, 104]⟩) 0 none = 0 := rfl
    have e2 : HT.sIx (Str.length ⟨#[97, 98, 99, 100, 101, 102, 103, 104]⟩) (Str.length ⟨#[97, 98, 99, 100, 101, 102, 103, 104]⟩) (some ((w : Nat) : Int)) = w := by
      rw [HT.sIx_nat]; show min w 8 = w; omega
    rw [e1, e2]; rfl
  have hL : ((⟨a.toArray⟩ : Str)).length = w := by show a.toArray.size = w; simp [la]
  simp only [hA, cut, wp_ok, wp_ret, wp_stuck, wp_bad, wp_bnd, wp_if, wp_fif, wps_ok_nx, wps_ok_rt, wps_ok_bk, wps_ok_ct, wps_ok_xc, wps_bad, wps_lft, wps_seq, wps_nil, wps_ret, wps_expr, wps_asg, wps_if, wp_run, wps_for, wps_while, wp_comp, wp_var, wp_C, wp_bin, wp_un, wp_T, wp_Tb, wp_asBl, wp_truthBl, wp_bAnd, wp_bOr, wp_bNot, wp_eIf, wp_eAnd, wp_eOr, wp_eNot, blCase_bl, wp_chain, wp_aNil, wp_aCons, wp_tup, wp_lst, wp_lstM, wp_call, wp_cl1, wp_cl2, wp_cl3, wp_cl4, wp_cl5, wp_meth, wp_isi, wp_oNone, wp_oSome, wp_sl, wp_it, wp_range1, wp_range2, wp_bYes, gEq_str, gNe_str, gEq_int, gNe_int, gEq_bl, gNe_bl, gIs_bl, gIsNot_bl, gAdd_int, gSub_int, gC_int, gI_int, gAdd_str, gAdd_tup, gAdd_lst, gNeg_int, gIx_tup, gIx_lst, gLen_tup, gLen_lst, gLen_str, gInt_int, gInt_bl, gTuple_lst, gTuple_tup, gList_lst, gList_tup, gSl_tup, gSl_lst, gSl_fl, gSl_str, srcL_tup, srcL_lst, srcL_fl, srcL_str, srcR1_int, typN, startR, List.map_cons, List.map_nil, List.length_cons, List.length_nil, Nat.reduceAdd, Nat.reduceSub, Nat.zero_add, Nat.sub_self, Nat.sub_zero, List.replicate_zero, List.replicate_succ, List.cons_append, List.nil_append, List.append_nil, List.getElem?_cons_zero, List.getElem?_cons_succ, List.set_cons_zero, List.set_cons_succ, List.set_nil, List.getElem?_nil, Option.some.injEq, exists_eq_left', exists_eq_left, exists_eq_right, reduceCtorEq, false_and, and_false, true_and, and_true, exists_false, exists_const, wipeR, Nat.zero_le, String.reduceEq, D.int.injEq, D.str.injEq, D.bl.injEq, atI_0, atI_1, atI_2, atI_3, atI_4, beq_self_eq_true, not_true_eq_false, not_false_eq_true, Int.cast_ofNat_Int, Int.reduceEq, Int.reduceLE, Int.reduceLT, Int.reduceAdd, Int.reduceSub, Int.reduceMul, Int.reduceNeg, if_true, if_false, ite_true, ite_false, Bool.false_eq_true, if_neg, if_pos, decide_eq_true_eq, Bool.not_eq_true', decide_eq_false_iff_not, eq_self_iff_true, decide_true, decide_false, Bool.not_true, Bool.not_false]
  refine take_ok (by omega) d3 (by decide) (by decide) fun v4 S4 e0 e1 d4 => ?_
  refine take_ok (by omega) d4 (by decide) (by decide) fun v5 S5 f0 f1 d5 => ?_
  refine ⟨small_line (by decide), take_ok (by omega) d5 (by decide) (by decide) fun v6 S6 g0 g1 d6 => ?_⟩
  simp only [wp_ok, wp_ret, wp_stuck, wp_bad, wp_bnd, wp_if, wp_fif, wps_ok_nx, wps_ok_rt, wps_ok_bk, wps_ok_ct, wps_ok_xc, wps_bad, wps_lft, wps_seq, wps_nil, wps_ret, wps_expr, wps_asg, wps_if, wp_run, wps_for, wps_while, wp_comp, wp_var, wp_C, wp_bin, wp_un, wp_T, wp_Tb, wp_asBl, wp_truthBl, wp_bAnd, wp_bOr, wp_bNot, wp_eIf, wp_eAnd, wp_eOr, wp_eNot, blCase_bl, wp_chain, wp_aNil, wp_aCons, wp_tup, wp_lst, wp_lstM, wp_call, wp_cl1, wp_cl2, wp_cl3, wp_cl4, wp_cl5, wp_meth, wp_isi, wp_oNone, wp_oSome, wp_sl, wp_it, wp_range1, wp_range2, wp_bYes, gEq_str, gNe_str, gEq_int, gNe_int, gEq_bl, gNe_bl, gIs_bl, gIsNot_bl, gAdd_int, gSub_int, gC_int, gI_int, gAdd_str, gAdd_tup, gAdd_lst, gNeg_int, gIx_tup, gIx_lst, gLen_tup, gLen_lst, gLen_str, gInt_int, gInt_bl, gTuple_lst, gTuple_tup, gList_lst, gList_tup, gSl_tup, gSl_lst, gSl_fl, gSl_str, srcL_tup, srcL_lst, srcL_fl, srcL_str, srcR1_int, typN, startR, List.map_cons, List.map_nil, List.length_cons, List.length_nil, Nat.reduceAdd, Nat.reduceSub, Nat.zero_add, Nat.sub_self, Nat.sub_zero, List.replicate_zero, List.replicate_succ, List.cons_append, List.nil_append, List.append_nil, List.getElem?_cons_zero, List.getElem?_cons_succ, List.set_cons_zero, List.set_cons_succ, List.set_nil, List.getElem?_nil, Option.some.injEq, exists_eq_left', exists_eq_left, exists_eq_right, reduceCtorEq, false_and, and_false, true_and, and_true, exists_false, exists_const, wipeR, Nat.zero_le, String.reduceEq, D.int.injEq, D.str.injEq, D.bl.injEq, atI_0, atI_1, atI_2, atI_3, atI_4, beq_self_eq_true, not_true_eq_false, not_false_eq_true, Int.cast_ofNat_Int, Int.reduceEq, Int.reduceLE, Int.reduceLT, Int.reduceAdd, Int.reduceSub, Int.reduceMul, Int.reduceNeg, if_true, if_false, ite_true, ite_false, Bool.false_eq_true, if_neg, if_pos, decide_eq_true_eq, Bool.not_eq_true', decide_eq_false_iff_not, eq_self_iff_true, decide_true, decide_false, Bool.not_true, Bool.not_false]
  refine pk v4 v5 v6 12 _ e0 (by omega) f0 (by omega) fun m0 hm0 hm12 => ?_
  have hem : ((⟨a.toArray⟩ : Str) = Str.ofString "") ↔ w = 0 := by
    constructor
    · intro e
      have := congrArg Str.length e
      rw [hL, empty_len] at this; exact this
    · intro e
      apply str_ext
      have e0 : (Str.ofString "").cps.toList = [] := by decide +kernel
      rw [e0]
      show a.toArray.toList = []
      simp only [List.toList_toArray]
      exact List.eq_nil_of_length_eq_zero (by omega)
  rw [gI_int]
  refine ⟨cMul_r (by split <;> decide) (by split <;> decide), ?_⟩
  have hr : 0 ≤ m0 * (if ¬ (⟨a.toArray⟩ : Str) = Str.ofString "" then (1 : Int) else 0) ∧ m0 * (if ¬ (⟨a.toArray⟩ : Str) = Str.ofString "" then (1 : Int) else 0) ≤ 12 ∧ (w = 0 → m0 * (if ¬ (⟨a.toArray⟩ : Str) = Str.ofString "" then (1 : Int) else 0) = 0) := by
    by_cases hw0 : w = 0
    · rw [if_neg (by simpa using hem.mpr hw0)]; simp
    · rw [if_pos (fun e => hw0 (hem.mp e))]; simp; exact ⟨hm0, hm12, fun e => absurd e hw0⟩
  obtain ⟨r0, r1, r2⟩ := hr
  generalize m0 * (if ¬ (⟨a.toArray⟩ : Str) = Str.ofString "" then (1 : Int) else 0) = r at r0 r1 r2
  have hD : (Str.ofString "-").length = 1 := by rw [dash_eq]; rfl
  refine ⟨small_line (by omega), rfl, ?_⟩
  rw [srcR1_int]
  refine ⟨by simp [bnd62]; omega, by rw [rangeD_len]; exact small_line (by omega), ?_⟩
  refine comp_inv (DS R) (fun y => ∃ c ∈ a, y = .str (sg c)) d6 (fun d hd S' dd => ?_) (fun ys S7 hl hy d7 => ?_)
  · have hrp : 0 < r.toNat := by
      have := List.length_pos_of_mem hd
      rw [rangeD_len] at this; exact this
    have hwp : 0 < w := by
      rcases Nat.eq_zero_or_pos w with h0 | h0
      · have := r2 h0; omega
      · exact h0
    simp only [hL, show w ≤ sizeLine from small_line (by omega), wp_ok, wp_ret, wp_stuck, wp_bad, wp_bnd, wp_if, wp_fif, wps_ok_nx, wps_ok_rt, wps_ok_bk, wps_ok_ct, wps_ok_xc, wps_bad, wps_lft, wps_seq, wps_nil, wps_ret, wps_expr, wps_asg, wps_if, wp_run, wps_for, wps_while, wp_comp, wp_var, wp_C, wp_bin, wp_un, wp_T, wp_Tb, wp_asBl, wp_truthBl, wp_bAnd, wp_bOr, wp_bNot, wp_eIf, wp_eAnd, wp_eOr, wp_eNot, blCase_bl, wp_chain, wp_aNil, wp_aCons, wp_tup, wp_lst, wp_lstM, wp_call, wp_cl1, wp_cl2, wp_cl3, wp_cl4, wp_cl5, wp_meth, wp_isi, wp_oNone, wp_oSome, wp_sl, wp_it, wp_range1, wp_range2, wp_bYes, gEq_str, gNe_str, gEq_int, gNe_int, gEq_bl, gNe_bl, gIs_bl, gIsNot_bl, gAdd_int, gSub_int, gC_int, gI_int, gAdd_str, gAdd_tup, gAdd_lst, gNeg_int, gIx_tup, gIx_lst, gLen_tup, gLen_lst, gLen_str, gInt_int, gInt_bl, gTuple_lst, gTuple_tup, gList_lst, gList_tup, gSl_tup, gSl_lst, gSl_fl, gSl_str, srcL_tup, srcL_lst, srcL_fl, srcL_str, srcR1_int, typN, startR, List.map_cons, List.map_nil, List.length_cons, List.length_nil, Nat.reduceAdd, Nat.reduceSub, Nat.zero_add, Nat.sub_self, Nat.sub_zero, List.replicate_zero, List.replicate_succ, List.cons_append, List.nil_append, List.append_nil, List.getElem?_cons_zero, List.getElem?_cons_succ, List.set_cons_zero, List.set_cons_succ, List.set_nil, List.getElem?_nil, Option.some.injEq, exists_eq_left', exists_eq_left, exists_eq_right, reduceCtorEq, false_and, and_false, true_and, and_true, exists_false, exists_const, wipeR, Nat.zero_le, String.reduceEq, D.int.injEq, D.str.injEq, D.bl.injEq, atI_0, atI_1, atI_2, atI_3, atI_4, beq_self_eq_true, not_true_eq_false, not_false_eq_true, Int.cast_ofNat_Int, Int.reduceEq, Int.reduceLE, Int.reduceLT, Int.reduceAdd, Int.reduceSub, Int.reduceMul, Int.reduceNeg, if_true, if_false, ite_true, ite_false, Bool.false_eq_true, if_neg, if_pos, decide_eq_true_eq, Bool.not_eq_true', decide_eq_false_iff_not, eq_self_iff_true, decide_true, decide_false, Bool.not_true, Bool.not_false]
    refine take_ok (by omega) dd (by omega) (by omega) fun v S' q0 q1 d' => ?_
    rw [gIx_sign]
    have hLa : (⟨a.toArray⟩ : Str).cps.toList = a := by simp
    rw [hLa]
    obtain ⟨c, hc, e⟩ := atI_mem (ds := a) q0 (by omega)
    exact ⟨small_line (by omega), c, e, ⟨c, hc, rfl⟩, d'⟩
  · rw [rangeD_len] at hl
    obtain ⟨bs, rfl, hb⟩ := all_sg hy
    have hbl : bs.length ≤ 12 := by simp at hl; omega
    rw [gJoin_strs, sum_sg, join_sg]
    refine ⟨by rw [empty_len]; simp; omega, ?_⟩
    have hR : ((⟨bs.toArray⟩ : Str)).length = bs.length := by show bs.toArray.size = _; simp
    have hAD : ((⟨a.toArray⟩ : Str) ++ Str.ofString "-").length = w + 1 := by
      rw [dash_eq]; show (a.toArray ++ #[45]).size = w + 1; simp [la]
    have hADB : ((⟨a.toArray⟩ : Str) ++ Str.ofString "-" ++ (⟨bs.toArray⟩ : Str)).length = w + 1 + bs.length := by
      rw [dash_eq]; show ((a.toArray ++ #[45]) ++ bs.toArray).size = w + 1 + bs.length; simp [la]; omega
    rw [gAdd_str]
    refine ⟨small_line (by omega), ?_⟩
    exact d7.fin_same (by rw [d7.len, h.len]) rfl (hF _ _ (by omega) ⟨a, bs, by rw [dash_eq], ⟨w, hw, rfl⟩, hbl, hb⟩ d7)
end K69

namespace K69
open PySem L2 DL
variable {fu n : Nat} {R S : Sto} {F : D → Sto → Prop} {E : Exc → Sto → Prop}
/-! names -/
def base : List Str := ["pl", "plu", "iff", "i", "dipp", "eac", "wra", "lesser", "dodo", "d", "pluss", "joi"]
theorem base_names : ∀ z ∈ base, NameP z := by
  have : ∀ z ∈ base, nameB z = true := by decide +kernel
  intro z hz
  have := this z hz
  simp only [nameB, Bool.and_eq_true, decide_eq_true_eq, Bool.not_eq_true', decide_eq_false_iff_not, List.all_eq_true] at this
  exact ⟨this.1.1.1, this.1.1.2, this.1.2, this.2⟩
theorem base_nodup : base.Nodup := by decide +kernel
theorem noxs : ∀ b ∈ basics, b.cps.toList.head? ≠ some 120 := by decide +kernel
def Names (L : List Str) : Prop := 1 ≤ L.length ∧ L.length ≤ 8 ∧ L.Nodup ∧ ∀ z ∈ L, NameP z
theorem Names.tr {L : List Str} : tr (.lst (L.map .str)) := by
  have : D.los 0 (L.map D.str) = true := los_map (fun _ => rfl) L
  exact this
theorem x_len : (Str.ofString "x").cps.toList = [120] := by decide +kernel
theorem names_gen {m : Nat} {N : Nat} (hN : 3 ≤ N) (hm : 1 ≤ m) (hm8 : m ≤ 8) (h : DS R S) (hF : ∀ (L : List Str) (S' : Sto), Names L → DS R S' → F (.lst (L.map .str)) S') : wp (den fu N i_l_names [.ref 1, .int m] S) F E := by
  obtain ⟨N', rfl⟩ : ∃ N', N = N' + 1 := ⟨N - 1, by omega⟩
  show wp (runDef false 8 (b_l_names fu (den fu N')) _ _) _ _
  simp only [b_l_names, wp_ok, wp_ret, wp_stuck, wp_bad, wp_bnd, wp_if, wp_fif, wps_ok_nx, wps_ok_rt, wps_ok_bk, wps_ok_ct, wps_ok_xc, wps_bad, wps_lft, wps_seq, wps_nil, wps_ret, wps_expr, wps_asg, wps_if, wp_run, wps_for, wps_while, wp_comp, wp_var, wp_C, wp_bin, wp_un, wp_T, wp_Tb, wp_asBl, wp_truthBl, wp_bAnd, wp_bOr, wp_bNot, wp_eIf, wp_eAnd, wp_eOr, wp_eNot, blCase_bl, wp_chain, wp_aNil, wp_aCons, wp_tup, wp_lst, wp_lstM, wp_call, wp_cl1, wp_cl2, wp_cl3, wp_cl4, wp_cl5, wp_meth, wp_isi, wp_oNone, wp_oSome, wp_sl, wp_it, wp_range1, wp_range2, wp_bYes, gEq_str, gNe_str, gEq_int, gNe_int, gEq_bl, gNe_bl, gIs_bl, gIsNot_bl, gAdd_int, gSub_int, gC_int, gI_int, gAdd_str, gAdd_tup, gAdd_lst, gNeg_int, gIx_tup, gIx_lst, gLen_tup, gLen_lst, gLen_str, gInt_int, gInt_bl, gTuple_lst, gTuple_tup, gList_lst, gList_tup, gSl_tup, gSl_lst, gSl_fl, gSl_str, srcL_tup, srcL_lst, srcL_fl, srcL_str, srcR1_int, typN, startR, List.map_cons, List.map_nil, List.length_cons, List.length_nil, Nat.reduceAdd, Nat.reduceSub, Nat.zero_add, Nat.sub_self, Nat.sub_zero, List.replicate_zero, List.replicate_succ, List.cons_append, List.nil_append, List.append_nil, List.getElem?_cons_zero, List.getElem?_cons_succ, List.set_cons_zero, List.set_cons_succ, List.set_nil, List.getElem?_nil, Option.some.injEq, exists_eq_left', exists_eq_left, exists_eq_right, reduceCtorEq, false_and, and_false, true_and, and_true, exists_false, exists_const, wipeR, Nat.zero_le, String.reduceEq, D.int.injEq, D.str.injEq, D.bl.injEq, atI_0, atI_1, atI_2, atI_3, atI_4, beq_self_eq_true, not_true_eq_false, not_false_eq_true, Int.cast_ofNat_Int, Int.reduceEq, Int.reduceLE, Int.reduceLT, Int.reduceAdd, Int.reduceSub, Int.reduceMul, Int.reduceNeg, if_true, if_false, ite_true, ite_false, Bool.false_eq_true, if_neg, if_pos, decide_eq_true_eq, Bool.not_eq_true', decide_eq_false_iff_not, eq_self_iff_true, decide_true, decide_false, Bool.not_true, Bool.not_false]
  refine ⟨small_line (by decide), ?_⟩
  refine take_ok (by omega) h (by decide) (by decide) fun v1 S1 a0 a1 d1 => ?_
  obtain ⟨v, rfl⟩ := Int.eq_ofNat_of_zero_le a0
  have hv : v ≤ 12 := by omega
  refine ⟨v, rfl, v, rfl, ?_⟩
  have e1 : cutD [D.str "pl", .str "plu", .str "iff", .str "i", .str "dipp", .str "eac", .str "wra", .str "lesser", .str "dodo", .str "d", .str "pluss", .str "joi"] (some ((v : Nat) : Int)) none = (base.map D.str).drop v := cut_drop hv
  have e2 : cutD [D.str "pl", .str "plu", .str "iff", .str "i", .str "dipp", .str "eac", .str "wra", .str "lesser", .str "dodo", .str "d", .str "pluss", .str "joi"] none (some ((v : Nat) : Int)) = (base.map D.str).take v := cut_take hv
  rw [e1, e2]
  refine ⟨small_line (by simp [base]; omega), ?_⟩
  rw [← List.map_drop, ← List.map_take, ← List.map_append]
  refine ⟨rfl, by decide, by rw [rangeD_len]; exact small_line (by decide), ?_⟩
  have hs26 : (Str.ofString "abcdefghijklmnopqrstuvwxyz").length = 26 := by
    show (Str.ofString "abcdefghijklmnopqrstuvwxyz").cps.size = 26
    rw [← Array.length_toList, small_eq]; rfl
  -- the last step
  have fin : ∀ (L : List Str) (S' : Sto), m ≤ L.length → L.Nodup → (∀ z ∈ L, NameP z) → DS R S' → wp (finD false S.length (.lst (cutD (L.map .str) none (some (m : Int)))) S') F E := by
    intro L S' hl hn hz hd
    rw [cut_take (by simpa using hl), ← List.map_take]
    refine hd.fin_same (by rw [hd.len, h.len]) Names.tr (hF _ _ ⟨?_, ?_, ?_, fun z hz' => hz z (List.mem_of_mem_take hz')⟩ hd)
    · rw [List.length_take]; omega
    · rw [List.length_take]; omega
    · exact hn.sublist (List.take_sublist _ _)
  refine comp_inv (DS R) (fun y => ∃ c ∈ small, y = .str (sg c)) d1 (fun d hd S' dd => ?_) (fun ys S7 hl hy d7 => ?_)
  · simp only [wp_ok, wp_ret, wp_stuck, wp_bad, wp_bnd, wp_if, wp_fif, wps_ok_nx, wps_ok_rt, wps_ok_bk, wps_ok_ct, wps_ok_xc, wps_bad, wps_lft, wps_seq, wps_nil, wps_ret, wps_expr, wps_asg, wps_if, wp_run, wps_for, wps_while, wp_comp, wp_var, wp_C, wp_bin, wp_un, wp_T, wp_Tb, wp_asBl, wp_truthBl, wp_bAnd, wp_bOr, wp_bNot, wp_eIf, wp_eAnd, wp_eOr, wp_eNot, blCase_bl, wp_chain, wp_aNil, wp_aCons, wp_tup, wp_lst, wp_lstM, wp_call, wp_cl1, wp_cl2, wp_cl3, wp_cl4, wp_cl5, wp_meth, wp_isi, wp_oNone, wp_oSome, wp_sl, wp_it, wp_range1, wp_range2, wp_bYes, gEq_str, gNe_str, gEq_int, gNe_int, gEq_bl, gNe_bl, gIs_bl, gIsNot_bl, gAdd_int, gSub_int, gC_int, gI_int, gAdd_str, gAdd_tup, gAdd_lst, gNeg_int, gIx_tup, gIx_lst, gLen_tup, gLen_lst, gLen_str, gInt_int, gInt_bl, gTuple_lst, gTuple_tup, gList_lst, gList_tup, gSl_tup, gSl_lst, gSl_fl, gSl_str, srcL_tup, srcL_lst, srcL_fl, srcL_str, srcR1_int, typN, startR, List.map_cons, List.map_nil, List.length_cons, List.length_nil, Nat.reduceAdd, Nat.reduceSub, Nat.zero_add, Nat.sub_self, Nat.sub_zero, List.replicate_zero, List.replicate_succ, List.cons_append, List.nil_append, List.append_nil, List.getElem?_cons_zero, List.getElem?_cons_succ, List.set_cons_zero, List.set_cons_succ, List.set_nil, List.getElem?_nil, Option.some.injEq, exists_eq_left', exists_eq_left, exists_eq_right, reduceCtorEq, false_and, and_false, true_and, and_true, exists_false, exists_const, wipeR, Nat.zero_le, String.reduceEq, D.int.injEq, D.str.injEq, D.bl.injEq, atI_0, atI_1, atI_2, atI_3, atI_4, beq_self_eq_true, not_true_eq_false, not_false_eq_true, Int.cast_ofNat_Int, Int.reduceEq, Int.reduceLE, Int.reduceLT, Int.reduceAdd, Int.reduceSub, Int.reduceMul, Int.reduceNeg, if_true, if_false, ite_true, ite_false, Bool.false_eq_true, if_neg, if_pos, decide_eq_true_eq, Bool.not_eq_true', decide_eq_false_iff_not, eq_self_iff_true, decide_true, decide_false, Bool.not_true, Bool.not_false]
    refine take_ok (by omega) dd (by decide) (by decide) fun v S' q0 q1 d' => ?_
    rw [gIx_sign, small_eq]
    obtain ⟨c, hc, e⟩ := atI_mem (ds := small) q0 (by show v < 26; omega)
    exact ⟨small_line (by rw [hs26]; decide), c, e, ⟨c, hc, rfl⟩, d'⟩
  rw [rangeD_len] at hl
  obtain ⟨bs, rfl, hb⟩ := all_sg hy
  have hbl : bs.length = 7 := by simpa using hl
  rw [gJoin_strs, sum_sg, join_sg]
  refine ⟨by rw [empty_len]; simp; omega, ?_⟩
  refine take_ok (by omega) d7 (by decide) (by decide) fun v8 S8 p0 p1 d8 => ?_
  simp only [wp_ok, wp_ret, wp_stuck, wp_bad, wp_bnd, wp_if, wp_fif, wps_ok_nx, wps_ok_rt, wps_ok_bk, wps_ok_ct, wps_ok_xc, wps_bad, wps_lft, wps_seq, wps_nil, wps_ret, wps_expr, wps_asg, wps_if, wp_run, wps_for, wps_while, wp_comp, wp_var, wp_C, wp_bin, wp_un, wp_T, wp_Tb, wp_asBl, wp_truthBl, wp_bAnd, wp_bOr, wp_bNot, wp_eIf, wp_eAnd, wp_eOr, wp_eNot, blCase_bl, wp_chain, wp_aNil, wp_aCons, wp_tup, wp_lst, wp_lstM, wp_call, wp_cl1, wp_cl2, wp_cl3, wp_cl4, wp_cl5, wp_meth, wp_isi, wp_oNone, wp_oSome, wp_sl, wp_it, wp_range1, wp_range2, wp_bYes, gEq_str, gNe_str, gEq_int, gNe_int, gEq_bl, gNe_bl, gIs_bl, gIsNot_bl, gAdd_int, gSub_int, gC_int, gI_int, gAdd_str, gAdd_tup, gAdd_lst, gNeg_int, gIx_tup, gIx_lst, gLen_tup, gLen_lst, gLen_str, gInt_int, gInt_bl, gTuple_lst, gTuple_tup, gList_lst, gList_tup, gSl_tup, gSl_lst, gSl_fl, gSl_str, srcL_tup, srcL_lst, srcL_fl, srcL_str, srcR1_int, typN, startR, List.map_cons, List.map_nil, List.length_cons, List.length_nil, Nat.reduceAdd, Nat.reduceSub, Nat.zero_add, Nat.sub_self, Nat.sub_zero, List.replicate_zero, List.replicate_succ, List.cons_append, List.nil_append, List.append_nil, List.getElem?_cons_zero, List.getElem?_cons_succ, List.set_cons_zero, List.set_cons_succ, List.set_nil, List.getElem?_nil, Option.some.injEq, exists_eq_left', exists_eq_left, exists_eq_right, reduceCtorEq, false_and, and_false, true_and, and_true, exists_false, exists_const, wipeR, Nat.zero_le, String.reduceEq, D.int.injEq, D.str.injEq, D.bl.injEq, atI_0, atI_1, atI_2, atI_3, atI_4, beq_self_eq_true, not_true_eq_false, not_false_eq_true, Int.cast_ofNat_Int, Int.reduceEq, Int.reduceLE, Int.reduceLT, Int.reduceAdd, Int.reduceSub, Int.reduceMul, Int.reduceNeg, if_true, if_false, ite_true, ite_false, Bool.false_eq_true, if_neg, if_pos, decide_eq_true_eq, Bool.not_eq_true', decide_eq_false_iff_not, eq_self_iff_true, decide_true, decide_false, Bool.not_true, Bool.not_false]
  by_cases hv8 : v8 = 0
  · rw [if_pos hv8]
    refine ⟨by decide, by rw [rangeD_len]; exact small_line (by decide), ?_⟩
    have hT : (⟨bs.toArray⟩ : Str).length = 7 := by show bs.toArray.size = 7; simp [hbl]
    refine comp_pure (fun d => match d with | .int i => .str ⟨(120 :: bs.take i.toNat).toArray⟩ | d => d) (fun d hd => ?_) ?_
    · obtain ⟨i, hi, rfl⟩ := List.mem_map.mp hd
      have hi8 : i < 8 := by simpa using hi
      have cu : cutS ⟨bs.toArray⟩ none (some ((0 : Int) + (i : Nat))) = ⟨(bs.take i).toArray⟩ := by
        rw [Int.zero_add]
        unfold cutS
        apply str_ext
        rw [HT.sIx_nat, HT.sIx_none, hT]
        simp only [List.toList_toArray, List.drop_zero, Nat.sub_zero, Nat.min_eq_left (show i ≤ 7 by omega)]
      have hcl : ((⟨(bs.take i).toArray⟩ : Str)).length ≤ 7 := by show ((bs.take i).toArray).size ≤ 7; simp; omega
      have hx1 : (Str.ofString "x").length = 1 := by show (Str.ofString "x").cps.size = 1; rw [← Array.length_toList, x_len]; rfl
      simp only [hT, cu, wp_ok, wp_ret, wp_stuck, wp_bad, wp_bnd, wp_if, wp_fif, wps_ok_nx, wps_ok_rt, wps_ok_bk, wps_ok_ct, wps_ok_xc, wps_bad, wps_lft, wps_seq, wps_nil, wps_ret, wps_expr, wps_asg, wps_if, wp_run, wps_for, wps_while, wp_comp, wp_var, wp_C, wp_bin, wp_un, wp_T, wp_Tb, wp_asBl, wp_truthBl, wp_bAnd, wp_bOr, wp_bNot, wp_eIf, wp_eAnd, wp_eOr, wp_eNot, blCase_bl, wp_chain, wp_aNil, wp_aCons, wp_tup, wp_lst, wp_lstM, wp_call, wp_cl1, wp_cl2, wp_cl3, wp_cl4, wp_cl5, wp_meth, wp_isi, wp_oNone, wp_oSome, wp_sl, wp_it, wp_range1, wp_range2, wp_bYes, gEq_str, gNe_str, gEq_int, gNe_int, gEq_bl, gNe_bl, gIs_bl, gIsNot_bl, gAdd_int, gSub_int, gC_int, gI_int, gAdd_str, gAdd_tup, gAdd_lst, gNeg_int, gIx_tup, gIx_lst, gLen_tup, gLen_lst, gLen_str, gInt_int, gInt_bl, gTuple_lst, gTuple_tup, gList_lst, gList_tup, gSl_tup, gSl_lst, gSl_fl, gSl_str, srcL_tup, srcL_lst, srcL_fl, srcL_str, srcR1_int, typN, startR, List.map_cons, List.map_nil, List.length_cons, List.length_nil, Nat.reduceAdd, Nat.reduceSub, Nat.zero_add, Nat.sub_self, Nat.sub_zero, List.replicate_zero, List.replicate_succ, List.cons_append, List.nil_append, List.append_nil, List.getElem?_cons_zero, List.getElem?_cons_succ, List.set_cons_zero, List.set_cons_succ, List.set_nil, List.getElem?_nil, Option.some.injEq, exists_eq_left', exists_eq_left, exists_eq_right, reduceCtorEq, false_and, and_false, true_and, and_true, exists_false, exists_const, wipeR, Nat.zero_le, String.reduceEq, D.int.injEq, D.str.injEq, D.bl.injEq, atI_0, atI_1, atI_2, atI_3, atI_4, beq_self_eq_true, not_true_eq_false, not_false_eq_true, Int.cast_ofNat_Int, Int.reduceEq, Int.reduceLE, Int.reduceLT, Int.reduceAdd, Int.reduceSub, Int.reduceMul, Int.reduceNeg, if_true, if_false, ite_true, ite_false, Bool.false_eq_true, if_neg, if_pos, decide_eq_true_eq, Bool.not_eq_true', decide_eq_false_iff_not, eq_self_iff_true, decide_true, decide_false, Bool.not_true, Bool.not_false]
      refine ⟨small_line (by decide), small_line (by omega), ?_⟩
      congr 1
      apply str_ext
      rw [app_toList, x_len, Int.zero_add, Int.toNat_natCast]
      simp
    · have e : ((rangeD 0 (Int.toNat 8)).map fun d => match d with | .int i => D.str ⟨(120 :: bs.take i.toNat).toArray⟩ | d => d) = ((List.range 8).map fun k => (⟨(120 :: bs.take k).toArray⟩ : Str)).map D.str := by
        simp only [rangeD, List.map_map]
        rfl
      rw [e]
      have lenk : ∀ k, k < 8 → (⟨(120 :: bs.take k).toArray⟩ : Str).length = k + 1 := fun k hk => by
        show ((120 :: bs.take k).toArray).size = k + 1
        simp; omega
      refine fin _ _ (by simpa using hm8) ?_ (fun z hz => ?_) d8
      · rw [List.nodup_iff_pairwise_ne, List.pairwise_map]
        refine List.Pairwise.imp_of_mem ?_ (List.nodup_range (n := 8))
        intro a b ha hb hab e
        have := congrArg Str.length e
        rw [lenk a (by simpa using ha), lenk b (by simpa using hb)] at this
        exact hab (by omega)
      · obtain ⟨k, hk, rfl⟩ := List.mem_map.mp hz
        have hk8 : k < 8 := by simpa using hk
        refine ⟨by rw [lenk k hk8]; omega, by rw [lenk k hk8]; omega, fun hmem => noxs _ hmem (by simp), fun c hc => ?_⟩
        simp only [List.toList_toArray, List.mem_cons] at hc
        rcases hc with rfl | hc
        · decide
        · exact hb c (List.mem_of_mem_take hc)
  · rw [if_neg hv8]
    refine fin _ _ (by simp [base]; omega) ?_ (fun z hz => ?_) d8
    · exact (List.perm_append_comm.nodup_iff).mp (by rw [List.take_append_drop]; exact base_nodup)
    · rw [List.mem_append] at hz
      rcases hz with hz | hz
      · exact base_names z (List.mem_of_mem_drop hz)
      · exact base_names z (List.mem_of_mem_take hz)
end K69

namespace K69
open PySem L2 DL
/-! the tokens of a thing's text -/
def istr (i : Int) : Str := toString i
def tokN : D → List Str
  | .tup [.str _, .int i] => [istr i]
  | _ => []
def tokT : Nat → D → List Str
  | 0, d => tokN d
  | J + 1, .tup [.str k, .tup xs] => if k = Str.ofString "row" then Str.ofString "[" :: (xs.flatMap fun w => match w with
      | .str y => [y]
      | .tup [_, t] => tokT J t
      | _ => []) ++ [Str.ofString "]"]
    else Str.ofString "{" :: (xs.flatMap (tokT J)) ++ [Str.ofString "}"]
  | _ + 1, d => tokN d
def tokW (J : Nat) (w : D) : List Str := match w with
  | .str y => [y]
  | .tup [_, t] => tokT J t
  | _ => []
theorem tokT_row {J : Nat} {xs : List D} : tokT (J + 1) (.tup [.str "row", .tup xs]) = Str.ofString "[" :: (xs.flatMap (tokW J)) ++ [Str.ofString "]"] := by
  simp only [tokT, if_true]
  rfl
theorem tokT_list {J : Nat} {xs : List D} : tokT (J + 1) (.tup [.str "list", .tup xs]) = Str.ofString "{" :: (xs.flatMap (tokT J)) ++ [Str.ofString "}"] := by
  simp only [tokT, ofString_inj, Nat.zero_le, String.reduceEq, D.int.injEq, D.str.injEq, D.bl.injEq, atI_0, atI_1, atI_2, atI_3, atI_4, beq_self_eq_true, not_true_eq_false, not_false_eq_true, Int.cast_ofNat_Int, Int.reduceEq, Int.reduceLE, Int.reduceLT, Int.reduceAdd, Int.reduceSub, Int.reduceMul, Int.reduceNeg, if_true, if_false, ite_true, ite_false, Bool.false_eq_true, if_neg, if_pos, decide_eq_true_eq, Bool.not_eq_true', decide_eq_false_iff_not, eq_self_iff_true, decide_true, decide_false, Bool.not_true, Bool.not_false]
theorem tokT_num {J : Nat} {k : Str} {i : Int} : tokT J (.tup [.str k, .int i]) = [istr i] := by cases J <;> rfl
end K69

namespace K69
open PySem L2 DL
variable {fu n l c c' : Nat} {R S : Sto} {F : D → Sto → Prop} {E : Exc → Sto → Prop}
/-! rows and things drawn, with a count of what is left at l -/
structure LS (R : Sto) (l n : Nat) (S : Sto) : Prop where
  l2 : 2 ≤ l
  ll : l < R.length
  at_ : DS (R.set l (.lst [.int (n : Nat)])) S
theorem LS.oks (h : LS R l c S) : OKS S := h.at_.oks
theorem LS.len (h : LS R l c S) : S.length = R.length := by rw [h.at_.len]; simp
theorem LS.get (h : LS R l c S) : atL S l = some [.int (c : Nat)] ∧ ∀ c' : Nat, LS R l c' (S.set l (.lst [.int (c' : Nat)])) := by
  obtain ⟨l2, ll, d⟩ := h
  refine ⟨?_, fun n' => ⟨l2, ll, ?_⟩⟩
  · unfold atL; rw [d.get l2, List.getElem?_set_self ll]
  · have := d.put (m := .lst [.int (n' : Nat)]) l2 rfl
    rwa [List.set_set] at this
theorem LS.push {m : MO} (h : LS R l c S) (hm : m.lo 0 = true) : LS (R ++ [m]) l c (S ++ [m]) := by
  obtain ⟨l2, ll, d⟩ := h
  refine ⟨l2, by simp; omega, ?_⟩
  rw [List.set_append_left _ _ ll]
  exact d.push hm
theorem LS.last {m : MO} (h : LS (R ++ [m]) l c S) (hl : l < R.length) : S[R.length]? = some m := by
  obtain ⟨l2, ll, d⟩ := h
  rw [List.set_append_left _ _ hl] at d
  have := d.last (R := R.set l (.lst [.int (c : Nat)])) (by simp; omega)
  simpa using this
theorem LS.put {m m' : MO} (h : LS (R ++ [m]) l c S) (hl : l < R.length) (hm : m'.lo 0 = true) : LS (R ++ [m']) l c (S.set R.length m') := by
  obtain ⟨l2, ll, d⟩ := h
  refine ⟨l2, by simp; omega, ?_⟩
  rw [List.set_append_left _ _ hl] at d ⊢
  have := d.put (m := m') (k := R.length) (by omega) hm
  rw [List.set_append_right _ _ (by simp)] at this
  simpa using this
theorem LS.cut {m : MO} (h : LS (R ++ [m]) l c S) (hl : l < R.length) : LS R l c (S.take R.length) := by
  obtain ⟨l2, ll, d⟩ := h
  refine ⟨l2, hl, ?_⟩
  rw [List.set_append_left _ _ hl] at d
  have := d.cut (by simp; omega)
  simpa using this
theorem LS.fin_same {S1 : Sto} {d : D} (h : LS R l c S) (hl : S.length = S1.length) (hd : tr d) (hF : F d S) : wp (finD false S1.length d S) F E := by
  exact h.at_.fin_same hl hd hF
theorem ltake {m : Int} {N : Nat} (hN : 2 ≤ N) (h : LS R l c S) (hm : 0 < m) (hm2 : m < 18446744073709551616) (hF : ∀ (v : Int) (S' : Sto), 0 ≤ v → v < m → LS R l c S' → F (.int v) S') : wp (den fu N i_l_take [.ref 1, .int m] S) F E := by
  obtain ⟨l2, ll, d⟩ := h
  exact take_ok hN d hm hm2 fun v S' a b d' => hF v S' a b ⟨l2, ll, d'⟩
/-- the texts of drawn rows -/
def QL (L : List Str) (z : Str) : Prop := z ∈ basics ∨ IsSh z ∨ z ∈ L
theorem basics_eq : Str.ofString "plus minus times less same do dip if while repeat join wrap put part each" = Str.join ⟨#[32]⟩ basics := by decide +kernel
theorem space_eq : Str.ofString " " = ⟨#[32]⟩ := by decide +kernel
theorem basics_free : ∀ p ∈ basics, (32 : Nat) ∉ p.cps.toList := by decide +kernel
theorem basics_len : ∀ p ∈ basics, p.length ≤ 100 := by decide +kernel
theorem split_basics {S : Sto} : wp (gSplit false (.str "plus minus times less same do dip if while repeat join wrap put part each") [.str " "] S) F E ↔ F (.lst (basics.map .str)) S := by
  have e : gSplit false (.str "plus minus times less same do dip if while repeat join wrap put part each") [.str " "] S = .ok (.lst (basics.map .str)) S := by
    unfold gSplit
    have sp : Txt.split (Str.ofString "plus minus times less same do dip if while repeat join wrap put part each") (Str.ofString " ") = basics := by
      rw [basics_eq, space_eq]
      exact split_join (by decide) basics_free
    simp only [sp]
    rw [if_pos ⟨by rw [space_eq]; decide, by rw [sizeLine_eq]; decide +kernel⟩]
    rfl
  rw [e]; exact Iff.rfl
section
variable {L : List Str} (hL : ∀ z ∈ L, WS z) (h0 : 1 ≤ L.length) (h8 : L.length ≤ 1000)
/-- what a drawn thing is -/
def ThOk (fu : Nat) (L : List Str) (deep J : Nat) : Prop := ∀ (R S : Sto) (l c N : Nat) (F : D → Sto → Prop) (E : Exc → Sto → Prop), 3 * deep + 4 ≤ N → LS R l c S → (∀ t S' c', ThG 6 (QL L) deep t → (tokT J t).length + 3 * c' ≤ 3 * c + 2 → LS R l c' S' → F t S') → wp (den fu N i_l_thing [.ref 1, .lst (L.map .str), .int deep, .ref l] S) F E
include hL h0 h8
theorem word_gen {deep J N : Nat} (hT : ThOk fu L deep J) (hN : 3 * deep + 5 ≤ N) (h : LS R l (c + 1) S) (hF : ∀ t S' c', WdG 6 (QL L) deep t → (tokW J t).length + 3 * c' ≤ 3 * (c + 1) → LS R l c' S' → F t S') : wp (den fu N i_l_word [.ref 1, .lst (L.map .str), .int deep, .ref l] S) F E := by
  obtain ⟨N', rfl⟩ : ∃ N', N = N' + 1 := ⟨N - 1, by omega⟩
  show wp (runDef false 6 (b_l_word fu (den fu N')) _ _) _ _
  obtain ⟨at1, up⟩ := h.get
  have d1 := up c
  have hcc : ((c + 1 : Nat) : Int) - 1 = (c : Int) := by omega
  have st : ∀ d {FU : Unit → Sto → Prop} {E : Exc → Sto → Prop}, wp (gSet (.ref l) (.int 0) d S) FU E ↔ FU () (S.set l (.lst [d])) := fun d {FU E} => gSet_ref (j := 0) at1 (by show ixN 1 0 = some 0; decide)
  simp only [b_l_word, split_basics, isTy, gIx_ref at1, wps_sub, st, hcc, wp_ok, wp_ret, wp_stuck, wp_bad, wp_bnd, wp_if, wp_fif, wps_ok_nx, wps_ok_rt, wps_ok_bk, wps_ok_ct, wps_ok_xc, wps_bad, wps_lft, wps_seq, wps_nil, wps_ret, wps_expr, wps_asg, wps_if, wp_run, wps_for, wps_while, wp_comp, wp_var, wp_C, wp_bin, wp_un, wp_T, wp_Tb, wp_asBl, wp_truthBl, wp_bAnd, wp_bOr, wp_bNot, wp_eIf, wp_eAnd, wp_eOr, wp_eNot, blCase_bl, wp_chain, wp_aNil, wp_aCons, wp_tup, wp_lst, wp_lstM, wp_call, wp_cl1, wp_cl2, wp_cl3, wp_cl4, wp_cl5, wp_meth, wp_isi, wp_oNone, wp_oSome, wp_sl, wp_it, wp_range1, wp_range2, wp_bYes, gEq_str, gNe_str, gEq_int, gNe_int, gEq_bl, gNe_bl, gIs_bl, gIsNot_bl, gAdd_int, gSub_int, gC_int, gI_int, gAdd_str, gAdd_tup, gAdd_lst, gNeg_int, gIx_tup, gIx_lst, gLen_tup, gLen_lst, gLen_str, gInt_int, gInt_bl, gTuple_lst, gTuple_tup, gList_lst, gList_tup, gSl_tup, gSl_lst, gSl_fl, gSl_str, srcL_tup, srcL_lst, srcL_fl, srcL_str, srcR1_int, typN, startR, List.map_cons, List.map_nil, List.length_cons, List.length_nil, Nat.reduceAdd, Nat.reduceSub, Nat.zero_add, Nat.sub_self, Nat.sub_zero, List.replicate_zero, List.replicate_succ, List.cons_append, List.nil_append, List.append_nil, List.getElem?_cons_zero, List.getElem?_cons_succ, List.set_cons_zero, List.set_cons_succ, List.set_nil, List.getElem?_nil, Option.some.injEq, exists_eq_left', exists_eq_left, exists_eq_right, reduceCtorEq, false_and, and_false, true_and, and_true, exists_false, exists_const, wipeR, Nat.zero_le, String.reduceEq, D.int.injEq, D.str.injEq, D.bl.injEq, atI_0, atI_1, atI_2, atI_3, atI_4, beq_self_eq_true, not_true_eq_false, not_false_eq_true, Int.cast_ofNat_Int, Int.reduceEq, Int.reduceLE, Int.reduceLT, Int.reduceAdd, Int.reduceSub, Int.reduceMul, Int.reduceNeg, if_true, if_false, ite_true, ite_false, Bool.false_eq_true, if_neg, if_pos, decide_eq_true_eq, Bool.not_eq_true', decide_eq_false_iff_not, eq_self_iff_true, decide_true, decide_false, Bool.not_true, Bool.not_false]
  refine ltake (by omega) d1 (by decide) (by decide) fun v S1 hv0 hv1 d2 => ?_
  have hl2 : S1.length = S.length := by rw [d2.len, h.len]
  by_cases h2 : v < 2
  · simp only [h2, wp_ok, wp_ret, wp_stuck, wp_bad, wp_bnd, wp_if, wp_fif, wps_ok_nx, wps_ok_rt, wps_ok_bk, wps_ok_ct, wps_ok_xc, wps_bad, wps_lft, wps_seq, wps_nil, wps_ret, wps_expr, wps_asg, wps_if, wp_run, wps_for, wps_while, wp_comp, wp_var, wp_C, wp_bin, wp_un, wp_T, wp_Tb, wp_asBl, wp_truthBl, wp_bAnd, wp_bOr, wp_bNot, wp_eIf, wp_eAnd, wp_eOr, wp_eNot, blCase_bl, wp_chain, wp_aNil, wp_aCons, wp_tup, wp_lst, wp_lstM, wp_call, wp_cl1, wp_cl2, wp_cl3, wp_cl4, wp_cl5, wp_meth, wp_isi, wp_oNone, wp_oSome, wp_sl, wp_it, wp_range1, wp_range2, wp_bYes, gEq_str, gNe_str, gEq_int, gNe_int, gEq_bl, gNe_bl, gIs_bl, gIsNot_bl, gAdd_int, gSub_int, gC_int, gI_int, gAdd_str, gAdd_tup, gAdd_lst, gNeg_int, gIx_tup, gIx_lst, gLen_tup, gLen_lst, gLen_str, gInt_int, gInt_bl, gTuple_lst, gTuple_tup, gList_lst, gList_tup, gSl_tup, gSl_lst, gSl_fl, gSl_str, srcL_tup, srcL_lst, srcL_fl, srcL_str, srcR1_int, typN, startR, List.map_cons, List.map_nil, List.length_cons, List.length_nil, Nat.reduceAdd, Nat.reduceSub, Nat.zero_add, Nat.sub_self, Nat.sub_zero, List.replicate_zero, List.replicate_succ, List.cons_append, List.nil_append, List.append_nil, List.getElem?_cons_zero, List.getElem?_cons_succ, List.set_cons_zero, List.set_cons_succ, List.set_nil, List.getElem?_nil, Option.some.injEq, exists_eq_left', exists_eq_left, exists_eq_right, reduceCtorEq, false_and, and_false, true_and, and_true, exists_false, exists_const, wipeR, Nat.zero_le, String.reduceEq, D.int.injEq, D.str.injEq, D.bl.injEq, atI_0, atI_1, atI_2, atI_3, atI_4, beq_self_eq_true, not_true_eq_false, not_false_eq_true, Int.cast_ofNat_Int, Int.reduceEq, Int.reduceLE, Int.reduceLT, Int.reduceAdd, Int.reduceSub, Int.reduceMul, Int.reduceNeg, if_true, if_false, ite_true, ite_false, Bool.false_eq_true, if_neg, if_pos, decide_eq_true_eq, Bool.not_eq_true', decide_eq_false_iff_not, eq_self_iff_true, decide_true, decide_false, Bool.not_true, Bool.not_false]
    refine ltake (by omega) d2 (by decide) (by decide) fun v2 S2 q0 q1 d3 => ?_
    refine pick (L := basics.map .str) q0 q1 (fun d => ∃ z ∈ basics, d = .str z) (fun d hd => ?_) fun d hd => ?_
    · obtain ⟨z, hz, rfl⟩ := List.mem_map.mp hd
      exact ⟨z, hz, rfl⟩
    · obtain ⟨z, hz, rfl⟩ := hd
      exact d3.fin_same (by rw [d3.len, h.len]) rfl (hF _ _ c (.inl ⟨z, rfl, ⟨basics_len z hz, .inl hz⟩, .inl hz⟩) (by show 1 + 3 * c ≤ _; omega) d3)
  · simp only [h2, wp_ok, wp_ret, wp_stuck, wp_bad, wp_bnd, wp_if, wp_fif, wps_ok_nx, wps_ok_rt, wps_ok_bk, wps_ok_ct, wps_ok_xc, wps_bad, wps_lft, wps_seq, wps_nil, wps_ret, wps_expr, wps_asg, wps_if, wp_run, wps_for, wps_while, wp_comp, wp_var, wp_C, wp_bin, wp_un, wp_T, wp_Tb, wp_asBl, wp_truthBl, wp_bAnd, wp_bOr, wp_bNot, wp_eIf, wp_eAnd, wp_eOr, wp_eNot, blCase_bl, wp_chain, wp_aNil, wp_aCons, wp_tup, wp_lst, wp_lstM, wp_call, wp_cl1, wp_cl2, wp_cl3, wp_cl4, wp_cl5, wp_meth, wp_isi, wp_oNone, wp_oSome, wp_sl, wp_it, wp_range1, wp_range2, wp_bYes, gEq_str, gNe_str, gEq_int, gNe_int, gEq_bl, gNe_bl, gIs_bl, gIsNot_bl, gAdd_int, gSub_int, gC_int, gI_int, gAdd_str, gAdd_tup, gAdd_lst, gNeg_int, gIx_tup, gIx_lst, gLen_tup, gLen_lst, gLen_str, gInt_int, gInt_bl, gTuple_lst, gTuple_tup, gList_lst, gList_tup, gSl_tup, gSl_lst, gSl_fl, gSl_str, srcL_tup, srcL_lst, srcL_fl, srcL_str, srcR1_int, typN, startR, List.map_cons, List.map_nil, List.length_cons, List.length_nil, Nat.reduceAdd, Nat.reduceSub, Nat.zero_add, Nat.sub_self, Nat.sub_zero, List.replicate_zero, List.replicate_succ, List.cons_append, List.nil_append, List.append_nil, List.getElem?_cons_zero, List.getElem?_cons_succ, List.set_cons_zero, List.set_cons_succ, List.set_nil, List.getElem?_nil, Option.some.injEq, exists_eq_left', exists_eq_left, exists_eq_right, reduceCtorEq, false_and, and_false, true_and, and_true, exists_false, exists_const, wipeR, Nat.zero_le, String.reduceEq, D.int.injEq, D.str.injEq, D.bl.injEq, atI_0, atI_1, atI_2, atI_3, atI_4, beq_self_eq_true, not_true_eq_false, not_false_eq_true, Int.cast_ofNat_Int, Int.reduceEq, Int.reduceLE, Int.reduceLT, Int.reduceAdd, Int.reduceSub, Int.reduceMul, Int.reduceNeg, if_true, if_false, ite_true, ite_false, Bool.false_eq_true, if_neg, if_pos, decide_eq_true_eq, Bool.not_eq_true', decide_eq_false_iff_not, eq_self_iff_true, decide_true, decide_false, Bool.not_true, Bool.not_false]
    by_cases h3 : v = 2
    · simp only [h3, wp_ok, wp_ret, wp_stuck, wp_bad, wp_bnd, wp_if, wp_fif, wps_ok_nx, wps_ok_rt, wps_ok_bk, wps_ok_ct, wps_ok_xc, wps_bad, wps_lft, wps_seq, wps_nil, wps_ret, wps_expr, wps_asg, wps_if, wp_run, wps_for, wps_while, wp_comp, wp_var, wp_C, wp_bin, wp_un, wp_T, wp_Tb, wp_asBl, wp_truthBl, wp_bAnd, wp_bOr, wp_bNot, wp_eIf, wp_eAnd, wp_eOr, wp_eNot, blCase_bl, wp_chain, wp_aNil, wp_aCons, wp_tup, wp_lst, wp_lstM, wp_call, wp_cl1, wp_cl2, wp_cl3, wp_cl4, wp_cl5, wp_meth, wp_isi, wp_oNone, wp_oSome, wp_sl, wp_it, wp_range1, wp_range2, wp_bYes, gEq_str, gNe_str, gEq_int, gNe_int, gEq_bl, gNe_bl, gIs_bl, gIsNot_bl, gAdd_int, gSub_int, gC_int, gI_int, gAdd_str, gAdd_tup, gAdd_lst, gNeg_int, gIx_tup, gIx_lst, gLen_tup, gLen_lst, gLen_str, gInt_int, gInt_bl, gTuple_lst, gTuple_tup, gList_lst, gList_tup, gSl_tup, gSl_lst, gSl_fl, gSl_str, srcL_tup, srcL_lst, srcL_fl, srcL_str, srcR1_int, typN, startR, List.map_cons, List.map_nil, List.length_cons, List.length_nil, Nat.reduceAdd, Nat.reduceSub, Nat.zero_add, Nat.sub_self, Nat.sub_zero, List.replicate_zero, List.replicate_succ, List.cons_append, List.nil_append, List.append_nil, List.getElem?_cons_zero, List.getElem?_cons_succ, List.set_cons_zero, List.set_cons_succ, List.set_nil, List.getElem?_nil, Option.some.injEq, exists_eq_left', exists_eq_left, exists_eq_right, reduceCtorEq, false_and, and_false, true_and, and_true, exists_false, exists_const, wipeR, Nat.zero_le, String.reduceEq, D.int.injEq, D.str.injEq, D.bl.injEq, atI_0, atI_1, atI_2, atI_3, atI_4, beq_self_eq_true, not_true_eq_false, not_false_eq_true, Int.cast_ofNat_Int, Int.reduceEq, Int.reduceLE, Int.reduceLT, Int.reduceAdd, Int.reduceSub, Int.reduceMul, Int.reduceNeg, if_true, if_false, ite_true, ite_false, Bool.false_eq_true, if_neg, if_pos, decide_eq_true_eq, Bool.not_eq_true', decide_eq_false_iff_not, eq_self_iff_true, decide_true, decide_false, Bool.not_true, Bool.not_false]
      obtain ⟨l2, ll, dd⟩ := d2
      refine shuffle_gen (by omega) dd fun z S3 hz hs d3 => ?_
      have d4 : LS R l c S3 := ⟨l2, ll, d3⟩
      exact d4.fin_same (by rw [d4.len, h.len]) rfl (hF _ _ c (.inl ⟨z, rfl, ⟨hz, .inr (.inr hs)⟩, .inr (.inl hs)⟩) (by show 1 + 3 * c ≤ _; omega) d4)
    · simp only [h3, wp_ok, wp_ret, wp_stuck, wp_bad, wp_bnd, wp_if, wp_fif, wps_ok_nx, wps_ok_rt, wps_ok_bk, wps_ok_ct, wps_ok_xc, wps_bad, wps_lft, wps_seq, wps_nil, wps_ret, wps_expr, wps_asg, wps_if, wp_run, wps_for, wps_while, wp_comp, wp_var, wp_C, wp_bin, wp_un, wp_T, wp_Tb, wp_asBl, wp_truthBl, wp_bAnd, wp_bOr, wp_bNot, wp_eIf, wp_eAnd, wp_eOr, wp_eNot, blCase_bl, wp_chain, wp_aNil, wp_aCons, wp_tup, wp_lst, wp_lstM, wp_call, wp_cl1, wp_cl2, wp_cl3, wp_cl4, wp_cl5, wp_meth, wp_isi, wp_oNone, wp_oSome, wp_sl, wp_it, wp_range1, wp_range2, wp_bYes, gEq_str, gNe_str, gEq_int, gNe_int, gEq_bl, gNe_bl, gIs_bl, gIsNot_bl, gAdd_int, gSub_int, gC_int, gI_int, gAdd_str, gAdd_tup, gAdd_lst, gNeg_int, gIx_tup, gIx_lst, gLen_tup, gLen_lst, gLen_str, gInt_int, gInt_bl, gTuple_lst, gTuple_tup, gList_lst, gList_tup, gSl_tup, gSl_lst, gSl_fl, gSl_str, srcL_tup, srcL_lst, srcL_fl, srcL_str, srcR1_int, typN, startR, List.map_cons, List.map_nil, List.length_cons, List.length_nil, Nat.reduceAdd, Nat.reduceSub, Nat.zero_add, Nat.sub_self, Nat.sub_zero, List.replicate_zero, List.replicate_succ, List.cons_append, List.nil_append, List.append_nil, List.getElem?_cons_zero, List.getElem?_cons_succ, List.set_cons_zero, List.set_cons_succ, List.set_nil, List.getElem?_nil, Option.some.injEq, exists_eq_left', exists_eq_left, exists_eq_right, reduceCtorEq, false_and, and_false, true_and, and_true, exists_false, exists_const, wipeR, Nat.zero_le, String.reduceEq, D.int.injEq, D.str.injEq, D.bl.injEq, atI_0, atI_1, atI_2, atI_3, atI_4, beq_self_eq_true, not_true_eq_false, not_false_eq_true, Int.cast_ofNat_Int, Int.reduceEq, Int.reduceLE, Int.reduceLT, Int.reduceAdd, Int.reduceSub, Int.reduceMul, Int.reduceNeg, if_true, if_false, ite_true, ite_false, Bool.false_eq_true, if_neg, if_pos, decide_eq_true_eq, Bool.not_eq_true', decide_eq_false_iff_not, eq_self_iff_true, decide_true, decide_false, Bool.not_true, Bool.not_false]
      by_cases h4 : v = 3
      · simp only [h4, List.length_map, wp_ok, wp_ret, wp_stuck, wp_bad, wp_bnd, wp_if, wp_fif, wps_ok_nx, wps_ok_rt, wps_ok_bk, wps_ok_ct, wps_ok_xc, wps_bad, wps_lft, wps_seq, wps_nil, wps_ret, wps_expr, wps_asg, wps_if, wp_run, wps_for, wps_while, wp_comp, wp_var, wp_C, wp_bin, wp_un, wp_T, wp_Tb, wp_asBl, wp_truthBl, wp_bAnd, wp_bOr, wp_bNot, wp_eIf, wp_eAnd, wp_eOr, wp_eNot, blCase_bl, wp_chain, wp_aNil, wp_aCons, wp_tup, wp_lst, wp_lstM, wp_call, wp_cl1, wp_cl2, wp_cl3, wp_cl4, wp_cl5, wp_meth, wp_isi, wp_oNone, wp_oSome, wp_sl, wp_it, wp_range1, wp_range2, wp_bYes, gEq_str, gNe_str, gEq_int, gNe_int, gEq_bl, gNe_bl, gIs_bl, gIsNot_bl, gAdd_int, gSub_int, gC_int, gI_int, gAdd_str, gAdd_tup, gAdd_lst, gNeg_int, gIx_tup, gIx_lst, gLen_tup, gLen_lst, gLen_str, gInt_int, gInt_bl, gTuple_lst, gTuple_tup, gList_lst, gList_tup, gSl_tup, gSl_lst, gSl_fl, gSl_str, srcL_tup, srcL_lst, srcL_fl, srcL_str, srcR1_int, typN, startR, List.map_cons, List.map_nil, List.length_cons, List.length_nil, Nat.reduceAdd, Nat.reduceSub, Nat.zero_add, Nat.sub_self, Nat.sub_zero, List.replicate_zero, List.replicate_succ, List.cons_append, List.nil_append, List.append_nil, List.getElem?_cons_zero, List.getElem?_cons_succ, List.set_cons_zero, List.set_cons_succ, List.set_nil, List.getElem?_nil, Option.some.injEq, exists_eq_left', exists_eq_left, exists_eq_right, reduceCtorEq, false_and, and_false, true_and, and_true, exists_false, exists_const, wipeR, Nat.zero_le, String.reduceEq, D.int.injEq, D.str.injEq, D.bl.injEq, atI_0, atI_1, atI_2, atI_3, atI_4, beq_self_eq_true, not_true_eq_false, not_false_eq_true, Int.cast_ofNat_Int, Int.reduceEq, Int.reduceLE, Int.reduceLT, Int.reduceAdd, Int.reduceSub, Int.reduceMul, Int.reduceNeg, if_true, if_false, ite_true, ite_false, Bool.false_eq_true, if_neg, if_pos, decide_eq_true_eq, Bool.not_eq_true', decide_eq_false_iff_not, eq_self_iff_true, decide_true, decide_false, Bool.not_true, Bool.not_false]
        refine ltake (by omega) d2 (by omega) (by omega) fun v2 S2 q0 q1 d3 => ?_
        refine pick (L := L.map .str) q0 (by simpa using q1) (fun d => ∃ z ∈ L, d = .str z) (fun d hd => ?_) fun d hd => ?_
        · obtain ⟨z, hz, rfl⟩ := List.mem_map.mp hd
          exact ⟨z, hz, rfl⟩
        · obtain ⟨z, hz, rfl⟩ := hd
          exact d3.fin_same (by rw [d3.len, h.len]) rfl (hF _ _ c (.inl ⟨z, rfl, hL z hz, .inr (.inr hz)⟩) (by show 1 + 3 * c ≤ _; omega) d3)
      · simp only [h4, wp_ok, wp_ret, wp_stuck, wp_bad, wp_bnd, wp_if, wp_fif, wps_ok_nx, wps_ok_rt, wps_ok_bk, wps_ok_ct, wps_ok_xc, wps_bad, wps_lft, wps_seq, wps_nil, wps_ret, wps_expr, wps_asg, wps_if, wp_run, wps_for, wps_while, wp_comp, wp_var, wp_C, wp_bin, wp_un, wp_T, wp_Tb, wp_asBl, wp_truthBl, wp_bAnd, wp_bOr, wp_bNot, wp_eIf, wp_eAnd, wp_eOr, wp_eNot, blCase_bl, wp_chain, wp_aNil, wp_aCons, wp_tup, wp_lst, wp_lstM, wp_call, wp_cl1, wp_cl2, wp_cl3, wp_cl4, wp_cl5, wp_meth, wp_isi, wp_oNone, wp_oSome, wp_sl, wp_it, wp_range1, wp_range2, wp_bYes, gEq_str, gNe_str, gEq_int, gNe_int, gEq_bl, gNe_bl, gIs_bl, gIsNot_bl, gAdd_int, gSub_int, gC_int, gI_int, gAdd_str, gAdd_tup, gAdd_lst, gNeg_int, gIx_tup, gIx_lst, gLen_tup, gLen_lst, gLen_str, gInt_int, gInt_bl, gTuple_lst, gTuple_tup, gList_lst, gList_tup, gSl_tup, gSl_lst, gSl_fl, gSl_str, srcL_tup, srcL_lst, srcL_fl, srcL_str, srcR1_int, typN, startR, List.map_cons, List.map_nil, List.length_cons, List.length_nil, Nat.reduceAdd, Nat.reduceSub, Nat.zero_add, Nat.sub_self, Nat.sub_zero, List.replicate_zero, List.replicate_succ, List.cons_append, List.nil_append, List.append_nil, List.getElem?_cons_zero, List.getElem?_cons_succ, List.set_cons_zero, List.set_cons_succ, List.set_nil, List.getElem?_nil, Option.some.injEq, exists_eq_left', exists_eq_left, exists_eq_right, reduceCtorEq, false_and, and_false, true_and, and_true, exists_false, exists_const, wipeR, Nat.zero_le, String.reduceEq, D.int.injEq, D.str.injEq, D.bl.injEq, atI_0, atI_1, atI_2, atI_3, atI_4, beq_self_eq_true, not_true_eq_false, not_false_eq_true, Int.cast_ofNat_Int, Int.reduceEq, Int.reduceLE, Int.reduceLT, Int.reduceAdd, Int.reduceSub, Int.reduceMul, Int.reduceNeg, if_true, if_false, ite_true, ite_false, Bool.false_eq_true, if_neg, if_pos, decide_eq_true_eq, Bool.not_eq_true', decide_eq_false_iff_not, eq_self_iff_true, decide_true, decide_false, Bool.not_true, Bool.not_false]
        refine hT R S1 l c N' _ _ (by omega) d2 fun t S2 c2 ht hc2 d3 => ?_
        exact ⟨small_line (by decide), d3.fin_same (by rw [d3.len, h.len]) (tr_push ht.tr) (hF _ _ c2 (.inr ⟨t, rfl, ht⟩) (by show (tokT J t).length + 3 * c2 ≤ _; omega) d3)⟩
theorem row_gen {deep J N : Nat} (hT : ThOk fu L deep J) (hN : 3 * deep + 6 ≤ N) (h : LS R l c S) (hF : ∀ ws S' c', ws.length ≤ 6 → (∀ w ∈ ws, WdG 6 (QL L) deep w) → (ws.flatMap (tokW J)).length + 3 * c' ≤ 3 * c → LS R l c' S' → F (.tup ws) S') : wp (den fu N i_l_row [.ref 1, .lst (L.map .str), .int deep, .ref l] S) F E := by
  obtain ⟨N', rfl⟩ : ∃ N', N = N' + 1 := ⟨N - 1, by omega⟩
  show wp (runDef false 6 (b_l_row fu (den fu N')) _ _) _ _
  have hSl : S.length = R.length := h.len
  have ll := h.ll
  have l2 := h.l2
  simp only [b_l_row, hSl, wp_ok, wp_ret, wp_stuck, wp_bad, wp_bnd, wp_if, wp_fif, wps_ok_nx, wps_ok_rt, wps_ok_bk, wps_ok_ct, wps_ok_xc, wps_bad, wps_lft, wps_seq, wps_nil, wps_ret, wps_expr, wps_asg, wps_if, wp_run, wps_for, wps_while, wp_comp, wp_var, wp_C, wp_bin, wp_un, wp_T, wp_Tb, wp_asBl, wp_truthBl, wp_bAnd, wp_bOr, wp_bNot, wp_eIf, wp_eAnd, wp_eOr, wp_eNot, blCase_bl, wp_chain, wp_aNil, wp_aCons, wp_tup, wp_lst, wp_lstM, wp_call, wp_cl1, wp_cl2, wp_cl3, wp_cl4, wp_cl5, wp_meth, wp_isi, wp_oNone, wp_oSome, wp_sl, wp_it, wp_range1, wp_range2, wp_bYes, gEq_str, gNe_str, gEq_int, gNe_int, gEq_bl, gNe_bl, gIs_bl, gIsNot_bl, gAdd_int, gSub_int, gC_int, gI_int, gAdd_str, gAdd_tup, gAdd_lst, gNeg_int, gIx_tup, gIx_lst, gLen_tup, gLen_lst, gLen_str, gInt_int, gInt_bl, gTuple_lst, gTuple_tup, gList_lst, gList_tup, gSl_tup, gSl_lst, gSl_fl, gSl_str, srcL_tup, srcL_lst, srcL_fl, srcL_str, srcR1_int, typN, startR, List.map_cons, List.map_nil, List.length_cons, List.length_nil, Nat.reduceAdd, Nat.reduceSub, Nat.zero_add, Nat.sub_self, Nat.sub_zero, List.replicate_zero, List.replicate_succ, List.cons_append, List.nil_append, List.append_nil, List.getElem?_cons_zero, List.getElem?_cons_succ, List.set_cons_zero, List.set_cons_succ, List.set_nil, List.getElem?_nil, Option.some.injEq, exists_eq_left', exists_eq_left, exists_eq_right, reduceCtorEq, false_and, and_false, true_and, and_true, exists_false, exists_const, wipeR, Nat.zero_le, String.reduceEq, D.int.injEq, D.str.injEq, D.bl.injEq, atI_0, atI_1, atI_2, atI_3, atI_4, beq_self_eq_true, not_true_eq_false, not_false_eq_true, Int.cast_ofNat_Int, Int.reduceEq, Int.reduceLE, Int.reduceLT, Int.reduceAdd, Int.reduceSub, Int.reduceMul, Int.reduceNeg, if_true, if_false, ite_true, ite_false, Bool.false_eq_true, if_neg, if_pos, decide_eq_true_eq, Bool.not_eq_true', decide_eq_false_iff_not, eq_self_iff_true, decide_true, decide_false, Bool.not_true, Bool.not_false]
  have d0 : LS (R ++ [.lst []]) l c (S ++ [.lst []]) := h.push rfl
  refine ⟨small_line (by decide), ltake (by omega) d0 (by decide) (by decide) fun v S1 hv0 hv1 d1 => ?_⟩
  simp only [wp_ok, wp_ret, wp_stuck, wp_bad, wp_bnd, wp_if, wp_fif, wps_ok_nx, wps_ok_rt, wps_ok_bk, wps_ok_ct, wps_ok_xc, wps_bad, wps_lft, wps_seq, wps_nil, wps_ret, wps_expr, wps_asg, wps_if, wp_run, wps_for, wps_while, wp_comp, wp_var, wp_C, wp_bin, wp_un, wp_T, wp_Tb, wp_asBl, wp_truthBl, wp_bAnd, wp_bOr, wp_bNot, wp_eIf, wp_eAnd, wp_eOr, wp_eNot, blCase_bl, wp_chain, wp_aNil, wp_aCons, wp_tup, wp_lst, wp_lstM, wp_call, wp_cl1, wp_cl2, wp_cl3, wp_cl4, wp_cl5, wp_meth, wp_isi, wp_oNone, wp_oSome, wp_sl, wp_it, wp_range1, wp_range2, wp_bYes, gEq_str, gNe_str, gEq_int, gNe_int, gEq_bl, gNe_bl, gIs_bl, gIsNot_bl, gAdd_int, gSub_int, gC_int, gI_int, gAdd_str, gAdd_tup, gAdd_lst, gNeg_int, gIx_tup, gIx_lst, gLen_tup, gLen_lst, gLen_str, gInt_int, gInt_bl, gTuple_lst, gTuple_tup, gList_lst, gList_tup, gSl_tup, gSl_lst, gSl_fl, gSl_str, srcL_tup, srcL_lst, srcL_fl, srcL_str, srcR1_int, typN, startR, List.map_cons, List.map_nil, List.length_cons, List.length_nil, Nat.reduceAdd, Nat.reduceSub, Nat.zero_add, Nat.sub_self, Nat.sub_zero, List.replicate_zero, List.replicate_succ, List.cons_append, List.nil_append, List.append_nil, List.getElem?_cons_zero, List.getElem?_cons_succ, List.set_cons_zero, List.set_cons_succ, List.set_nil, List.getElem?_nil, Option.some.injEq, exists_eq_left', exists_eq_left, exists_eq_right, reduceCtorEq, false_and, and_false, true_and, and_true, exists_false, exists_const, wipeR, Nat.zero_le, String.reduceEq, D.int.injEq, D.str.injEq, D.bl.injEq, atI_0, atI_1, atI_2, atI_3, atI_4, beq_self_eq_true, not_true_eq_false, not_false_eq_true, Int.cast_ofNat_Int, Int.reduceEq, Int.reduceLE, Int.reduceLT, Int.reduceAdd, Int.reduceSub, Int.reduceMul, Int.reduceNeg, if_true, if_false, ite_true, ite_false, Bool.false_eq_true, if_neg, if_pos, decide_eq_true_eq, Bool.not_eq_true', decide_eq_false_iff_not, eq_self_iff_true, decide_true, decide_false, Bool.not_true, Bool.not_false]
  have pk : ∃ d, atI [D.int 4, D.int 7] (if v = 7 then (1 : Int) else 0) = some d ∧ ∃ i : Int, d = .int i ∧ 0 < i ∧ i ≤ 7 := by
    by_cases hv : v = 7
    · rw [if_pos hv]; exact ⟨_, atI_1, 7, rfl, by decide, by decide⟩
    · rw [if_neg hv]; exact ⟨_, atI_0, 4, rfl, by decide, by decide⟩
  obtain ⟨d, ed, i, rfl, i0, i7⟩ := pk
  refine ⟨_, ed, ltake (by omega) d1 i0 (by omega) fun v2 S2 q0 q1 d2 => ?_⟩
  rw [srcR1_int]
  refine ⟨by simp [bnd62]; omega, ?_⟩
  have hat : ∀ {ws : List D} {S' : Sto} {c' : Nat}, LS (R ++ [.lst ws]) l c' S' → atL S' R.length = some ws := fun hd => atL_of (hd.last ll)
  refine wps_forM (fun j ρ S' => j ≤ v2.toNat → ∃ (ws : List D) (o : Option D), ρ = [some (.ref 1), some (.lst (L.map .str)), some (.int deep), some (.ref l), some (.ref R.length), o] ∧ ws.length ≤ j ∧ (∀ w ∈ ws, WdG 6 (QL L) deep w) ∧ ∃ c', (ws.flatMap (tokW J)).length + 3 * c' ≤ 3 * c ∧ LS (R ++ [.lst ws]) l c' S') (fun _ _ _ _ => trivial) ?_ ?_ (fun _ => ⟨[], none, rfl, Nat.le_refl _, fun _ h => (List.not_mem_nil h).elim, c, by simp, d2⟩)
  · intro j d ρ S' hd hI
    have hlt := (List.getElem?_eq_some_iff.mp hd).1
    rw [rangeD_len] at hlt
    obtain ⟨ws, o, rfl, hl, hw, c1, hc1, hd2⟩ := hI (by omega)
    refine ⟨_, rfl, ?_⟩
    obtain ⟨at1, up⟩ := hd2.get
    simp only [gIx_ref at1, wp_ok, wp_ret, wp_stuck, wp_bad, wp_bnd, wp_if, wp_fif, wps_ok_nx, wps_ok_rt, wps_ok_bk, wps_ok_ct, wps_ok_xc, wps_bad, wps_lft, wps_seq, wps_nil, wps_ret, wps_expr, wps_asg, wps_if, wp_run, wps_for, wps_while, wp_comp, wp_var, wp_C, wp_bin, wp_un, wp_T, wp_Tb, wp_asBl, wp_truthBl, wp_bAnd, wp_bOr, wp_bNot, wp_eIf, wp_eAnd, wp_eOr, wp_eNot, blCase_bl, wp_chain, wp_aNil, wp_aCons, wp_tup, wp_lst, wp_lstM, wp_call, wp_cl1, wp_cl2, wp_cl3, wp_cl4, wp_cl5, wp_meth, wp_isi, wp_oNone, wp_oSome, wp_sl, wp_it, wp_range1, wp_range2, wp_bYes, gEq_str, gNe_str, gEq_int, gNe_int, gEq_bl, gNe_bl, gIs_bl, gIsNot_bl, gAdd_int, gSub_int, gC_int, gI_int, gAdd_str, gAdd_tup, gAdd_lst, gNeg_int, gIx_tup, gIx_lst, gLen_tup, gLen_lst, gLen_str, gInt_int, gInt_bl, gTuple_lst, gTuple_tup, gList_lst, gList_tup, gSl_tup, gSl_lst, gSl_fl, gSl_str, srcL_tup, srcL_lst, srcL_fl, srcL_str, srcR1_int, typN, startR, List.map_cons, List.map_nil, List.length_cons, List.length_nil, Nat.reduceAdd, Nat.reduceSub, Nat.zero_add, Nat.sub_self, Nat.sub_zero, List.replicate_zero, List.replicate_succ, List.cons_append, List.nil_append, List.append_nil, List.getElem?_cons_zero, List.getElem?_cons_succ, List.set_cons_zero, List.set_cons_succ, List.set_nil, List.getElem?_nil, Option.some.injEq, exists_eq_left', exists_eq_left, exists_eq_right, reduceCtorEq, false_and, and_false, true_and, and_true, exists_false, exists_const, wipeR, Nat.zero_le, String.reduceEq, D.int.injEq, D.str.injEq, D.bl.injEq, atI_0, atI_1, atI_2, atI_3, atI_4, beq_self_eq_true, not_true_eq_false, not_false_eq_true, Int.cast_ofNat_Int, Int.reduceEq, Int.reduceLE, Int.reduceLT, Int.reduceAdd, Int.reduceSub, Int.reduceMul, Int.reduceNeg, if_true, if_false, ite_true, ite_false, Bool.false_eq_true, if_neg, if_pos, decide_eq_true_eq, Bool.not_eq_true', decide_eq_false_iff_not, eq_self_iff_true, decide_true, decide_false, Bool.not_true, Bool.not_false]
    by_cases hn : (0 : Int) < (c1 : Int)
    · obtain ⟨c2, rfl⟩ : ∃ c2, c1 = c2 + 1 := ⟨c1 - 1, by omega⟩
      simp only [hn, isTy_ref (hat hd2), wp_ok, wp_ret, wp_stuck, wp_bad, wp_bnd, wp_if, wp_fif, wps_ok_nx, wps_ok_rt, wps_ok_bk, wps_ok_ct, wps_ok_xc, wps_bad, wps_lft, wps_seq, wps_nil, wps_ret, wps_expr, wps_asg, wps_if, wp_run, wps_for, wps_while, wp_comp, wp_var, wp_C, wp_bin, wp_un, wp_T, wp_Tb, wp_asBl, wp_truthBl, wp_bAnd, wp_bOr, wp_bNot, wp_eIf, wp_eAnd, wp_eOr, wp_eNot, blCase_bl, wp_chain, wp_aNil, wp_aCons, wp_tup, wp_lst, wp_lstM, wp_call, wp_cl1, wp_cl2, wp_cl3, wp_cl4, wp_cl5, wp_meth, wp_isi, wp_oNone, wp_oSome, wp_sl, wp_it, wp_range1, wp_range2, wp_bYes, gEq_str, gNe_str, gEq_int, gNe_int, gEq_bl, gNe_bl, gIs_bl, gIsNot_bl, gAdd_int, gSub_int, gC_int, gI_int, gAdd_str, gAdd_tup, gAdd_lst, gNeg_int, gIx_tup, gIx_lst, gLen_tup, gLen_lst, gLen_str, gInt_int, gInt_bl, gTuple_lst, gTuple_tup, gList_lst, gList_tup, gSl_tup, gSl_lst, gSl_fl, gSl_str, srcL_tup, srcL_lst, srcL_fl, srcL_str, srcR1_int, typN, startR, List.map_cons, List.map_nil, List.length_cons, List.length_nil, Nat.reduceAdd, Nat.reduceSub, Nat.zero_add, Nat.sub_self, Nat.sub_zero, List.replicate_zero, List.replicate_succ, List.cons_append, List.nil_append, List.append_nil, List.getElem?_cons_zero, List.getElem?_cons_succ, List.set_cons_zero, List.set_cons_succ, List.set_nil, List.getElem?_nil, Option.some.injEq, exists_eq_left', exists_eq_left, exists_eq_right, reduceCtorEq, false_and, and_false, true_and, and_true, exists_false, exists_const, wipeR, Nat.zero_le, String.reduceEq, D.int.injEq, D.str.injEq, D.bl.injEq, atI_0, atI_1, atI_2, atI_3, atI_4, beq_self_eq_true, not_true_eq_false, not_false_eq_true, Int.cast_ofNat_Int, Int.reduceEq, Int.reduceLE, Int.reduceLT, Int.reduceAdd, Int.reduceSub, Int.reduceMul, Int.reduceNeg, if_true, if_false, ite_true, ite_false, Bool.false_eq_true, if_neg, if_pos, decide_eq_true_eq, Bool.not_eq_true', decide_eq_false_iff_not, eq_self_iff_true, decide_true, decide_false, Bool.not_true, Bool.not_false]
      refine word_gen hL h0 h8 hT (by omega) hd2 fun w S3 c3 hww hc3 hd3 => ?_
      have hd4 := hd3.put ll (m' := .lst (ws ++ [w])) (trs fun x hx => by
        rw [List.mem_append, List.mem_singleton] at hx
        rcases hx with hx | rfl
        · exact (hw x hx).tr
        · exact hww.tr)
      rw [gAppend_ref (hat hd3)]
      refine ⟨by rw [sizeLine_eq]; omega, fun _ => ⟨ws ++ [w], some d, rfl, by simp; omega, fun x hx => ?_, c3, by simp only [List.flatMap_append, List.flatMap_cons, List.flatMap_nil, List.append_nil, List.length_append]; omega, hd4⟩⟩
      rw [List.mem_append, List.mem_singleton] at hx
      rcases hx with hx | rfl
      · exact hw x hx
      · exact hww
    · rw [if_neg hn]
      exact fun _ => ⟨ws, some d, rfl, by omega, hw, c1, hc1, hd2⟩
  · intro ρ S' hI
    rw [rangeD_len] at hI
    obtain ⟨ws, o, rfl, hl, hw, c1, hc1, hd2⟩ := hI (Nat.le_refl _)
    simp only [wp_ok, wp_ret, wp_stuck, wp_bad, wp_bnd, wp_if, wp_fif, wps_ok_nx, wps_ok_rt, wps_ok_bk, wps_ok_ct, wps_ok_xc, wps_bad, wps_lft, wps_seq, wps_nil, wps_ret, wps_expr, wps_asg, wps_if, wp_run, wps_for, wps_while, wp_comp, wp_var, wp_C, wp_bin, wp_un, wp_T, wp_Tb, wp_asBl, wp_truthBl, wp_bAnd, wp_bOr, wp_bNot, wp_eIf, wp_eAnd, wp_eOr, wp_eNot, blCase_bl, wp_chain, wp_aNil, wp_aCons, wp_tup, wp_lst, wp_lstM, wp_call, wp_cl1, wp_cl2, wp_cl3, wp_cl4, wp_cl5, wp_meth, wp_isi, wp_oNone, wp_oSome, wp_sl, wp_it, wp_range1, wp_range2, wp_bYes, gEq_str, gNe_str, gEq_int, gNe_int, gEq_bl, gNe_bl, gIs_bl, gIsNot_bl, gAdd_int, gSub_int, gC_int, gI_int, gAdd_str, gAdd_tup, gAdd_lst, gNeg_int, gIx_tup, gIx_lst, gLen_tup, gLen_lst, gLen_str, gInt_int, gInt_bl, gTuple_lst, gTuple_tup, gList_lst, gList_tup, gSl_tup, gSl_lst, gSl_fl, gSl_str, srcL_tup, srcL_lst, srcL_fl, srcL_str, srcR1_int, typN, startR, List.map_cons, List.map_nil, List.length_cons, List.length_nil, Nat.reduceAdd, Nat.reduceSub, Nat.zero_add, Nat.sub_self, Nat.sub_zero, List.replicate_zero, List.replicate_succ, List.cons_append, List.nil_append, List.append_nil, List.getElem?_cons_zero, List.getElem?_cons_succ, List.set_cons_zero, List.set_cons_succ, List.set_nil, List.getElem?_nil, Option.some.injEq, exists_eq_left', exists_eq_left, exists_eq_right, reduceCtorEq, false_and, and_false, true_and, and_true, exists_false, exists_const, wipeR, Nat.zero_le, String.reduceEq, D.int.injEq, D.str.injEq, D.bl.injEq, atI_0, atI_1, atI_2, atI_3, atI_4, beq_self_eq_true, not_true_eq_false, not_false_eq_true, Int.cast_ofNat_Int, Int.reduceEq, Int.reduceLE, Int.reduceLT, Int.reduceAdd, Int.reduceSub, Int.reduceMul, Int.reduceNeg, if_true, if_false, ite_true, ite_false, Bool.false_eq_true, if_neg, if_pos, decide_eq_true_eq, Bool.not_eq_true', decide_eq_false_iff_not, eq_self_iff_true, decide_true, decide_false, Bool.not_true, Bool.not_false]
    rw [gTuple_seq (show iLst S' (.ref R.length) = some ws from hat hd2)]
    have hc := hd2.cut ll
    exact hd2.at_.fin (S1 := R) (by omega) (tr_tup fun x hx => (hw x hx).tr) (hF ws _ c1 (by omega) hw hc1 hc)
theorem stack_gen {deep J N : Nat} (hT : ThOk fu L deep J) (hN : 3 * deep + 5 ≤ N) (h : LS R l c S) (hF : ∀ ws S' c', ws.length ≤ 6 → (∀ w ∈ ws, ThG 6 (QL L) deep w) → (ws.flatMap (tokT J)).length + 3 * c' ≤ 3 * c → LS R l c' S' → F (.tup ws) S') : wp (den fu N i_l_stack [.ref 1, .lst (L.map .str), .int deep, .ref l] S) F E := by
  obtain ⟨N', rfl⟩ : ∃ N', N = N' + 1 := ⟨N - 1, by omega⟩
  show wp (runDef false 6 (b_l_stack fu (den fu N')) _ _) _ _
  have hSl : S.length = R.length := h.len
  have ll := h.ll
  have l2 := h.l2
  simp only [b_l_stack, hSl, wp_ok, wp_ret, wp_stuck, wp_bad, wp_bnd, wp_if, wp_fif, wps_ok_nx, wps_ok_rt, wps_ok_bk, wps_ok_ct, wps_ok_xc, wps_bad, wps_lft, wps_seq, wps_nil, wps_ret, wps_expr, wps_asg, wps_if, wp_run, wps_for, wps_while, wp_comp, wp_var, wp_C, wp_bin, wp_un, wp_T, wp_Tb, wp_asBl, wp_truthBl, wp_bAnd, wp_bOr, wp_bNot, wp_eIf, wp_eAnd, wp_eOr, wp_eNot, blCase_bl, wp_chain, wp_aNil, wp_aCons, wp_tup, wp_lst, wp_lstM, wp_call, wp_cl1, wp_cl2, wp_cl3, wp_cl4, wp_cl5, wp_meth, wp_isi, wp_oNone, wp_oSome, wp_sl, wp_it, wp_range1, wp_range2, wp_bYes, gEq_str, gNe_str, gEq_int, gNe_int, gEq_bl, gNe_bl, gIs_bl, gIsNot_bl, gAdd_int, gSub_int, gC_int, gI_int, gAdd_str, gAdd_tup, gAdd_lst, gNeg_int, gIx_tup, gIx_lst, gLen_tup, gLen_lst, gLen_str, gInt_int, gInt_bl, gTuple_lst, gTuple_tup, gList_lst, gList_tup, gSl_tup, gSl_lst, gSl_fl, gSl_str, srcL_tup, srcL_lst, srcL_fl, srcL_str, srcR1_int, typN, startR, List.map_cons, List.map_nil, List.length_cons, List.length_nil, Nat.reduceAdd, Nat.reduceSub, Nat.zero_add, Nat.sub_self, Nat.sub_zero, List.replicate_zero, List.replicate_succ, List.cons_append, List.nil_append, List.append_nil, List.getElem?_cons_zero, List.getElem?_cons_succ, List.set_cons_zero, List.set_cons_succ, List.set_nil, List.getElem?_nil, Option.some.injEq, exists_eq_left', exists_eq_left, exists_eq_right, reduceCtorEq, false_and, and_false, true_and, and_true, exists_false, exists_const, wipeR, Nat.zero_le, String.reduceEq, D.int.injEq, D.str.injEq, D.bl.injEq, atI_0, atI_1, atI_2, atI_3, atI_4, beq_self_eq_true, not_true_eq_false, not_false_eq_true, Int.cast_ofNat_Int, Int.reduceEq, Int.reduceLE, Int.reduceLT, Int.reduceAdd, Int.reduceSub, Int.reduceMul, Int.reduceNeg, if_true, if_false, ite_true, ite_false, Bool.false_eq_true, if_neg, if_pos, decide_eq_true_eq, Bool.not_eq_true', decide_eq_false_iff_not, eq_self_iff_true, decide_true, decide_false, Bool.not_true, Bool.not_false]
  have d0 : LS (R ++ [.lst []]) l c (S ++ [.lst []]) := h.push rfl
  refine ⟨small_line (by decide), ltake (by omega) d0 (by decide) (by decide) fun v S1 hv0 hv1 d1 => ?_⟩
  simp only [wp_ok, wp_ret, wp_stuck, wp_bad, wp_bnd, wp_if, wp_fif, wps_ok_nx, wps_ok_rt, wps_ok_bk, wps_ok_ct, wps_ok_xc, wps_bad, wps_lft, wps_seq, wps_nil, wps_ret, wps_expr, wps_asg, wps_if, wp_run, wps_for, wps_while, wp_comp, wp_var, wp_C, wp_bin, wp_un, wp_T, wp_Tb, wp_asBl, wp_truthBl, wp_bAnd, wp_bOr, wp_bNot, wp_eIf, wp_eAnd, wp_eOr, wp_eNot, blCase_bl, wp_chain, wp_aNil, wp_aCons, wp_tup, wp_lst, wp_lstM, wp_call, wp_cl1, wp_cl2, wp_cl3, wp_cl4, wp_cl5, wp_meth, wp_isi, wp_oNone, wp_oSome, wp_sl, wp_it, wp_range1, wp_range2, wp_bYes, gEq_str, gNe_str, gEq_int, gNe_int, gEq_bl, gNe_bl, gIs_bl, gIsNot_bl, gAdd_int, gSub_int, gC_int, gI_int, gAdd_str, gAdd_tup, gAdd_lst, gNeg_int, gIx_tup, gIx_lst, gLen_tup, gLen_lst, gLen_str, gInt_int, gInt_bl, gTuple_lst, gTuple_tup, gList_lst, gList_tup, gSl_tup, gSl_lst, gSl_fl, gSl_str, srcL_tup, srcL_lst, srcL_fl, srcL_str, srcR1_int, typN, startR, List.map_cons, List.map_nil, List.length_cons, List.length_nil, Nat.reduceAdd, Nat.reduceSub, Nat.zero_add, Nat.sub_self, Nat.sub_zero, List.replicate_zero, List.replicate_succ, List.cons_append, List.nil_append, List.append_nil, List.getElem?_cons_zero, List.getElem?_cons_succ, List.set_cons_zero, List.set_cons_succ, List.set_nil, List.getElem?_nil, Option.some.injEq, exists_eq_left', exists_eq_left, exists_eq_right, reduceCtorEq, false_and, and_false, true_and, and_true, exists_false, exists_const, wipeR, Nat.zero_le, String.reduceEq, D.int.injEq, D.str.injEq, D.bl.injEq, atI_0, atI_1, atI_2, atI_3, atI_4, beq_self_eq_true, not_true_eq_false, not_false_eq_true, Int.cast_ofNat_Int, Int.reduceEq, Int.reduceLE, Int.reduceLT, Int.reduceAdd, Int.reduceSub, Int.reduceMul, Int.reduceNeg, if_true, if_false, ite_true, ite_false, Bool.false_eq_true, if_neg, if_pos, decide_eq_true_eq, Bool.not_eq_true', decide_eq_false_iff_not, eq_self_iff_true, decide_true, decide_false, Bool.not_true, Bool.not_false]
  have pk : ∃ d, atI [D.int 4, D.int 7] (if v = 7 then (1 : Int) else 0) = some d ∧ ∃ i : Int, d = .int i ∧ 0 < i ∧ i ≤ 7 := by
    by_cases hv : v = 7
    · rw [if_pos hv]; exact ⟨_, atI_1, 7, rfl, by decide, by decide⟩
    · rw [if_neg hv]; exact ⟨_, atI_0, 4, rfl, by decide, by decide⟩
  obtain ⟨d, ed, i, rfl, i0, i7⟩ := pk
  refine ⟨_, ed, ltake (by omega) d1 i0 (by omega) fun v2 S2 q0 q1 d2 => ?_⟩
  rw [srcR1_int]
  refine ⟨by simp [bnd62]; omega, ?_⟩
  have hat : ∀ {ws : List D} {S' : Sto} {c' : Nat}, LS (R ++ [.lst ws]) l c' S' → atL S' R.length = some ws := fun hd => atL_of (hd.last ll)
  refine wps_forM (fun j ρ S' => j ≤ v2.toNat → ∃ (ws : List D) (o : Option D), ρ = [some (.ref 1), some (.lst (L.map .str)), some (.int deep), some (.ref l), some (.ref R.length), o] ∧ ws.length ≤ j ∧ (∀ w ∈ ws, ThG 6 (QL L) deep w) ∧ ∃ c', (ws.flatMap (tokT J)).length + 3 * c' ≤ 3 * c ∧ LS (R ++ [.lst ws]) l c' S') (fun _ _ _ _ => trivial) ?_ ?_ (fun _ => ⟨[], none, rfl, Nat.le_refl _, fun _ h => (List.not_mem_nil h).elim, c, by simp, d2⟩)
  · intro j d ρ S' hd hI
    have hlt := (List.getElem?_eq_some_iff.mp hd).1
    rw [rangeD_len] at hlt
    obtain ⟨ws, o, rfl, hl, hw, c1, hc1, hd2⟩ := hI (by omega)
    refine ⟨_, rfl, ?_⟩
    obtain ⟨at1, up⟩ := hd2.get
    simp only [gIx_ref at1, wp_ok, wp_ret, wp_stuck, wp_bad, wp_bnd, wp_if, wp_fif, wps_ok_nx, wps_ok_rt, wps_ok_bk, wps_ok_ct, wps_ok_xc, wps_bad, wps_lft, wps_seq, wps_nil, wps_ret, wps_expr, wps_asg, wps_if, wp_run, wps_for, wps_while, wp_comp, wp_var, wp_C, wp_bin, wp_un, wp_T, wp_Tb, wp_asBl, wp_truthBl, wp_bAnd, wp_bOr, wp_bNot, wp_eIf, wp_eAnd, wp_eOr, wp_eNot, blCase_bl, wp_chain, wp_aNil, wp_aCons, wp_tup, wp_lst, wp_lstM, wp_call, wp_cl1, wp_cl2, wp_cl3, wp_cl4, wp_cl5, wp_meth, wp_isi, wp_oNone, wp_oSome, wp_sl, wp_it, wp_range1, wp_range2, wp_bYes, gEq_str, gNe_str, gEq_int, gNe_int, gEq_bl, gNe_bl, gIs_bl, gIsNot_bl, gAdd_int, gSub_int, gC_int, gI_int, gAdd_str, gAdd_tup, gAdd_lst, gNeg_int, gIx_tup, gIx_lst, gLen_tup, gLen_lst, gLen_str, gInt_int, gInt_bl, gTuple_lst, gTuple_tup, gList_lst, gList_tup, gSl_tup, gSl_lst, gSl_fl, gSl_str, srcL_tup, srcL_lst, srcL_fl, srcL_str, srcR1_int, typN, startR, List.map_cons, List.map_nil, List.length_cons, List.length_nil, Nat.reduceAdd, Nat.reduceSub, Nat.zero_add, Nat.sub_self, Nat.sub_zero, List.replicate_zero, List.replicate_succ, List.cons_append, List.nil_append, List.append_nil, List.getElem?_cons_zero, List.getElem?_cons_succ, List.set_cons_zero, List.set_cons_succ, List.set_nil, List.getElem?_nil, Option.some.injEq, exists_eq_left', exists_eq_left, exists_eq_right, reduceCtorEq, false_and, and_false, true_and, and_true, exists_false, exists_const, wipeR, Nat.zero_le, String.reduceEq, D.int.injEq, D.str.injEq, D.bl.injEq, atI_0, atI_1, atI_2, atI_3, atI_4, beq_self_eq_true, not_true_eq_false, not_false_eq_true, Int.cast_ofNat_Int, Int.reduceEq, Int.reduceLE, Int.reduceLT, Int.reduceAdd, Int.reduceSub, Int.reduceMul, Int.reduceNeg, if_true, if_false, ite_true, ite_false, Bool.false_eq_true, if_neg, if_pos, decide_eq_true_eq, Bool.not_eq_true', decide_eq_false_iff_not, eq_self_iff_true, decide_true, decide_false, Bool.not_true, Bool.not_false]
    by_cases hn : (0 : Int) < (c1 : Int)
    · obtain ⟨c2, rfl⟩ : ∃ c2, c1 = c2 + 1 := ⟨c1 - 1, by omega⟩
      simp only [hn, gIx_ref at1, wps_sub, show ((c2 + 1 : Nat) : Int) - 1 = (c2 : Int) by omega, show ∀ d {FU : Unit → Sto → Prop} {E : Exc → Sto → Prop}, wp (gSet (.ref l) (.int 0) d S') FU E ↔ FU () (S'.set l (.lst [d])) from fun d {FU E} => gSet_ref (j := 0) at1 (by show ixN 1 0 = some 0; decide), wp_ok, wp_ret, wp_stuck, wp_bad, wp_bnd, wp_if, wp_fif, wps_ok_nx, wps_ok_rt, wps_ok_bk, wps_ok_ct, wps_ok_xc, wps_bad, wps_lft, wps_seq, wps_nil, wps_ret, wps_expr, wps_asg, wps_if, wp_run, wps_for, wps_while, wp_comp, wp_var, wp_C, wp_bin, wp_un, wp_T, wp_Tb, wp_asBl, wp_truthBl, wp_bAnd, wp_bOr, wp_bNot, wp_eIf, wp_eAnd, wp_eOr, wp_eNot, blCase_bl, wp_chain, wp_aNil, wp_aCons, wp_tup, wp_lst, wp_lstM, wp_call, wp_cl1, wp_cl2, wp_cl3, wp_cl4, wp_cl5, wp_meth, wp_isi, wp_oNone, wp_oSome, wp_sl, wp_it, wp_range1, wp_range2, wp_bYes, gEq_str, gNe_str, gEq_int, gNe_int, gEq_bl, gNe_bl, gIs_bl, gIsNot_bl, gAdd_int, gSub_int, gC_int, gI_int, gAdd_str, gAdd_tup, gAdd_lst, gNeg_int, gIx_tup, gIx_lst, gLen_tup, gLen_lst, gLen_str, gInt_int, gInt_bl, gTuple_lst, gTuple_tup, gList_lst, gList_tup, gSl_tup, gSl_lst, gSl_fl, gSl_str, srcL_tup, srcL_lst, srcL_fl, srcL_str, srcR1_int, typN, startR, List.map_cons, List.map_nil, List.length_cons, List.length_nil, Nat.reduceAdd, Nat.reduceSub, Nat.zero_add, Nat.sub_self, Nat.sub_zero, List.replicate_zero, List.replicate_succ, List.cons_append, List.nil_append, List.append_nil, List.getElem?_cons_zero, List.getElem?_cons_succ, List.set_cons_zero, List.set_cons_succ, List.set_nil, List.getElem?_nil, Option.some.injEq, exists_eq_left', exists_eq_left, exists_eq_right, reduceCtorEq, false_and, and_false, true_and, and_true, exists_false, exists_const, wipeR, Nat.zero_le, String.reduceEq, D.int.injEq, D.str.injEq, D.bl.injEq, atI_0, atI_1, atI_2, atI_3, atI_4, beq_self_eq_true, not_true_eq_false, not_false_eq_true, Int.cast_ofNat_Int, Int.reduceEq, Int.reduceLE, Int.reduceLT, Int.reduceAdd, Int.reduceSub, Int.reduceMul, Int.reduceNeg, if_true, if_false, ite_true, ite_false, Bool.false_eq_true, if_neg, if_pos, decide_eq_true_eq, Bool.not_eq_true', decide_eq_false_iff_not, eq_self_iff_true, decide_true, decide_false, Bool.not_true, Bool.not_false]
      have hd5 := up c2
      refine ⟨isTy_ref (hat hd5), ?_⟩
      refine hT _ _ l c2 N' _ _ (by omega) hd5 fun w S3 c3 hww hc3 hd3 => ?_
      have hd4 := hd3.put ll (m' := .lst (ws ++ [w])) (trs fun x hx => by
        rw [List.mem_append, List.mem_singleton] at hx
        rcases hx with hx | rfl
        · exact (hw x hx).tr
        · exact hww.tr)
      rw [gAppend_ref (hat hd3)]
      refine ⟨by rw [sizeLine_eq]; omega, fun _ => ⟨ws ++ [w], some d, rfl, by simp; omega, fun x hx => ?_, c3, by simp only [List.flatMap_append, List.flatMap_cons, List.flatMap_nil, List.append_nil, List.length_append]; omega, hd4⟩⟩
      rw [List.mem_append, List.mem_singleton] at hx
      rcases hx with hx | rfl
      · exact hw x hx
      · exact hww
    · rw [if_neg hn]
      exact fun _ => ⟨ws, some d, rfl, by omega, hw, c1, hc1, hd2⟩
  · intro ρ S' hI
    rw [rangeD_len] at hI
    obtain ⟨ws, o, rfl, hl, hw, c1, hc1, hd2⟩ := hI (Nat.le_refl _)
    simp only [wp_ok, wp_ret, wp_stuck, wp_bad, wp_bnd, wp_if, wp_fif, wps_ok_nx, wps_ok_rt, wps_ok_bk, wps_ok_ct, wps_ok_xc, wps_bad, wps_lft, wps_seq, wps_nil, wps_ret, wps_expr, wps_asg, wps_if, wp_run, wps_for, wps_while, wp_comp, wp_var, wp_C, wp_bin, wp_un, wp_T, wp_Tb, wp_asBl, wp_truthBl, wp_bAnd, wp_bOr, wp_bNot, wp_eIf, wp_eAnd, wp_eOr, wp_eNot, blCase_bl, wp_chain, wp_aNil, wp_aCons, wp_tup, wp_lst, wp_lstM, wp_call, wp_cl1, wp_cl2, wp_cl3, wp_cl4, wp_cl5, wp_meth, wp_isi, wp_oNone, wp_oSome, wp_sl, wp_it, wp_range1, wp_range2, wp_bYes, gEq_str, gNe_str, gEq_int, gNe_int, gEq_bl, gNe_bl, gIs_bl, gIsNot_bl, gAdd_int, gSub_int, gC_int, gI_int, gAdd_str, gAdd_tup, gAdd_lst, gNeg_int, gIx_tup, gIx_lst, gLen_tup, gLen_lst, gLen_str, gInt_int, gInt_bl, gTuple_lst, gTuple_tup, gList_lst, gList_tup, gSl_tup, gSl_lst, gSl_fl, gSl_str, srcL_tup, srcL_lst, srcL_fl, srcL_str, srcR1_int, typN, startR, List.map_cons, List.map_nil, List.length_cons, List.length_nil, Nat.reduceAdd, Nat.reduceSub, Nat.zero_add, Nat.sub_self, Nat.sub_zero, List.replicate_zero, List.replicate_succ, List.cons_append, List.nil_append, List.append_nil, List.getElem?_cons_zero, List.getElem?_cons_succ, List.set_cons_zero, List.set_cons_succ, List.set_nil, List.getElem?_nil, Option.some.injEq, exists_eq_left', exists_eq_left, exists_eq_right, reduceCtorEq, false_and, and_false, true_and, and_true, exists_false, exists_const, wipeR, Nat.zero_le, String.reduceEq, D.int.injEq, D.str.injEq, D.bl.injEq, atI_0, atI_1, atI_2, atI_3, atI_4, beq_self_eq_true, not_true_eq_false, not_false_eq_true, Int.cast_ofNat_Int, Int.reduceEq, Int.reduceLE, Int.reduceLT, Int.reduceAdd, Int.reduceSub, Int.reduceMul, Int.reduceNeg, if_true, if_false, ite_true, ite_false, Bool.false_eq_true, if_neg, if_pos, decide_eq_true_eq, Bool.not_eq_true', decide_eq_false_iff_not, eq_self_iff_true, decide_true, decide_false, Bool.not_true, Bool.not_false]
    rw [gTuple_seq (show iLst S' (.ref R.length) = some ws from hat hd2)]
    have hc := hd2.cut ll
    exact hd2.at_.fin (S1 := R) (by omega) (tr_tup fun x hx => (hw x hx).tr) (hF ws _ c1 (by omega) hw hc1 hc)
theorem thing_gen : ∀ deep J, deep ≤ J → ThOk fu L deep J := by
  intro deep
  induction deep with
  | zero =>
    intro J hJ R S l c N F E hN h hF
    obtain ⟨N', rfl⟩ : ∃ N', N = N' + 1 := ⟨N - 1, by omega⟩
    show wp (runDef false 5 (b_l_thing fu (den fu N')) _ _) _ _
    simp only [b_l_thing, wp_ok, wp_ret, wp_stuck, wp_bad, wp_bnd, wp_if, wp_fif, wps_ok_nx, wps_ok_rt, wps_ok_bk, wps_ok_ct, wps_ok_xc, wps_bad, wps_lft, wps_seq, wps_nil, wps_ret, wps_expr, wps_asg, wps_if, wp_run, wps_for, wps_while, wp_comp, wp_var, wp_C, wp_bin, wp_un, wp_T, wp_Tb, wp_asBl, wp_truthBl, wp_bAnd, wp_bOr, wp_bNot, wp_eIf, wp_eAnd, wp_eOr, wp_eNot, blCase_bl, wp_chain, wp_aNil, wp_aCons, wp_tup, wp_lst, wp_lstM, wp_call, wp_cl1, wp_cl2, wp_cl3, wp_cl4, wp_cl5, wp_meth, wp_isi, wp_oNone, wp_oSome, wp_sl, wp_it, wp_range1, wp_range2, wp_bYes, gEq_str, gNe_str, gEq_int, gNe_int, gEq_bl, gNe_bl, gIs_bl, gIsNot_bl, gAdd_int, gSub_int, gC_int, gI_int, gAdd_str, gAdd_tup, gAdd_lst, gNeg_int, gIx_tup, gIx_lst, gLen_tup, gLen_lst, gLen_str, gInt_int, gInt_bl, gTuple_lst, gTuple_tup, gList_lst, gList_tup, gSl_tup, gSl_lst, gSl_fl, gSl_str, srcL_tup, srcL_lst, srcL_fl, srcL_str, srcR1_int, typN, startR, List.map_cons, List.map_nil, List.length_cons, List.length_nil, Nat.reduceAdd, Nat.reduceSub, Nat.zero_add, Nat.sub_self, Nat.sub_zero, List.replicate_zero, List.replicate_succ, List.cons_append, List.nil_append, List.append_nil, List.getElem?_cons_zero, List.getElem?_cons_succ, List.set_cons_zero, List.set_cons_succ, List.set_nil, List.getElem?_nil, Option.some.injEq, exists_eq_left', exists_eq_left, exists_eq_right, reduceCtorEq, false_and, and_false, true_and, and_true, exists_false, exists_const, wipeR, Nat.zero_le, String.reduceEq, D.int.injEq, D.str.injEq, D.bl.injEq, atI_0, atI_1, atI_2, atI_3, atI_4, beq_self_eq_true, not_true_eq_false, not_false_eq_true, Int.cast_ofNat_Int, Int.reduceEq, Int.reduceLE, Int.reduceLT, Int.reduceAdd, Int.reduceSub, Int.reduceMul, Int.reduceNeg, if_true, if_false, ite_true, ite_false, Bool.false_eq_true, if_neg, if_pos, decide_eq_true_eq, Bool.not_eq_true', decide_eq_false_iff_not, eq_self_iff_true, decide_true, decide_false, Bool.not_true, Bool.not_false]
    refine ltake (by omega) h (by decide) (by decide) fun v S1 hv0 hv1 d1 => ?_
    obtain ⟨l2, ll, dd⟩ := d1
    refine number_gen (by omega) dd fun i S2 i0 i1 d2 => ?_
    have d3 : LS R l c S2 := ⟨l2, ll, d2⟩
    exact ⟨small_line (by decide), d3.fin_same (by rw [d3.len, h.len]) rfl (hF _ _ c ⟨i, rfl, i0, i1⟩ (by rw [tokT_num]; show 1 + 3 * c ≤ _; omega) d3)⟩
  | succ deep ih =>
    intro J hJ R S l c N F E hN h hF
    obtain ⟨J', rfl⟩ : ∃ J', J = J' + 1 := ⟨J - 1, by omega⟩
    obtain ⟨N', rfl⟩ : ∃ N', N = N' + 1 := ⟨N - 1, by omega⟩
    show wp (runDef false 5 (b_l_thing fu (den fu N')) _ _) _ _
    simp only [b_l_thing, wp_ok, wp_ret, wp_stuck, wp_bad, wp_bnd, wp_if, wp_fif, wps_ok_nx, wps_ok_rt, wps_ok_bk, wps_ok_ct, wps_ok_xc, wps_bad, wps_lft, wps_seq, wps_nil, wps_ret, wps_expr, wps_asg, wps_if, wp_run, wps_for, wps_while, wp_comp, wp_var, wp_C, wp_bin, wp_un, wp_T, wp_Tb, wp_asBl, wp_truthBl, wp_bAnd, wp_bOr, wp_bNot, wp_eIf, wp_eAnd, wp_eOr, wp_eNot, blCase_bl, wp_chain, wp_aNil, wp_aCons, wp_tup, wp_lst, wp_lstM, wp_call, wp_cl1, wp_cl2, wp_cl3, wp_cl4, wp_cl5, wp_meth, wp_isi, wp_oNone, wp_oSome, wp_sl, wp_it, wp_range1, wp_range2, wp_bYes, gEq_str, gNe_str, gEq_int, gNe_int, gEq_bl, gNe_bl, gIs_bl, gIsNot_bl, gAdd_int, gSub_int, gC_int, gI_int, gAdd_str, gAdd_tup, gAdd_lst, gNeg_int, gIx_tup, gIx_lst, gLen_tup, gLen_lst, gLen_str, gInt_int, gInt_bl, gTuple_lst, gTuple_tup, gList_lst, gList_tup, gSl_tup, gSl_lst, gSl_fl, gSl_str, srcL_tup, srcL_lst, srcL_fl, srcL_str, srcR1_int, typN, startR, List.map_cons, List.map_nil, List.length_cons, List.length_nil, Nat.reduceAdd, Nat.reduceSub, Nat.zero_add, Nat.sub_self, Nat.sub_zero, List.replicate_zero, List.replicate_succ, List.cons_append, List.nil_append, List.append_nil, List.getElem?_cons_zero, List.getElem?_cons_succ, List.set_cons_zero, List.set_cons_succ, List.set_nil, List.getElem?_nil, Option.some.injEq, exists_eq_left', exists_eq_left, exists_eq_right, reduceCtorEq, false_and, and_false, true_and, and_true, exists_false, exists_const, wipeR, Nat.zero_le, String.reduceEq, D.int.injEq, D.str.injEq, D.bl.injEq, atI_0, atI_1, atI_2, atI_3, atI_4, beq_self_eq_true, not_true_eq_false, not_false_eq_true, Int.cast_ofNat_Int, Int.reduceEq, Int.reduceLE, Int.reduceLT, Int.reduceAdd, Int.reduceSub, Int.reduceMul, Int.reduceNeg, if_true, if_false, ite_true, ite_false, Bool.false_eq_true, if_neg, if_pos, decide_eq_true_eq, Bool.not_eq_true', decide_eq_false_iff_not, eq_self_iff_true, decide_true, decide_false, Bool.not_true, Bool.not_false]
    refine ltake (by omega) h (by decide) (by decide) fun v S1 hv0 hv1 d1 => ?_
    have hne : ¬ ((deep + 1 : Nat) : Int) = 0 := by omega
    have hsub : ((deep + 1 : Nat) : Int) - 1 = (deep : Int) := by omega
    simp only [hne, wp_ok, wp_ret, wp_stuck, wp_bad, wp_bnd, wp_if, wp_fif, wps_ok_nx, wps_ok_rt, wps_ok_bk, wps_ok_ct, wps_ok_xc, wps_bad, wps_lft, wps_seq, wps_nil, wps_ret, wps_expr, wps_asg, wps_if, wp_run, wps_for, wps_while, wp_comp, wp_var, wp_C, wp_bin, wp_un, wp_T, wp_Tb, wp_asBl, wp_truthBl, wp_bAnd, wp_bOr, wp_bNot, wp_eIf, wp_eAnd, wp_eOr, wp_eNot, blCase_bl, wp_chain, wp_aNil, wp_aCons, wp_tup, wp_lst, wp_lstM, wp_call, wp_cl1, wp_cl2, wp_cl3, wp_cl4, wp_cl5, wp_meth, wp_isi, wp_oNone, wp_oSome, wp_sl, wp_it, wp_range1, wp_range2, wp_bYes, gEq_str, gNe_str, gEq_int, gNe_int, gEq_bl, gNe_bl, gIs_bl, gIsNot_bl, gAdd_int, gSub_int, gC_int, gI_int, gAdd_str, gAdd_tup, gAdd_lst, gNeg_int, gIx_tup, gIx_lst, gLen_tup, gLen_lst, gLen_str, gInt_int, gInt_bl, gTuple_lst, gTuple_tup, gList_lst, gList_tup, gSl_tup, gSl_lst, gSl_fl, gSl_str, srcL_tup, srcL_lst, srcL_fl, srcL_str, srcR1_int, typN, startR, List.map_cons, List.map_nil, List.length_cons, List.length_nil, Nat.reduceAdd, Nat.reduceSub, Nat.zero_add, Nat.sub_self, Nat.sub_zero, List.replicate_zero, List.replicate_succ, List.cons_append, List.nil_append, List.append_nil, List.getElem?_cons_zero, List.getElem?_cons_succ, List.set_cons_zero, List.set_cons_succ, List.set_nil, List.getElem?_nil, Option.some.injEq, exists_eq_left', exists_eq_left, exists_eq_right, reduceCtorEq, false_and, and_false, true_and, and_true, exists_false, exists_const, wipeR, Nat.zero_le, String.reduceEq, D.int.injEq, D.str.injEq, D.bl.injEq, atI_0, atI_1, atI_2, atI_3, atI_4, beq_self_eq_true, not_true_eq_false, not_false_eq_true, Int.cast_ofNat_Int, Int.reduceEq, Int.reduceLE, Int.reduceLT, Int.reduceAdd, Int.reduceSub, Int.reduceMul, Int.reduceNeg, if_true, if_false, ite_true, ite_false, Bool.false_eq_true, if_neg, if_pos, decide_eq_true_eq, Bool.not_eq_true', decide_eq_false_iff_not, eq_self_iff_true, decide_true, decide_false, Bool.not_true, Bool.not_false]
    by_cases h2 : v < 2
    · simp only [h2, wp_ok, wp_ret, wp_stuck, wp_bad, wp_bnd, wp_if, wp_fif, wps_ok_nx, wps_ok_rt, wps_ok_bk, wps_ok_ct, wps_ok_xc, wps_bad, wps_lft, wps_seq, wps_nil, wps_ret, wps_expr, wps_asg, wps_if, wp_run, wps_for, wps_while, wp_comp, wp_var, wp_C, wp_bin, wp_un, wp_T, wp_Tb, wp_asBl, wp_truthBl, wp_bAnd, wp_bOr, wp_bNot, wp_eIf, wp_eAnd, wp_eOr, wp_eNot, blCase_bl, wp_chain, wp_aNil, wp_aCons, wp_tup, wp_lst, wp_lstM, wp_call, wp_cl1, wp_cl2, wp_cl3, wp_cl4, wp_cl5, wp_meth, wp_isi, wp_oNone, wp_oSome, wp_sl, wp_it, wp_range1, wp_range2, wp_bYes, gEq_str, gNe_str, gEq_int, gNe_int, gEq_bl, gNe_bl, gIs_bl, gIsNot_bl, gAdd_int, gSub_int, gC_int, gI_int, gAdd_str, gAdd_tup, gAdd_lst, gNeg_int, gIx_tup, gIx_lst, gLen_tup, gLen_lst, gLen_str, gInt_int, gInt_bl, gTuple_lst, gTuple_tup, gList_lst, gList_tup, gSl_tup, gSl_lst, gSl_fl, gSl_str, srcL_tup, srcL_lst, srcL_fl, srcL_str, srcR1_int, typN, startR, List.map_cons, List.map_nil, List.length_cons, List.length_nil, Nat.reduceAdd, Nat.reduceSub, Nat.zero_add, Nat.sub_self, Nat.sub_zero, List.replicate_zero, List.replicate_succ, List.cons_append, List.nil_append, List.append_nil, List.getElem?_cons_zero, List.getElem?_cons_succ, List.set_cons_zero, List.set_cons_succ, List.set_nil, List.getElem?_nil, Option.some.injEq, exists_eq_left', exists_eq_left, exists_eq_right, reduceCtorEq, false_and, and_false, true_and, and_true, exists_false, exists_const, wipeR, Nat.zero_le, String.reduceEq, D.int.injEq, D.str.injEq, D.bl.injEq, atI_0, atI_1, atI_2, atI_3, atI_4, beq_self_eq_true, not_true_eq_false, not_false_eq_true, Int.cast_ofNat_Int, Int.reduceEq, Int.reduceLE, Int.reduceLT, Int.reduceAdd, Int.reduceSub, Int.reduceMul, Int.reduceNeg, if_true, if_false, ite_true, ite_false, Bool.false_eq_true, if_neg, if_pos, decide_eq_true_eq, Bool.not_eq_true', decide_eq_false_iff_not, eq_self_iff_true, decide_true, decide_false, Bool.not_true, Bool.not_false]
      obtain ⟨l2, ll, dd⟩ := d1
      refine number_gen (by omega) dd fun i S2 i0 i1 d2 => ?_
      have d3 : LS R l c S2 := ⟨l2, ll, d2⟩
      exact ⟨small_line (by decide), d3.fin_same (by rw [d3.len, h.len]) rfl (hF _ _ c (.inl ⟨i, rfl, i0, i1⟩) (by rw [tokT_num]; show 1 + 3 * c ≤ _; omega) d3)⟩
    · simp only [h2, wp_ok, wp_ret, wp_stuck, wp_bad, wp_bnd, wp_if, wp_fif, wps_ok_nx, wps_ok_rt, wps_ok_bk, wps_ok_ct, wps_ok_xc, wps_bad, wps_lft, wps_seq, wps_nil, wps_ret, wps_expr, wps_asg, wps_if, wp_run, wps_for, wps_while, wp_comp, wp_var, wp_C, wp_bin, wp_un, wp_T, wp_Tb, wp_asBl, wp_truthBl, wp_bAnd, wp_bOr, wp_bNot, wp_eIf, wp_eAnd, wp_eOr, wp_eNot, blCase_bl, wp_chain, wp_aNil, wp_aCons, wp_tup, wp_lst, wp_lstM, wp_call, wp_cl1, wp_cl2, wp_cl3, wp_cl4, wp_cl5, wp_meth, wp_isi, wp_oNone, wp_oSome, wp_sl, wp_it, wp_range1, wp_range2, wp_bYes, gEq_str, gNe_str, gEq_int, gNe_int, gEq_bl, gNe_bl, gIs_bl, gIsNot_bl, gAdd_int, gSub_int, gC_int, gI_int, gAdd_str, gAdd_tup, gAdd_lst, gNeg_int, gIx_tup, gIx_lst, gLen_tup, gLen_lst, gLen_str, gInt_int, gInt_bl, gTuple_lst, gTuple_tup, gList_lst, gList_tup, gSl_tup, gSl_lst, gSl_fl, gSl_str, srcL_tup, srcL_lst, srcL_fl, srcL_str, srcR1_int, typN, startR, List.map_cons, List.map_nil, List.length_cons, List.length_nil, Nat.reduceAdd, Nat.reduceSub, Nat.zero_add, Nat.sub_self, Nat.sub_zero, List.replicate_zero, List.replicate_succ, List.cons_append, List.nil_append, List.append_nil, List.getElem?_cons_zero, List.getElem?_cons_succ, List.set_cons_zero, List.set_cons_succ, List.set_nil, List.getElem?_nil, Option.some.injEq, exists_eq_left', exists_eq_left, exists_eq_right, reduceCtorEq, false_and, and_false, true_and, and_true, exists_false, exists_const, wipeR, Nat.zero_le, String.reduceEq, D.int.injEq, D.str.injEq, D.bl.injEq, atI_0, atI_1, atI_2, atI_3, atI_4, beq_self_eq_true, not_true_eq_false, not_false_eq_true, Int.cast_ofNat_Int, Int.reduceEq, Int.reduceLE, Int.reduceLT, Int.reduceAdd, Int.reduceSub, Int.reduceMul, Int.reduceNeg, if_true, if_false, ite_true, ite_false, Bool.false_eq_true, if_neg, if_pos, decide_eq_true_eq, Bool.not_eq_true', decide_eq_false_iff_not, eq_self_iff_true, decide_true, decide_false, Bool.not_true, Bool.not_false]
      by_cases h3 : v = 2
      · simp only [h3, hsub, wp_ok, wp_ret, wp_stuck, wp_bad, wp_bnd, wp_if, wp_fif, wps_ok_nx, wps_ok_rt, wps_ok_bk, wps_ok_ct, wps_ok_xc, wps_bad, wps_lft, wps_seq, wps_nil, wps_ret, wps_expr, wps_asg, wps_if, wp_run, wps_for, wps_while, wp_comp, wp_var, wp_C, wp_bin, wp_un, wp_T, wp_Tb, wp_asBl, wp_truthBl, wp_bAnd, wp_bOr, wp_bNot, wp_eIf, wp_eAnd, wp_eOr, wp_eNot, blCase_bl, wp_chain, wp_aNil, wp_aCons, wp_tup, wp_lst, wp_lstM, wp_call, wp_cl1, wp_cl2, wp_cl3, wp_cl4, wp_cl5, wp_meth, wp_isi, wp_oNone, wp_oSome, wp_sl, wp_it, wp_range1, wp_range2, wp_bYes, gEq_str, gNe_str, gEq_int, gNe_int, gEq_bl, gNe_bl, gIs_bl, gIsNot_bl, gAdd_int, gSub_int, gC_int, gI_int, gAdd_str, gAdd_tup, gAdd_lst, gNeg_int, gIx_tup, gIx_lst, gLen_tup, gLen_lst, gLen_str, gInt_int, gInt_bl, gTuple_lst, gTuple_tup, gList_lst, gList_tup, gSl_tup, gSl_lst, gSl_fl, gSl_str, srcL_tup, srcL_lst, srcL_fl, srcL_str, srcR1_int, typN, startR, List.map_cons, List.map_nil, List.length_cons, List.length_nil, Nat.reduceAdd, Nat.reduceSub, Nat.zero_add, Nat.sub_self, Nat.sub_zero, List.replicate_zero, List.replicate_succ, List.cons_append, List.nil_append, List.append_nil, List.getElem?_cons_zero, List.getElem?_cons_succ, List.set_cons_zero, List.set_cons_succ, List.set_nil, List.getElem?_nil, Option.some.injEq, exists_eq_left', exists_eq_left, exists_eq_right, reduceCtorEq, false_and, and_false, true_and, and_true, exists_false, exists_const, wipeR, Nat.zero_le, String.reduceEq, D.int.injEq, D.str.injEq, D.bl.injEq, atI_0, atI_1, atI_2, atI_3, atI_4, beq_self_eq_true, not_true_eq_false, not_false_eq_true, Int.cast_ofNat_Int, Int.reduceEq, Int.reduceLE, Int.reduceLT, Int.reduceAdd, Int.reduceSub, Int.reduceMul, Int.reduceNeg, if_true, if_false, ite_true, ite_false, Bool.false_eq_true, if_neg, if_pos, decide_eq_true_eq, Bool.not_eq_true', decide_eq_false_iff_not, eq_self_iff_true, decide_true, decide_false, Bool.not_true, Bool.not_false]
        refine row_gen hL h0 h8 (ih J' (by omega)) (by omega) d1 fun ws S2 c2 hl hw hc2 d2 => ?_
        exact ⟨small_line (by decide), d2.fin_same (by rw [d2.len, h.len]) (ThG.tr (k := deep + 1) (B := 6) (Q := QL L) (.inr (.inl ⟨ws, rfl, hl, hw⟩))) (hF _ _ c2 (.inr (.inl ⟨ws, rfl, hl, hw⟩)) (by rw [tokT_row]; simp only [List.cons_append, List.length_cons, List.length_append, List.length_nil]; omega) d2)⟩
      · simp only [h3, hsub, wp_ok, wp_ret, wp_stuck, wp_bad, wp_bnd, wp_if, wp_fif, wps_ok_nx, wps_ok_rt, wps_ok_bk, wps_ok_ct, wps_ok_xc, wps_bad, wps_lft, wps_seq, wps_nil, wps_ret, wps_expr, wps_asg, wps_if, wp_run, wps_for, wps_while, wp_comp, wp_var, wp_C, wp_bin, wp_un, wp_T, wp_Tb, wp_asBl, wp_truthBl, wp_bAnd, wp_bOr, wp_bNot, wp_eIf, wp_eAnd, wp_eOr, wp_eNot, blCase_bl, wp_chain, wp_aNil, wp_aCons, wp_tup, wp_lst, wp_lstM, wp_call, wp_cl1, wp_cl2, wp_cl3, wp_cl4, wp_cl5, wp_meth, wp_isi, wp_oNone, wp_oSome, wp_sl, wp_it, wp_range1, wp_range2, wp_bYes, gEq_str, gNe_str, gEq_int, gNe_int, gEq_bl, gNe_bl, gIs_bl, gIsNot_bl, gAdd_int, gSub_int, gC_int, gI_int, gAdd_str, gAdd_tup, gAdd_lst, gNeg_int, gIx_tup, gIx_lst, gLen_tup, gLen_lst, gLen_str, gInt_int, gInt_bl, gTuple_lst, gTuple_tup, gList_lst, gList_tup, gSl_tup, gSl_lst, gSl_fl, gSl_str, srcL_tup, srcL_lst, srcL_fl, srcL_str, srcR1_int, typN, startR, List.map_cons, List.map_nil, List.length_cons, List.length_nil, Nat.reduceAdd, Nat.reduceSub, Nat.zero_add, Nat.sub_self, Nat.sub_zero, List.replicate_zero, List.replicate_succ, List.cons_append, List.nil_append, List.append_nil, List.getElem?_cons_zero, List.getElem?_cons_succ, List.set_cons_zero, List.set_cons_succ, List.set_nil, List.getElem?_nil, Option.some.injEq, exists_eq_left', exists_eq_left, exists_eq_right, reduceCtorEq, false_and, and_false, true_and, and_true, exists_false, exists_const, wipeR, Nat.zero_le, String.reduceEq, D.int.injEq, D.str.injEq, D.bl.injEq, atI_0, atI_1, atI_2, atI_3, atI_4, beq_self_eq_true, not_true_eq_false, not_false_eq_true, Int.cast_ofNat_Int, Int.reduceEq, Int.reduceLE, Int.reduceLT, Int.reduceAdd, Int.reduceSub, Int.reduceMul, Int.reduceNeg, if_true, if_false, ite_true, ite_false, Bool.false_eq_true, if_neg, if_pos, decide_eq_true_eq, Bool.not_eq_true', decide_eq_false_iff_not, eq_self_iff_true, decide_true, decide_false, Bool.not_true, Bool.not_false]
        refine stack_gen hL h0 h8 (ih J' (by omega)) (by omega) d1 fun ws S2 c2 hl hw hc2 d2 => ?_
        exact ⟨small_line (by decide), d2.fin_same (by rw [d2.len, h.len]) (ThG.tr (k := deep + 1) (B := 6) (Q := QL L) (.inr (.inr ⟨ws, rfl, hl, hw⟩))) (hF _ _ c2 (.inr (.inr ⟨ws, rfl, hl, hw⟩)) (by rw [tokT_list]; simp only [List.cons_append, List.length_cons, List.length_append, List.length_nil]; omega) d2)⟩
end
end K69

namespace K69
open PySem L2 DL
variable {fu n l : Nat} {R S : Sto} {F : D → Sto → Prop} {E : Exc → Sto → Prop}
/-! what putting in place comes to -/
theorem basics_strOk : ∀ z ∈ basics, PyData.strOk z = true := by decide +kernel
theorem small_lt : ∀ c ∈ small, c < 1114112 := by decide
theorem IsSh.strOk {z : Str} (h : IsSh z) : PyData.strOk z = true := by
  obtain ⟨a, b, rfl, ⟨m, hm, ha⟩, hb, hab⟩ := h
  have h1 : ∀ x ∈ a, x < 1114112 := fun x hx => by
    rw [ha] at hx
    have := List.mem_of_mem_take hx
    simp only [List.mem_cons, List.not_mem_nil, or_false] at this
    omega
  unfold PyData.strOk
  rw [← Array.all_toList, app_toList, app_toList]
  simp only [List.all_append, Bool.and_eq_true, List.all_eq_true, decide_eq_true_eq, List.toList_toArray]
  refine ⟨⟨h1, by simp⟩, fun x hx => h1 x (hab x hx)⟩
theorem NameP.strOk {z : Str} (h : NameP z) : PyData.strOk z = true := by
  unfold PyData.strOk
  rw [← Array.all_toList]
  simp only [List.all_eq_true, decide_eq_true_eq]
  exact fun c hc => small_lt c (h.2.2.2 c hc)
theorem WS.strOk {z : Str} (h : WS z) : PyData.strOk z = true := by
  rcases h.2 with h | h | h
  · exact basics_strOk z h
  · exact h.strOk
  · exact h.strOk
theorem s_number : PyData.strOk (Str.ofString "number") = true := by decide +kernel
theorem s_row : PyData.strOk (Str.ofString "row") = true := by decide +kernel
theorem s_list : PyData.strOk (Str.ofString "list") = true := by decide +kernel
theorem s_push : PyData.strOk (Str.ofString "push") = true := by decide +kernel
theorem sh2 {m : Nat} {a b : D} (ha : Sh m a) (hb : Sh m b) : Sh (m + 1) (.tup [a, b]) := sh_tup fun d hd => by
  simp only [List.mem_cons, List.not_mem_nil, or_false] at hd
  rcases hd with rfl | rfl <;> assumption
theorem Num.sh {d : D} (h : Num d) : Sh 1 d := by obtain ⟨i, rfl, _⟩ := h; exact sh2 (sh_str s_number) sh_int
theorem ThG.sh {B : Nat} {Q : Str → Prop} : ∀ {j : Nat} {d : D}, ThG B Q j d → Sh (3 * j + 1) d
  | 0, d, h => Num.sh h
  | j + 1, d, h => by
    rcases h with h | ⟨ws, rfl, _, h⟩ | ⟨ts, rfl, _, h⟩
    · exact (Num.sh h).mono (by omega)
    · refine (sh2 (m := 3 * j + 1 + 1 + 1) (sh_str s_row) (sh_tup fun w hw => ?_)).mono (by omega)
      rcases h w hw with ⟨z, rfl, hz, _⟩ | ⟨t, rfl, q⟩
      · exact sh_str hz.strOk
      · exact sh2 (sh_str s_push) (ThG.sh q)
    · exact (sh2 (m := 3 * j + 1 + 1) (sh_str s_list) (sh_tup fun t ht => ThG.sh (h t ht))).mono (by omega)
theorem gEq_tupStr {m : Nat} {ds : List D} {z : Str} (h : Sh m (.tup ds)) (hm : m ≤ 64) (hz : PyData.strOk z = true) : wp (gEq (.tup ds) (.str z) S) F E ↔ F (.bl false) S := by
  have e : eqD S (.tup ds) (.str z) = some false := by
    obtain ⟨p, a, b, c⟩ := h
    have e1 : toPyS S (.tup ds) = some p := a
    have e2 : toPyS S (.str z) = some (.str z) := rfl
    have s1 : SeqAt.shaped p = true := by
      unfold SeqAt.shaped
      rw [b, decide_eq_true (by omega)]; rfl
    have s2 : SeqAt.shaped (.str z) = true := by
      unfold SeqAt.shaped
      simp only [PyData.canLay0, hz, PyData.depth, Bool.true_and]; rfl
    unfold eqD
    simp only [e1, e2, s1, s2, Bool.and_self, if_true]
    simp only [toPy, Option.map_eq_some_iff] at a
    obtain ⟨ps, a, rfl⟩ := a
    rfl
  unfold gEq
  rw [e]; exact Iff.rfl
/-- a thing, a word with z's row in its place -/
def subT (z : Str) (row : List D) : Nat → D → D
  | 0, d => d
  | j + 1, .tup [.str k, .tup xs] => if k = Str.ofString "row" then .tup [.str k, .tup (xs.flatMap fun w => match w with
      | .str y => if y = z then row else [.str y]
      | .tup [p, t] => [.tup [p, subT z row j t]]
      | w => [w])]
    else if k = Str.ofString "list" then .tup [.str k, .tup (xs.map (subT z row j))] else .tup [.str k, .tup xs]
  | _ + 1, d => d
def subW (z : Str) (row : List D) (j : Nat) (w : D) : List D := match w with
  | .str y => if y = z then row else [.str y]
  | .tup [p, t] => [.tup [p, subT z row j t]]
  | w => [w]
theorem subT_row {z : Str} {row xs : List D} {j : Nat} : subT z row (j + 1) (.tup [.str "row", .tup xs]) = .tup [.str "row", .tup (xs.flatMap (subW z row j))] := by
  simp only [subT, if_true]
  rfl
theorem subT_list {z : Str} {row xs : List D} {j : Nat} : subT z row (j + 1) (.tup [.str "list", .tup xs]) = .tup [.str "list", .tup (xs.map (subT z row j))] := by
  simp only [subT, ofString_inj, if_true, Nat.zero_le, String.reduceEq, D.int.injEq, D.str.injEq, D.bl.injEq, atI_0, atI_1, atI_2, atI_3, atI_4, beq_self_eq_true, not_true_eq_false, not_false_eq_true, Int.cast_ofNat_Int, Int.reduceEq, Int.reduceLE, Int.reduceLT, Int.reduceAdd, Int.reduceSub, Int.reduceMul, Int.reduceNeg, if_true, if_false, ite_true, ite_false, Bool.false_eq_true, if_neg, if_pos, decide_eq_true_eq, Bool.not_eq_true', decide_eq_false_iff_not, eq_self_iff_true, decide_true, decide_false, Bool.not_true, Bool.not_false]
theorem subT_num {z : Str} {row : List D} {j : Nat} {d : D} (h : Num d) : subT z row j d = d := by
  obtain ⟨i, rfl, _⟩ := h
  cases j <;> rfl
theorem subW_len {z : Str} {row : List D} {j : Nat} {w : D} : (subW z row j w).length ≤ row.length + 1 := by
  unfold subW
  split
  · split
    · omega
    · simp
  · simp
  · simp
end K69

namespace K69
open PySem L2 DL
variable {fu n l : Nat} {R S : Sto} {F : D → Sto → Prop} {E : Exc → Sto → Prop}
/-! put in place -/
theorem tr_tup' {ds : List D} (h : tr (.tup ds)) : ∀ d ∈ ds, tr d := (los_iff ds).mp h
theorem subT_tup {z : Str} {row : List D} {J : Nat} {k : Str} {xs : List D} : subT z row (J + 1) (.tup [.str k, .tup xs]) = if k = Str.ofString "row" then .tup [.str k, .tup (xs.flatMap (subW z row J))]
    else if k = Str.ofString "list" then .tup [.str k, .tup (xs.map (subT z row J))] else .tup [.str k, .tup xs] := rfl
theorem subT_else {z : Str} {row : List D} {J : Nat} {d : D} (h : ∀ k xs, d ≠ .tup [.str k, .tup xs]) : subT z row (J + 1) d = d := by
  unfold subT
  split
  · rename_i hd; cases hd
  · exact absurd rfl (h _ _)
  · rfl
theorem tr_sub {z : Str} {row : List D} (hrow : ∀ w ∈ row, tr w) : ∀ (J : Nat) (d : D), tr d → tr (subT z row J d)
  | 0, d, h => h
  | J + 1, d, h => by
    by_cases hs : ∃ k xs, d = .tup [.str k, .tup xs]
    · obtain ⟨k, xs, rfl⟩ := hs
      have hx := tr_tup' (tr_tup' h _ (List.mem_cons_of_mem _ List.mem_cons_self))
      have two : ∀ ys, (∀ y ∈ ys, tr y) → tr (.tup [.str k, .tup ys]) := fun ys hy => tr_tup fun e he => by
        simp only [List.mem_cons, List.not_mem_nil, or_false] at he
        rcases he with rfl | rfl
        · rfl
        · exact tr_tup hy
      rw [subT_tup]
      split
      · refine two _ fun w hw => ?_
        obtain ⟨x, hxm, hw⟩ := List.mem_flatMap.mp hw
        have := hx x hxm
        unfold subW at hw
        split at hw
        · split at hw
          · exact hrow w hw
          · rw [List.mem_singleton.mp hw]; rfl
        · rw [List.mem_singleton.mp hw]
          refine tr_tup fun e he => ?_
          simp only [List.mem_cons, List.not_mem_nil, or_false] at he
          rcases he with rfl | rfl
          · exact tr_tup' this _ List.mem_cons_self
          · exact tr_sub hrow J _ (tr_tup' this _ (List.mem_cons_of_mem _ List.mem_cons_self))
        · rw [List.mem_singleton.mp hw]; exact this
      · split
        · refine two _ fun w hw => ?_
          obtain ⟨x, hxm, rfl⟩ := List.mem_map.mp hw
          exact tr_sub hrow J _ (hx x hxm)
        · exact h
    · rw [subT_else (fun k xs e => hs ⟨k, xs, e⟩)]; exact h
theorem tr_subW {z : Str} {row : List D} (hrow : ∀ w ∈ row, tr w) {J : Nat} {w : D} (h : tr w) : ∀ x ∈ subW z row J w, tr x := by
  intro x hx
  unfold subW at hx
  split at hx
  · split at hx
    · exact hrow x hx
    · rw [List.mem_singleton.mp hx]; rfl
  · rw [List.mem_singleton.mp hx]
    refine tr_tup fun e he => ?_
    simp only [List.mem_cons, List.not_mem_nil, or_false] at he
    rcases he with rfl | rfl
    · exact tr_tup' h _ List.mem_cons_self
    · exact tr_sub hrow J _ (tr_tup' h _ (List.mem_cons_of_mem _ List.mem_cons_self))
  · rw [List.mem_singleton.mp hx]; exact h
section
variable {z : Str} {row : List D} {B : Nat} {Q : Str → Prop} (hz : PyData.strOk z = true) (hrow : ∀ w ∈ row, tr w) (hr : row.length ≤ 2000) (hB : B ≤ 2000)
def PlT (fu : Nat) (z : Str) (row : List D) (B : Nat) (Q : Str → Prop) (j J : Nat) : Prop := ∀ (d : D) (N : Nat) (S : Sto) (F : D → Sto → Prop) (E : Exc → Sto → Prop), ThG B Q j d → 2 * j + 2 ≤ N → OKS S → F (subT z row J d) S → wp (den fu N i_thing_in_place [d, .str z, .tup row] S) F E
theorem flat_len {J : Nat} : ∀ ws : List D, (ws.flatMap (subW z row J)).length ≤ ws.length * (row.length + 1)
  | [] => Nat.zero_le _
  | w :: ws => by
    have := flat_len (J := J) ws
    have := subW_len (z := z) (row := row) (j := J) (w := w)
    simp only [List.flatMap_cons, List.length_append, List.length_cons, Nat.succ_mul]
    omega
theorem den_tip {m : Nat} : den fu (m + 1) i_thing_in_place = runDef false 4 (b_thing_in_place fu (den fu m)) := rfl
include hz hrow hr hB
theorem words_ok {j J : Nat} (hT : PlT fu z row B Q j J) (hj : j ≤ 18) {ws : List D} {N : Nat} (hN : 2 * j + 3 ≤ N) (hl : ws.length ≤ B) (hw : ∀ w ∈ ws, WdG B Q j w) (hS : OKS S) (hF : F (.tup (ws.flatMap (subW z row J))) S) : wp (den fu N i_words_in_place [.tup ws, .str z, .tup row] S) F E := by
  obtain ⟨N', rfl⟩ : ∃ N', N = N' + 1 := ⟨N - 1, by omega⟩
  show wp (runDef false 5 (b_words_in_place fu (den fu N')) _ _) _ _
  simp only [b_words_in_place, wp_ok, wp_ret, wp_stuck, wp_bad, wp_bnd, wp_if, wp_fif, wps_ok_nx, wps_ok_rt, wps_ok_bk, wps_ok_ct, wps_ok_xc, wps_bad, wps_lft, wps_seq, wps_nil, wps_ret, wps_expr, wps_asg, wps_if, wp_run, wps_for, wps_while, wp_comp, wp_var, wp_C, wp_bin, wp_un, wp_T, wp_Tb, wp_asBl, wp_truthBl, wp_bAnd, wp_bOr, wp_bNot, wp_eIf, wp_eAnd, wp_eOr, wp_eNot, blCase_bl, wp_chain, wp_aNil, wp_aCons, wp_tup, wp_lst, wp_lstM, wp_call, wp_cl1, wp_cl2, wp_cl3, wp_cl4, wp_cl5, wp_meth, wp_isi, wp_oNone, wp_oSome, wp_sl, wp_it, wp_range1, wp_range2, wp_bYes, gEq_str, gNe_str, gEq_int, gNe_int, gEq_bl, gNe_bl, gIs_bl, gIsNot_bl, gAdd_int, gSub_int, gC_int, gI_int, gAdd_str, gAdd_tup, gAdd_lst, gNeg_int, gIx_tup, gIx_lst, gLen_tup, gLen_lst, gLen_str, gInt_int, gInt_bl, gTuple_lst, gTuple_tup, gList_lst, gList_tup, gSl_tup, gSl_lst, gSl_fl, gSl_str, srcL_tup, srcL_lst, srcL_fl, srcL_str, srcR1_int, typN, startR, List.map_cons, List.map_nil, List.length_cons, List.length_nil, Nat.reduceAdd, Nat.reduceSub, Nat.zero_add, Nat.sub_self, Nat.sub_zero, List.replicate_zero, List.replicate_succ, List.cons_append, List.nil_append, List.append_nil, List.getElem?_cons_zero, List.getElem?_cons_succ, List.set_cons_zero, List.set_cons_succ, List.set_nil, List.getElem?_nil, Option.some.injEq, exists_eq_left', exists_eq_left, exists_eq_right, reduceCtorEq, false_and, and_false, true_and, and_true, exists_false, exists_const, wipeR, Nat.zero_le, String.reduceEq, D.int.injEq, D.str.injEq, D.bl.injEq, atI_0, atI_1, atI_2, atI_3, atI_4, beq_self_eq_true, not_true_eq_false, not_false_eq_true, Int.cast_ofNat_Int, Int.reduceEq, Int.reduceLE, Int.reduceLT, Int.reduceAdd, Int.reduceSub, Int.reduceMul, Int.reduceNeg, if_true, if_false, ite_true, ite_false, Bool.false_eq_true, if_neg, if_pos, decide_eq_true_eq, Bool.not_eq_true', decide_eq_false_iff_not, eq_self_iff_true, decide_true, decide_false, Bool.not_true, Bool.not_false]
  have big : ∀ i, i ≤ ws.length → ((ws.take i).flatMap (subW z row J)).length + 2001 ≤ 16777216 := fun i hi => by
    have h1 := flat_len (z := z) (row := row) (J := J) (ws.take i)
    have h2 : (ws.take i).length ≤ 2000 := by simp; omega
    have h3 : (ws.take i).length * (row.length + 1) ≤ 2000 * 2001 := Nat.mul_le_mul h2 (by omega)
    omega
  refine wps_forM (fun i ρ S' => S' = S ∧ (i ≤ ws.length → ∃ o : Option D, ρ = [some (.tup ws), some (.str z), some (.tup row), some (.tup ((ws.take i).flatMap (subW z row J))), o])) (fun _ _ _ _ => trivial) ?_ ?_ ⟨rfl, fun _ => ⟨none, rfl⟩⟩
  · rintro i w ρ S' hd ⟨rfl, hI⟩
    have hlt := (List.getElem?_eq_some_iff.mp hd).1
    obtain ⟨o, rfl⟩ := hI (by omega)
    have hb := big i (by omega)
    have ht : (ws.take (i + 1)).flatMap (subW z row J) = (ws.take i).flatMap (subW z row J) ++ subW z row J w := by
      rw [List.take_succ, hd]; simp [List.flatMap_append]
    refine ⟨_, rfl, ?_⟩
    rcases hw w (List.mem_of_getElem? hd) with ⟨y, rfl, hy, hq⟩ | ⟨t, rfl, ht2⟩
    · simp only [wp_ok, wp_ret, wp_stuck, wp_bad, wp_bnd, wp_if, wp_fif, wps_ok_nx, wps_ok_rt, wps_ok_bk, wps_ok_ct, wps_ok_xc, wps_bad, wps_lft, wps_seq, wps_nil, wps_ret, wps_expr, wps_asg, wps_if, wp_run, wps_for, wps_while, wp_comp, wp_var, wp_C, wp_bin, wp_un, wp_T, wp_Tb, wp_asBl, wp_truthBl, wp_bAnd, wp_bOr, wp_bNot, wp_eIf, wp_eAnd, wp_eOr, wp_eNot, blCase_bl, wp_chain, wp_aNil, wp_aCons, wp_tup, wp_lst, wp_lstM, wp_call, wp_cl1, wp_cl2, wp_cl3, wp_cl4, wp_cl5, wp_meth, wp_isi, wp_oNone, wp_oSome, wp_sl, wp_it, wp_range1, wp_range2, wp_bYes, gEq_str, gNe_str, gEq_int, gNe_int, gEq_bl, gNe_bl, gIs_bl, gIsNot_bl, gAdd_int, gSub_int, gC_int, gI_int, gAdd_str, gAdd_tup, gAdd_lst, gNeg_int, gIx_tup, gIx_lst, gLen_tup, gLen_lst, gLen_str, gInt_int, gInt_bl, gTuple_lst, gTuple_tup, gList_lst, gList_tup, gSl_tup, gSl_lst, gSl_fl, gSl_str, srcL_tup, srcL_lst, srcL_fl, srcL_str, srcR1_int, typN, startR, List.map_cons, List.map_nil, List.length_cons, List.length_nil, Nat.reduceAdd, Nat.reduceSub, Nat.zero_add, Nat.sub_self, Nat.sub_zero, List.replicate_zero, List.replicate_succ, List.cons_append, List.nil_append, List.append_nil, List.getElem?_cons_zero, List.getElem?_cons_succ, List.set_cons_zero, List.set_cons_succ, List.set_nil, List.getElem?_nil, Option.some.injEq, exists_eq_left', exists_eq_left, exists_eq_right, reduceCtorEq, false_and, and_false, true_and, and_true, exists_false, exists_const, wipeR, Nat.zero_le, String.reduceEq, D.int.injEq, D.str.injEq, D.bl.injEq, atI_0, atI_1, atI_2, atI_3, atI_4, beq_self_eq_true, not_true_eq_false, not_false_eq_true, Int.cast_ofNat_Int, Int.reduceEq, Int.reduceLE, Int.reduceLT, Int.reduceAdd, Int.reduceSub, Int.reduceMul, Int.reduceNeg, if_true, if_false, ite_true, ite_false, Bool.false_eq_true, if_neg, if_pos, decide_eq_true_eq, Bool.not_eq_true', decide_eq_false_iff_not, eq_self_iff_true, decide_true, decide_false, Bool.not_true, Bool.not_false]
      by_cases hyz : y = z
      · rw [if_pos hyz]
        refine ⟨small_line (by omega), fun _ => ⟨some (.str y), ?_⟩⟩
        rw [ht]; simp only [subW, hyz, if_true]
      · rw [if_neg hyz]
        simp only [isiN_ss, wp_ok, wp_ret, wp_stuck, wp_bad, wp_bnd, wp_if, wp_fif, wps_ok_nx, wps_ok_rt, wps_ok_bk, wps_ok_ct, wps_ok_xc, wps_bad, wps_lft, wps_seq, wps_nil, wps_ret, wps_expr, wps_asg, wps_if, wp_run, wps_for, wps_while, wp_comp, wp_var, wp_C, wp_bin, wp_un, wp_T, wp_Tb, wp_asBl, wp_truthBl, wp_bAnd, wp_bOr, wp_bNot, wp_eIf, wp_eAnd, wp_eOr, wp_eNot, blCase_bl, wp_chain, wp_aNil, wp_aCons, wp_tup, wp_lst, wp_lstM, wp_call, wp_cl1, wp_cl2, wp_cl3, wp_cl4, wp_cl5, wp_meth, wp_isi, wp_oNone, wp_oSome, wp_sl, wp_it, wp_range1, wp_range2, wp_bYes, gEq_str, gNe_str, gEq_int, gNe_int, gEq_bl, gNe_bl, gIs_bl, gIsNot_bl, gAdd_int, gSub_int, gC_int, gI_int, gAdd_str, gAdd_tup, gAdd_lst, gNeg_int, gIx_tup, gIx_lst, gLen_tup, gLen_lst, gLen_str, gInt_int, gInt_bl, gTuple_lst, gTuple_tup, gList_lst, gList_tup, gSl_tup, gSl_lst, gSl_fl, gSl_str, srcL_tup, srcL_lst, srcL_fl, srcL_str, srcR1_int, typN, startR, List.map_cons, List.map_nil, List.length_cons, List.length_nil, Nat.reduceAdd, Nat.reduceSub, Nat.zero_add, Nat.sub_self, Nat.sub_zero, List.replicate_zero, List.replicate_succ, List.cons_append, List.nil_append, List.append_nil, List.getElem?_cons_zero, List.getElem?_cons_succ, List.set_cons_zero, List.set_cons_succ, List.set_nil, List.getElem?_nil, Option.some.injEq, exists_eq_left', exists_eq_left, exists_eq_right, reduceCtorEq, false_and, and_false, true_and, and_true, exists_false, exists_const, wipeR, Nat.zero_le, String.reduceEq, D.int.injEq, D.str.injEq, D.bl.injEq, atI_0, atI_1, atI_2, atI_3, atI_4, beq_self_eq_true, not_true_eq_false, not_false_eq_true, Int.cast_ofNat_Int, Int.reduceEq, Int.reduceLE, Int.reduceLT, Int.reduceAdd, Int.reduceSub, Int.reduceMul, Int.reduceNeg, if_true, if_false, ite_true, ite_false, Bool.false_eq_true, if_neg, if_pos, decide_eq_true_eq, Bool.not_eq_true', decide_eq_false_iff_not, eq_self_iff_true, decide_true, decide_false, Bool.not_true, Bool.not_false]
        refine ⟨small_line (by decide), small_line (by omega), fun _ => ⟨some (.str y), ?_⟩⟩
        rw [ht]; simp only [subW, hyz, if_false]
    · have hsh : Sh (3 * j + 1 + 1) (.tup [.str "push", t]) := sh2 (sh_str s_push) ht2.sh
      simp only [gEq_tupStr hsh (by omega) hz, isiN_ts, wp_ok, wp_ret, wp_stuck, wp_bad, wp_bnd, wp_if, wp_fif, wps_ok_nx, wps_ok_rt, wps_ok_bk, wps_ok_ct, wps_ok_xc, wps_bad, wps_lft, wps_seq, wps_nil, wps_ret, wps_expr, wps_asg, wps_if, wp_run, wps_for, wps_while, wp_comp, wp_var, wp_C, wp_bin, wp_un, wp_T, wp_Tb, wp_asBl, wp_truthBl, wp_bAnd, wp_bOr, wp_bNot, wp_eIf, wp_eAnd, wp_eOr, wp_eNot, blCase_bl, wp_chain, wp_aNil, wp_aCons, wp_tup, wp_lst, wp_lstM, wp_call, wp_cl1, wp_cl2, wp_cl3, wp_cl4, wp_cl5, wp_meth, wp_isi, wp_oNone, wp_oSome, wp_sl, wp_it, wp_range1, wp_range2, wp_bYes, gEq_str, gNe_str, gEq_int, gNe_int, gEq_bl, gNe_bl, gIs_bl, gIsNot_bl, gAdd_int, gSub_int, gC_int, gI_int, gAdd_str, gAdd_tup, gAdd_lst, gNeg_int, gIx_tup, gIx_lst, gLen_tup, gLen_lst, gLen_str, gInt_int, gInt_bl, gTuple_lst, gTuple_tup, gList_lst, gList_tup, gSl_tup, gSl_lst, gSl_fl, gSl_str, srcL_tup, srcL_lst, srcL_fl, srcL_str, srcR1_int, typN, startR, List.map_cons, List.map_nil, List.length_cons, List.length_nil, Nat.reduceAdd, Nat.reduceSub, Nat.zero_add, Nat.sub_self, Nat.sub_zero, List.replicate_zero, List.replicate_succ, List.cons_append, List.nil_append, List.append_nil, List.getElem?_cons_zero, List.getElem?_cons_succ, List.set_cons_zero, List.set_cons_succ, List.set_nil, List.getElem?_nil, Option.some.injEq, exists_eq_left', exists_eq_left, exists_eq_right, reduceCtorEq, false_and, and_false, true_and, and_true, exists_false, exists_const, wipeR, Nat.zero_le, String.reduceEq, D.int.injEq, D.str.injEq, D.bl.injEq, atI_0, atI_1, atI_2, atI_3, atI_4, beq_self_eq_true, not_true_eq_false, not_false_eq_true, Int.cast_ofNat_Int, Int.reduceEq, Int.reduceLE, Int.reduceLT, Int.reduceAdd, Int.reduceSub, Int.reduceMul, Int.reduceNeg, if_true, if_false, ite_true, ite_false, Bool.false_eq_true, if_neg, if_pos, decide_eq_true_eq, Bool.not_eq_true', decide_eq_false_iff_not, eq_self_iff_true, decide_true, decide_false, Bool.not_true, Bool.not_false]
      refine hT t N' _ _ _ ht2 (by omega) hS ?_
      refine ⟨small_line (by decide), small_line (by decide), ?_⟩
      refine ⟨small_line (by omega), rfl, fun _ => ⟨some (.tup [.str "push", t]), ?_⟩⟩
      rw [ht]; rfl
  · rintro ρ S' ⟨rfl, hI⟩
    obtain ⟨o, rfl⟩ := hI (Nat.le_refl _)
    simp only [wp_ok, wp_ret, wp_stuck, wp_bad, wp_bnd, wp_if, wp_fif, wps_ok_nx, wps_ok_rt, wps_ok_bk, wps_ok_ct, wps_ok_xc, wps_bad, wps_lft, wps_seq, wps_nil, wps_ret, wps_expr, wps_asg, wps_if, wp_run, wps_for, wps_while, wp_comp, wp_var, wp_C, wp_bin, wp_un, wp_T, wp_Tb, wp_asBl, wp_truthBl, wp_bAnd, wp_bOr, wp_bNot, wp_eIf, wp_eAnd, wp_eOr, wp_eNot, blCase_bl, wp_chain, wp_aNil, wp_aCons, wp_tup, wp_lst, wp_lstM, wp_call, wp_cl1, wp_cl2, wp_cl3, wp_cl4, wp_cl5, wp_meth, wp_isi, wp_oNone, wp_oSome, wp_sl, wp_it, wp_range1, wp_range2, wp_bYes, gEq_str, gNe_str, gEq_int, gNe_int, gEq_bl, gNe_bl, gIs_bl, gIsNot_bl, gAdd_int, gSub_int, gC_int, gI_int, gAdd_str, gAdd_tup, gAdd_lst, gNeg_int, gIx_tup, gIx_lst, gLen_tup, gLen_lst, gLen_str, gInt_int, gInt_bl, gTuple_lst, gTuple_tup, gList_lst, gList_tup, gSl_tup, gSl_lst, gSl_fl, gSl_str, srcL_tup, srcL_lst, srcL_fl, srcL_str, srcR1_int, typN, startR, List.map_cons, List.map_nil, List.length_cons, List.length_nil, Nat.reduceAdd, Nat.reduceSub, Nat.zero_add, Nat.sub_self, Nat.sub_zero, List.replicate_zero, List.replicate_succ, List.cons_append, List.nil_append, List.append_nil, List.getElem?_cons_zero, List.getElem?_cons_succ, List.set_cons_zero, List.set_cons_succ, List.set_nil, List.getElem?_nil, Option.some.injEq, exists_eq_left', exists_eq_left, exists_eq_right, reduceCtorEq, false_and, and_false, true_and, and_true, exists_false, exists_const, wipeR, Nat.zero_le, String.reduceEq, D.int.injEq, D.str.injEq, D.bl.injEq, atI_0, atI_1, atI_2, atI_3, atI_4, beq_self_eq_true, not_true_eq_false, not_false_eq_true, Int.cast_ofNat_Int, Int.reduceEq, Int.reduceLE, Int.reduceLT, Int.reduceAdd, Int.reduceSub, Int.reduceMul, Int.reduceNeg, if_true, if_false, ite_true, ite_false, Bool.false_eq_true, if_neg, if_pos, decide_eq_true_eq, Bool.not_eq_true', decide_eq_false_iff_not, eq_self_iff_true, decide_true, decide_false, Bool.not_true, Bool.not_false]
    rw [List.take_length]
    refine (fin_trO hS (tr_tup fun x hx => ?_)).mpr hF
    obtain ⟨w, hwm, hx⟩ := List.mem_flatMap.mp hx
    exact tr_subW hrow (hw w hwm).tr x hx
theorem place_ok : ∀ (j J : Nat), j ≤ J → j ≤ 18 → PlT fu z row B Q j J := by
  intro j
  induction j with
  | zero =>
    intro J hJ hj d N S F E hd hN hS hF
    rw [subT_num hd] at hF
    obtain ⟨i, rfl, h0, h1⟩ := hd
    obtain ⟨N', rfl⟩ : ∃ N', N = N' + 1 := ⟨N - 1, by omega⟩
    rw [den_tip]
    simp only [b_thing_in_place, ofString_inj, wp_ok, wp_ret, wp_stuck, wp_bad, wp_bnd, wp_if, wp_fif, wps_ok_nx, wps_ok_rt, wps_ok_bk, wps_ok_ct, wps_ok_xc, wps_bad, wps_lft, wps_seq, wps_nil, wps_ret, wps_expr, wps_asg, wps_if, wp_run, wps_for, wps_while, wp_comp, wp_var, wp_C, wp_bin, wp_un, wp_T, wp_Tb, wp_asBl, wp_truthBl, wp_bAnd, wp_bOr, wp_bNot, wp_eIf, wp_eAnd, wp_eOr, wp_eNot, blCase_bl, wp_chain, wp_aNil, wp_aCons, wp_tup, wp_lst, wp_lstM, wp_call, wp_cl1, wp_cl2, wp_cl3, wp_cl4, wp_cl5, wp_meth, wp_isi, wp_oNone, wp_oSome, wp_sl, wp_it, wp_range1, wp_range2, wp_bYes, gEq_str, gNe_str, gEq_int, gNe_int, gEq_bl, gNe_bl, gIs_bl, gIsNot_bl, gAdd_int, gSub_int, gC_int, gI_int, gAdd_str, gAdd_tup, gAdd_lst, gNeg_int, gIx_tup, gIx_lst, gLen_tup, gLen_lst, gLen_str, gInt_int, gInt_bl, gTuple_lst, gTuple_tup, gList_lst, gList_tup, gSl_tup, gSl_lst, gSl_fl, gSl_str, srcL_tup, srcL_lst, srcL_fl, srcL_str, srcR1_int, typN, startR, List.map_cons, List.map_nil, List.length_cons, List.length_nil, Nat.reduceAdd, Nat.reduceSub, Nat.zero_add, Nat.sub_self, Nat.sub_zero, List.replicate_zero, List.replicate_succ, List.cons_append, List.nil_append, List.append_nil, List.getElem?_cons_zero, List.getElem?_cons_succ, List.set_cons_zero, List.set_cons_succ, List.set_nil, List.getElem?_nil, Option.some.injEq, exists_eq_left', exists_eq_left, exists_eq_right, reduceCtorEq, false_and, and_false, true_and, and_true, exists_false, exists_const, wipeR, Nat.zero_le, String.reduceEq, D.int.injEq, D.str.injEq, D.bl.injEq, atI_0, atI_1, atI_2, atI_3, atI_4, beq_self_eq_true, not_true_eq_false, not_false_eq_true, Int.cast_ofNat_Int, Int.reduceEq, Int.reduceLE, Int.reduceLT, Int.reduceAdd, Int.reduceSub, Int.reduceMul, Int.reduceNeg, if_true, if_false, ite_true, ite_false, Bool.false_eq_true, if_neg, if_pos, decide_eq_true_eq, Bool.not_eq_true', decide_eq_false_iff_not, eq_self_iff_true, decide_true, decide_false, Bool.not_true, Bool.not_false]
    exact (fin_trO hS rfl).mpr hF
  | succ j ih =>
    intro J hJ hj d N S F E hd hN hS hF
    obtain ⟨N', rfl⟩ : ∃ N', N = N' + 1 := ⟨N - 1, by omega⟩
    obtain ⟨J', rfl⟩ : ∃ J', J = J' + 1 := ⟨J - 1, by omega⟩
    rw [den_tip]
    have hdt := hd.tr
    rcases hd with ⟨i, rfl, h0, h1⟩ | ⟨ws, rfl, hl, hw⟩ | ⟨ts, rfl, hl, ht⟩
    · simp only [b_thing_in_place, ofString_inj, wp_ok, wp_ret, wp_stuck, wp_bad, wp_bnd, wp_if, wp_fif, wps_ok_nx, wps_ok_rt, wps_ok_bk, wps_ok_ct, wps_ok_xc, wps_bad, wps_lft, wps_seq, wps_nil, wps_ret, wps_expr, wps_asg, wps_if, wp_run, wps_for, wps_while, wp_comp, wp_var, wp_C, wp_bin, wp_un, wp_T, wp_Tb, wp_asBl, wp_truthBl, wp_bAnd, wp_bOr, wp_bNot, wp_eIf, wp_eAnd, wp_eOr, wp_eNot, blCase_bl, wp_chain, wp_aNil, wp_aCons, wp_tup, wp_lst, wp_lstM, wp_call, wp_cl1, wp_cl2, wp_cl3, wp_cl4, wp_cl5, wp_meth, wp_isi, wp_oNone, wp_oSome, wp_sl, wp_it, wp_range1, wp_range2, wp_bYes, gEq_str, gNe_str, gEq_int, gNe_int, gEq_bl, gNe_bl, gIs_bl, gIsNot_bl, gAdd_int, gSub_int, gC_int, gI_int, gAdd_str, gAdd_tup, gAdd_lst, gNeg_int, gIx_tup, gIx_lst, gLen_tup, gLen_lst, gLen_str, gInt_int, gInt_bl, gTuple_lst, gTuple_tup, gList_lst, gList_tup, gSl_tup, gSl_lst, gSl_fl, gSl_str, srcL_tup, srcL_lst, srcL_fl, srcL_str, srcR1_int, typN, startR, List.map_cons, List.map_nil, List.length_cons, List.length_nil, Nat.reduceAdd, Nat.reduceSub, Nat.zero_add, Nat.sub_self, Nat.sub_zero, List.replicate_zero, List.replicate_succ, List.cons_append, List.nil_append, List.append_nil, List.getElem?_cons_zero, List.getElem?_cons_succ, List.set_cons_zero, List.set_cons_succ, List.set_nil, List.getElem?_nil, Option.some.injEq, exists_eq_left', exists_eq_left, exists_eq_right, reduceCtorEq, false_and, and_false, true_and, and_true, exists_false, exists_const, wipeR, Nat.zero_le, String.reduceEq, D.int.injEq, D.str.injEq, D.bl.injEq, atI_0, atI_1, atI_2, atI_3, atI_4, beq_self_eq_true, not_true_eq_false, not_false_eq_true, Int.cast_ofNat_Int, Int.reduceEq, Int.reduceLE, Int.reduceLT, Int.reduceAdd, Int.reduceSub, Int.reduceMul, Int.reduceNeg, if_true, if_false, ite_true, ite_false, Bool.false_eq_true, if_neg, if_pos, decide_eq_true_eq, Bool.not_eq_true', decide_eq_false_iff_not, eq_self_iff_true, decide_true, decide_false, Bool.not_true, Bool.not_false]
      rw [subT_num ⟨i, rfl, h0, h1⟩] at hF
      exact (fin_trO hS rfl).mpr hF
    · simp only [b_thing_in_place, ofString_inj, wp_ok, wp_ret, wp_stuck, wp_bad, wp_bnd, wp_if, wp_fif, wps_ok_nx, wps_ok_rt, wps_ok_bk, wps_ok_ct, wps_ok_xc, wps_bad, wps_lft, wps_seq, wps_nil, wps_ret, wps_expr, wps_asg, wps_if, wp_run, wps_for, wps_while, wp_comp, wp_var, wp_C, wp_bin, wp_un, wp_T, wp_Tb, wp_asBl, wp_truthBl, wp_bAnd, wp_bOr, wp_bNot, wp_eIf, wp_eAnd, wp_eOr, wp_eNot, blCase_bl, wp_chain, wp_aNil, wp_aCons, wp_tup, wp_lst, wp_lstM, wp_call, wp_cl1, wp_cl2, wp_cl3, wp_cl4, wp_cl5, wp_meth, wp_isi, wp_oNone, wp_oSome, wp_sl, wp_it, wp_range1, wp_range2, wp_bYes, gEq_str, gNe_str, gEq_int, gNe_int, gEq_bl, gNe_bl, gIs_bl, gIsNot_bl, gAdd_int, gSub_int, gC_int, gI_int, gAdd_str, gAdd_tup, gAdd_lst, gNeg_int, gIx_tup, gIx_lst, gLen_tup, gLen_lst, gLen_str, gInt_int, gInt_bl, gTuple_lst, gTuple_tup, gList_lst, gList_tup, gSl_tup, gSl_lst, gSl_fl, gSl_str, srcL_tup, srcL_lst, srcL_fl, srcL_str, srcR1_int, typN, startR, List.map_cons, List.map_nil, List.length_cons, List.length_nil, Nat.reduceAdd, Nat.reduceSub, Nat.zero_add, Nat.sub_self, Nat.sub_zero, List.replicate_zero, List.replicate_succ, List.cons_append, List.nil_append, List.append_nil, List.getElem?_cons_zero, List.getElem?_cons_succ, List.set_cons_zero, List.set_cons_succ, List.set_nil, List.getElem?_nil, Option.some.injEq, exists_eq_left', exists_eq_left, exists_eq_right, reduceCtorEq, false_and, and_false, true_and, and_true, exists_false, exists_const, wipeR, Nat.zero_le, String.reduceEq, D.int.injEq, D.str.injEq, D.bl.injEq, atI_0, atI_1, atI_2, atI_3, atI_4, beq_self_eq_true, not_true_eq_false, not_false_eq_true, Int.cast_ofNat_Int, Int.reduceEq, Int.reduceLE, Int.reduceLT, Int.reduceAdd, Int.reduceSub, Int.reduceMul, Int.reduceNeg, if_true, if_false, ite_true, ite_false, Bool.false_eq_true, if_neg, if_pos, decide_eq_true_eq, Bool.not_eq_true', decide_eq_false_iff_not, eq_self_iff_true, decide_true, decide_false, Bool.not_true, Bool.not_false]
      rw [subT_row] at hF
      refine words_ok hz hrow hr hB (ih J' (by omega) (by omega)) (by omega) (by omega) hl hw hS ?_
      refine ⟨small_line (by decide), (fin_trO hS ?_).mpr hF⟩
      rw [← subT_row]; exact tr_sub hrow _ _ hdt
    · simp only [b_thing_in_place, ofString_inj, wp_ok, wp_ret, wp_stuck, wp_bad, wp_bnd, wp_if, wp_fif, wps_ok_nx, wps_ok_rt, wps_ok_bk, wps_ok_ct, wps_ok_xc, wps_bad, wps_lft, wps_seq, wps_nil, wps_ret, wps_expr, wps_asg, wps_if, wp_run, wps_for, wps_while, wp_comp, wp_var, wp_C, wp_bin, wp_un, wp_T, wp_Tb, wp_asBl, wp_truthBl, wp_bAnd, wp_bOr, wp_bNot, wp_eIf, wp_eAnd, wp_eOr, wp_eNot, blCase_bl, wp_chain, wp_aNil, wp_aCons, wp_tup, wp_lst, wp_lstM, wp_call, wp_cl1, wp_cl2, wp_cl3, wp_cl4, wp_cl5, wp_meth, wp_isi, wp_oNone, wp_oSome, wp_sl, wp_it, wp_range1, wp_range2, wp_bYes, gEq_str, gNe_str, gEq_int, gNe_int, gEq_bl, gNe_bl, gIs_bl, gIsNot_bl, gAdd_int, gSub_int, gC_int, gI_int, gAdd_str, gAdd_tup, gAdd_lst, gNeg_int, gIx_tup, gIx_lst, gLen_tup, gLen_lst, gLen_str, gInt_int, gInt_bl, gTuple_lst, gTuple_tup, gList_lst, gList_tup, gSl_tup, gSl_lst, gSl_fl, gSl_str, srcL_tup, srcL_lst, srcL_fl, srcL_str, srcR1_int, typN, startR, List.map_cons, List.map_nil, List.length_cons, List.length_nil, Nat.reduceAdd, Nat.reduceSub, Nat.zero_add, Nat.sub_self, Nat.sub_zero, List.replicate_zero, List.replicate_succ, List.cons_append, List.nil_append, List.append_nil, List.getElem?_cons_zero, List.getElem?_cons_succ, List.set_cons_zero, List.set_cons_succ, List.set_nil, List.getElem?_nil, Option.some.injEq, exists_eq_left', exists_eq_left, exists_eq_right, reduceCtorEq, false_and, and_false, true_and, and_true, exists_false, exists_const, wipeR, Nat.zero_le, String.reduceEq, D.int.injEq, D.str.injEq, D.bl.injEq, atI_0, atI_1, atI_2, atI_3, atI_4, beq_self_eq_true, not_true_eq_false, not_false_eq_true, Int.cast_ofNat_Int, Int.reduceEq, Int.reduceLE, Int.reduceLT, Int.reduceAdd, Int.reduceSub, Int.reduceMul, Int.reduceNeg, if_true, if_false, ite_true, ite_false, Bool.false_eq_true, if_neg, if_pos, decide_eq_true_eq, Bool.not_eq_true', decide_eq_false_iff_not, eq_self_iff_true, decide_true, decide_false, Bool.not_true, Bool.not_false]
      rw [subT_list] at hF
      refine ⟨small_line (by omega), ?_⟩
      refine comp_pure (subT z row J') (fun t htm => ?_) ?_
      · simp only [wp_ok, wp_ret, wp_stuck, wp_bad, wp_bnd, wp_if, wp_fif, wps_ok_nx, wps_ok_rt, wps_ok_bk, wps_ok_ct, wps_ok_xc, wps_bad, wps_lft, wps_seq, wps_nil, wps_ret, wps_expr, wps_asg, wps_if, wp_run, wps_for, wps_while, wp_comp, wp_var, wp_C, wp_bin, wp_un, wp_T, wp_Tb, wp_asBl, wp_truthBl, wp_bAnd, wp_bOr, wp_bNot, wp_eIf, wp_eAnd, wp_eOr, wp_eNot, blCase_bl, wp_chain, wp_aNil, wp_aCons, wp_tup, wp_lst, wp_lstM, wp_call, wp_cl1, wp_cl2, wp_cl3, wp_cl4, wp_cl5, wp_meth, wp_isi, wp_oNone, wp_oSome, wp_sl, wp_it, wp_range1, wp_range2, wp_bYes, gEq_str, gNe_str, gEq_int, gNe_int, gEq_bl, gNe_bl, gIs_bl, gIsNot_bl, gAdd_int, gSub_int, gC_int, gI_int, gAdd_str, gAdd_tup, gAdd_lst, gNeg_int, gIx_tup, gIx_lst, gLen_tup, gLen_lst, gLen_str, gInt_int, gInt_bl, gTuple_lst, gTuple_tup, gList_lst, gList_tup, gSl_tup, gSl_lst, gSl_fl, gSl_str, srcL_tup, srcL_lst, srcL_fl, srcL_str, srcR1_int, typN, startR, List.map_cons, List.map_nil, List.length_cons, List.length_nil, Nat.reduceAdd, Nat.reduceSub, Nat.zero_add, Nat.sub_self, Nat.sub_zero, List.replicate_zero, List.replicate_succ, List.cons_append, List.nil_append, List.append_nil, List.getElem?_cons_zero, List.getElem?_cons_succ, List.set_cons_zero, List.set_cons_succ, List.set_nil, List.getElem?_nil, Option.some.injEq, exists_eq_left', exists_eq_left, exists_eq_right, reduceCtorEq, false_and, and_false, true_and, and_true, exists_false, exists_const, wipeR, Nat.zero_le, String.reduceEq, D.int.injEq, D.str.injEq, D.bl.injEq, atI_0, atI_1, atI_2, atI_3, atI_4, beq_self_eq_true, not_true_eq_false, not_false_eq_true, Int.cast_ofNat_Int, Int.reduceEq, Int.reduceLE, Int.reduceLT, Int.reduceAdd, Int.reduceSub, Int.reduceMul, Int.reduceNeg, if_true, if_false, ite_true, ite_false, Bool.false_eq_true, if_neg, if_pos, decide_eq_true_eq, Bool.not_eq_true', decide_eq_false_iff_not, eq_self_iff_true, decide_true, decide_false, Bool.not_true, Bool.not_false]
        exact ih J' (by omega) (by omega) t N' S _ _ (ht t htm) (by omega) hS ⟨rfl, rfl⟩
      · refine ⟨small_line (by decide), (fin_trO hS ?_).mpr hF⟩
        rw [← subT_list]; exact tr_sub hrow _ _ hdt
end
end K69

namespace K69
open PySem L2 DL
variable {fu n l : Nat} {R S : Sto} {F : D → Sto → Prop} {E : Exc → Sto → Prop}
/-! books -/
def entD (p : Str × List D) : D := .tup [.str p.1, .non, .tup p.2]
def bookD (B : List (Str × List D)) : D := .tup (B.map entD)
/-- z's row in a book whose names are unlike -/
def Told (B : List (Str × List D)) (z : Str) (row : List D) : Prop := (B.map (·.1)).Nodup ∧ (z, row) ∈ B ∧ B.length ≤ 1000
theorem uniq_of {z : Str} {row row' : List D} : ∀ {B : List (Str × List D)}, (B.map (·.1)).Nodup → (z, row) ∈ B → (z, row') ∈ B → row' = row
  | [], _, h, _ => by cases h
  | p :: B, hn, h1, h2 => by
    rw [List.map_cons, List.nodup_cons] at hn
    have no : ∀ r, p = (z, r) → ∀ r', (z, r') ∉ B := fun r e r' hm => hn.1 (by rw [e]; exact List.mem_map.mpr ⟨(z, r'), hm, rfl⟩)
    rcases List.mem_cons.mp h1 with e1 | m1
    · rcases List.mem_cons.mp h2 with e2 | m2
      · rw [← e1] at e2; cases e2; rfl
      · exact absurd m2 (no row e1.symm row')
    · rcases List.mem_cons.mp h2 with e2 | m2
      · exact absurd m1 (no row' e2.symm row)
      · exact uniq_of hn.2 m1 m2
theorem Told.uniq {B : List (Str × List D)} {z : Str} {row row' : List D} (h : Told B z row) (hm : (z, row') ∈ B) : row' = row := uniq_of h.1 h.2.1 hm
theorem told_ok {B : List (Str × List D)} {z : Str} {row : List D} (h : Told B z row) (htr : ∀ w ∈ row, tr w) {N : Nat} (hN : 1 ≤ N) (hS : OKS S) (hF : F (.tup row) S) : wp (den fu N i_row_told [.str z, bookD B] S) F E := by
  obtain ⟨N', rfl⟩ : ∃ N', N = N' + 1 := ⟨N - 1, by omega⟩
  show wp (runDef false 5 (b_row_told fu (den fu N')) _ _) _ _
  simp only [b_row_told, bookD, wp_ok, wp_ret, wp_stuck, wp_bad, wp_bnd, wp_if, wp_fif, wps_ok_nx, wps_ok_rt, wps_ok_bk, wps_ok_ct, wps_ok_xc, wps_bad, wps_lft, wps_seq, wps_nil, wps_ret, wps_expr, wps_asg, wps_if, wp_run, wps_for, wps_while, wp_comp, wp_var, wp_C, wp_bin, wp_un, wp_T, wp_Tb, wp_asBl, wp_truthBl, wp_bAnd, wp_bOr, wp_bNot, wp_eIf, wp_eAnd, wp_eOr, wp_eNot, blCase_bl, wp_chain, wp_aNil, wp_aCons, wp_tup, wp_lst, wp_lstM, wp_call, wp_cl1, wp_cl2, wp_cl3, wp_cl4, wp_cl5, wp_meth, wp_isi, wp_oNone, wp_oSome, wp_sl, wp_it, wp_range1, wp_range2, wp_bYes, gEq_str, gNe_str, gEq_int, gNe_int, gEq_bl, gNe_bl, gIs_bl, gIsNot_bl, gAdd_int, gSub_int, gC_int, gI_int, gAdd_str, gAdd_tup, gAdd_lst, gNeg_int, gIx_tup, gIx_lst, gLen_tup, gLen_lst, gLen_str, gInt_int, gInt_bl, gTuple_lst, gTuple_tup, gList_lst, gList_tup, gSl_tup, gSl_lst, gSl_fl, gSl_str, srcL_tup, srcL_lst, srcL_fl, srcL_str, srcR1_int, typN, startR, List.map_cons, List.map_nil, List.length_cons, List.length_nil, Nat.reduceAdd, Nat.reduceSub, Nat.zero_add, Nat.sub_self, Nat.sub_zero, List.replicate_zero, List.replicate_succ, List.cons_append, List.nil_append, List.append_nil, List.getElem?_cons_zero, List.getElem?_cons_succ, List.set_cons_zero, List.set_cons_succ, List.set_nil, List.getElem?_nil, Option.some.injEq, exists_eq_left', exists_eq_left, exists_eq_right, reduceCtorEq, false_and, and_false, true_and, and_true, exists_false, exists_const, wipeR, Nat.zero_le, String.reduceEq, D.int.injEq, D.str.injEq, D.bl.injEq, atI_0, atI_1, atI_2, atI_3, atI_4, beq_self_eq_true, not_true_eq_false, not_false_eq_true, Int.cast_ofNat_Int, Int.reduceEq, Int.reduceLE, Int.reduceLT, Int.reduceAdd, Int.reduceSub, Int.reduceMul, Int.reduceNeg, if_true, if_false, ite_true, ite_false, Bool.false_eq_true, if_neg, if_pos, decide_eq_true_eq, Bool.not_eq_true', decide_eq_false_iff_not, eq_self_iff_true, decide_true, decide_false, Bool.not_true, Bool.not_false]
  refine wps_forM (fun i ρ S' => S' = S ∧ (∃ o1 o2 o3 : Option D, ρ = [some (.str z), some (bookD B), o1, o2, o3]) ∧ ∀ p ∈ B.take i, p.1 ≠ z) (fun _ _ _ _ => trivial) ?_ ?_ ⟨rfl, ⟨none, none, none, rfl⟩, fun p hp => by simp at hp⟩
  · rintro i d ρ S' hd ⟨rfl, ⟨o1, o2, o3, rfl⟩, hI⟩
    rw [List.getElem?_map, Option.map_eq_some_iff] at hd
    obtain ⟨p, hp, rfl⟩ := hd
    refine ⟨[some (.str z), some (bookD B), some (.str p.1), some .non, some (.tup p.2)], rfl, ?_⟩
    simp only [wp_ok, wp_ret, wp_stuck, wp_bad, wp_bnd, wp_if, wp_fif, wps_ok_nx, wps_ok_rt, wps_ok_bk, wps_ok_ct, wps_ok_xc, wps_bad, wps_lft, wps_seq, wps_nil, wps_ret, wps_expr, wps_asg, wps_if, wp_run, wps_for, wps_while, wp_comp, wp_var, wp_C, wp_bin, wp_un, wp_T, wp_Tb, wp_asBl, wp_truthBl, wp_bAnd, wp_bOr, wp_bNot, wp_eIf, wp_eAnd, wp_eOr, wp_eNot, blCase_bl, wp_chain, wp_aNil, wp_aCons, wp_tup, wp_lst, wp_lstM, wp_call, wp_cl1, wp_cl2, wp_cl3, wp_cl4, wp_cl5, wp_meth, wp_isi, wp_oNone, wp_oSome, wp_sl, wp_it, wp_range1, wp_range2, wp_bYes, gEq_str, gNe_str, gEq_int, gNe_int, gEq_bl, gNe_bl, gIs_bl, gIsNot_bl, gAdd_int, gSub_int, gC_int, gI_int, gAdd_str, gAdd_tup, gAdd_lst, gNeg_int, gIx_tup, gIx_lst, gLen_tup, gLen_lst, gLen_str, gInt_int, gInt_bl, gTuple_lst, gTuple_tup, gList_lst, gList_tup, gSl_tup, gSl_lst, gSl_fl, gSl_str, srcL_tup, srcL_lst, srcL_fl, srcL_str, srcR1_int, typN, startR, List.map_cons, List.map_nil, List.length_cons, List.length_nil, Nat.reduceAdd, Nat.reduceSub, Nat.zero_add, Nat.sub_self, Nat.sub_zero, List.replicate_zero, List.replicate_succ, List.cons_append, List.nil_append, List.append_nil, List.getElem?_cons_zero, List.getElem?_cons_succ, List.set_cons_zero, List.set_cons_succ, List.set_nil, List.getElem?_nil, Option.some.injEq, exists_eq_left', exists_eq_left, exists_eq_right, reduceCtorEq, false_and, and_false, true_and, and_true, exists_false, exists_const, wipeR, Nat.zero_le, String.reduceEq, D.int.injEq, D.str.injEq, D.bl.injEq, atI_0, atI_1, atI_2, atI_3, atI_4, beq_self_eq_true, not_true_eq_false, not_false_eq_true, Int.cast_ofNat_Int, Int.reduceEq, Int.reduceLE, Int.reduceLT, Int.reduceAdd, Int.reduceSub, Int.reduceMul, Int.reduceNeg, if_true, if_false, ite_true, ite_false, Bool.false_eq_true, if_neg, if_pos, decide_eq_true_eq, Bool.not_eq_true', decide_eq_false_iff_not, eq_self_iff_true, decide_true, decide_false, Bool.not_true, Bool.not_false]
    by_cases hz : p.1 = z
    · rw [if_pos hz]
      have : p.2 = row := h.uniq (by rw [← hz]; exact List.mem_of_getElem? hp)
      rw [this]
      exact (fin_trO hS (tr_tup htr)).mpr hF
    · rw [if_neg hz]
      refine ⟨⟨_, _, _, rfl⟩, fun q hq => ?_⟩
      rw [List.take_succ, hp] at hq
      rcases List.mem_append.mp hq with hq | hq
      · exact hI q hq
      · have : q = p := by simpa using hq
        rw [this]; exact hz
  · rintro ρ S' ⟨rfl, ⟨o1, o2, o3, rfl⟩, hI⟩
    exfalso
    rw [List.length_map, List.take_length] at hI
    exact hI _ h.2.1 rfl
section
variable {z : Str} {row : List D} {B : Nat} {Q : Str → Prop} {Bk : List (Str × List D)} (hk : Told Bk z row) (hz : PyData.strOk z = true) (hrow : ∀ w ∈ row, tr w) (hr : row.length ≤ 2000) (hB : B ≤ 2000)
include hk hz hrow hr hB
theorem in_place_ok {j J : Nat} (hjJ : j ≤ J) (hj : j ≤ 18) {ws : List D} {N : Nat} (hN : 2 * j + 4 ≤ N) (hl : ws.length ≤ B) (hw : ∀ w ∈ ws, WdG B Q j w) (hS : OKS S) (hF : F (.tup (ws.flatMap (subW z row J))) S) : wp (den fu N i_in_place [.tup ws, .str z, bookD Bk] S) F E := by
  obtain ⟨N', rfl⟩ : ∃ N', N = N' + 1 := ⟨N - 1, by omega⟩
  show wp (runDef false 3 (b_in_place fu (den fu N')) _ _) _ _
  simp only [b_in_place, wp_ok, wp_ret, wp_stuck, wp_bad, wp_bnd, wp_if, wp_fif, wps_ok_nx, wps_ok_rt, wps_ok_bk, wps_ok_ct, wps_ok_xc, wps_bad, wps_lft, wps_seq, wps_nil, wps_ret, wps_expr, wps_asg, wps_if, wp_run, wps_for, wps_while, wp_comp, wp_var, wp_C, wp_bin, wp_un, wp_T, wp_Tb, wp_asBl, wp_truthBl, wp_bAnd, wp_bOr, wp_bNot, wp_eIf, wp_eAnd, wp_eOr, wp_eNot, blCase_bl, wp_chain, wp_aNil, wp_aCons, wp_tup, wp_lst, wp_lstM, wp_call, wp_cl1, wp_cl2, wp_cl3, wp_cl4, wp_cl5, wp_meth, wp_isi, wp_oNone, wp_oSome, wp_sl, wp_it, wp_range1, wp_range2, wp_bYes, gEq_str, gNe_str, gEq_int, gNe_int, gEq_bl, gNe_bl, gIs_bl, gIsNot_bl, gAdd_int, gSub_int, gC_int, gI_int, gAdd_str, gAdd_tup, gAdd_lst, gNeg_int, gIx_tup, gIx_lst, gLen_tup, gLen_lst, gLen_str, gInt_int, gInt_bl, gTuple_lst, gTuple_tup, gList_lst, gList_tup, gSl_tup, gSl_lst, gSl_fl, gSl_str, srcL_tup, srcL_lst, srcL_fl, srcL_str, srcR1_int, typN, startR, List.map_cons, List.map_nil, List.length_cons, List.length_nil, Nat.reduceAdd, Nat.reduceSub, Nat.zero_add, Nat.sub_self, Nat.sub_zero, List.replicate_zero, List.replicate_succ, List.cons_append, List.nil_append, List.append_nil, List.getElem?_cons_zero, List.getElem?_cons_succ, List.set_cons_zero, List.set_cons_succ, List.set_nil, List.getElem?_nil, Option.some.injEq, exists_eq_left', exists_eq_left, exists_eq_right, reduceCtorEq, false_and, and_false, true_and, and_true, exists_false, exists_const, wipeR, Nat.zero_le, String.reduceEq, D.int.injEq, D.str.injEq, D.bl.injEq, atI_0, atI_1, atI_2, atI_3, atI_4, beq_self_eq_true, not_true_eq_false, not_false_eq_true, Int.cast_ofNat_Int, Int.reduceEq, Int.reduceLE, Int.reduceLT, Int.reduceAdd, Int.reduceSub, Int.reduceMul, Int.reduceNeg, if_true, if_false, ite_true, ite_false, Bool.false_eq_true, if_neg, if_pos, decide_eq_true_eq, Bool.not_eq_true', decide_eq_false_iff_not, eq_self_iff_true, decide_true, decide_false, Bool.not_true, Bool.not_false]
  refine told_ok hk hrow (by omega) hS ?_
  refine words_ok hz hrow hr hB (place_ok hz hrow hr hB j J hjJ hj) hj (by omega) hl hw hS ?_
  refine (fin_trO hS (tr_tup fun x hx => ?_)).mpr hF
  obtain ⟨w, hwm, hx⟩ := List.mem_flatMap.mp hx
  exact tr_subW hrow (hw w hwm).tr x hx
theorem stack_in_place_ok {j J : Nat} (hjJ : j ≤ J) (hj : j ≤ 18) {ts : List D} {N : Nat} (hN : 2 * j + 4 ≤ N) (hl : ts.length ≤ B) (ht : ∀ t ∈ ts, ThG B Q j t) (hS : OKS S) (hF : F (.tup (ts.map (subT z row J))) S) : wp (den fu N i_stack_in_place [.tup ts, .str z, bookD Bk] S) F E := by
  obtain ⟨N', rfl⟩ : ∃ N', N = N' + 1 := ⟨N - 1, by omega⟩
  show wp (runDef false 4 (b_stack_in_place fu (den fu N')) _ _) _ _
  simp only [b_stack_in_place, wp_ok, wp_ret, wp_stuck, wp_bad, wp_bnd, wp_if, wp_fif, wps_ok_nx, wps_ok_rt, wps_ok_bk, wps_ok_ct, wps_ok_xc, wps_bad, wps_lft, wps_seq, wps_nil, wps_ret, wps_expr, wps_asg, wps_if, wp_run, wps_for, wps_while, wp_comp, wp_var, wp_C, wp_bin, wp_un, wp_T, wp_Tb, wp_asBl, wp_truthBl, wp_bAnd, wp_bOr, wp_bNot, wp_eIf, wp_eAnd, wp_eOr, wp_eNot, blCase_bl, wp_chain, wp_aNil, wp_aCons, wp_tup, wp_lst, wp_lstM, wp_call, wp_cl1, wp_cl2, wp_cl3, wp_cl4, wp_cl5, wp_meth, wp_isi, wp_oNone, wp_oSome, wp_sl, wp_it, wp_range1, wp_range2, wp_bYes, gEq_str, gNe_str, gEq_int, gNe_int, gEq_bl, gNe_bl, gIs_bl, gIsNot_bl, gAdd_int, gSub_int, gC_int, gI_int, gAdd_str, gAdd_tup, gAdd_lst, gNeg_int, gIx_tup, gIx_lst, gLen_tup, gLen_lst, gLen_str, gInt_int, gInt_bl, gTuple_lst, gTuple_tup, gList_lst, gList_tup, gSl_tup, gSl_lst, gSl_fl, gSl_str, srcL_tup, srcL_lst, srcL_fl, srcL_str, srcR1_int, typN, startR, List.map_cons, List.map_nil, List.length_cons, List.length_nil, Nat.reduceAdd, Nat.reduceSub, Nat.zero_add, Nat.sub_self, Nat.sub_zero, List.replicate_zero, List.replicate_succ, List.cons_append, List.nil_append, List.append_nil, List.getElem?_cons_zero, List.getElem?_cons_succ, List.set_cons_zero, List.set_cons_succ, List.set_nil, List.getElem?_nil, Option.some.injEq, exists_eq_left', exists_eq_left, exists_eq_right, reduceCtorEq, false_and, and_false, true_and, and_true, exists_false, exists_const, wipeR, Nat.zero_le, String.reduceEq, D.int.injEq, D.str.injEq, D.bl.injEq, atI_0, atI_1, atI_2, atI_3, atI_4, beq_self_eq_true, not_true_eq_false, not_false_eq_true, Int.cast_ofNat_Int, Int.reduceEq, Int.reduceLE, Int.reduceLT, Int.reduceAdd, Int.reduceSub, Int.reduceMul, Int.reduceNeg, if_true, if_false, ite_true, ite_false, Bool.false_eq_true, if_neg, if_pos, decide_eq_true_eq, Bool.not_eq_true', decide_eq_false_iff_not, eq_self_iff_true, decide_true, decide_false, Bool.not_true, Bool.not_false]
  refine ⟨small_line (by omega), ?_⟩
  refine comp_pure (subT z row J) (fun t htm => ?_) ?_
  · simp only [wp_ok, wp_ret, wp_stuck, wp_bad, wp_bnd, wp_if, wp_fif, wps_ok_nx, wps_ok_rt, wps_ok_bk, wps_ok_ct, wps_ok_xc, wps_bad, wps_lft, wps_seq, wps_nil, wps_ret, wps_expr, wps_asg, wps_if, wp_run, wps_for, wps_while, wp_comp, wp_var, wp_C, wp_bin, wp_un, wp_T, wp_Tb, wp_asBl, wp_truthBl, wp_bAnd, wp_bOr, wp_bNot, wp_eIf, wp_eAnd, wp_eOr, wp_eNot, blCase_bl, wp_chain, wp_aNil, wp_aCons, wp_tup, wp_lst, wp_lstM, wp_call, wp_cl1, wp_cl2, wp_cl3, wp_cl4, wp_cl5, wp_meth, wp_isi, wp_oNone, wp_oSome, wp_sl, wp_it, wp_range1, wp_range2, wp_bYes, gEq_str, gNe_str, gEq_int, gNe_int, gEq_bl, gNe_bl, gIs_bl, gIsNot_bl, gAdd_int, gSub_int, gC_int, gI_int, gAdd_str, gAdd_tup, gAdd_lst, gNeg_int, gIx_tup, gIx_lst, gLen_tup, gLen_lst, gLen_str, gInt_int, gInt_bl, gTuple_lst, gTuple_tup, gList_lst, gList_tup, gSl_tup, gSl_lst, gSl_fl, gSl_str, srcL_tup, srcL_lst, srcL_fl, srcL_str, srcR1_int, typN, startR, List.map_cons, List.map_nil, List.length_cons, List.length_nil, Nat.reduceAdd, Nat.reduceSub, Nat.zero_add, Nat.sub_self, Nat.sub_zero, List.replicate_zero, List.replicate_succ, List.cons_append, List.nil_append, List.append_nil, List.getElem?_cons_zero, List.getElem?_cons_succ, List.set_cons_zero, List.set_cons_succ, List.set_nil, List.getElem?_nil, Option.some.injEq, exists_eq_left', exists_eq_left, exists_eq_right, reduceCtorEq, false_and, and_false, true_and, and_true, exists_false, exists_const, wipeR, Nat.zero_le, String.reduceEq, D.int.injEq, D.str.injEq, D.bl.injEq, atI_0, atI_1, atI_2, atI_3, atI_4, beq_self_eq_true, not_true_eq_false, not_false_eq_true, Int.cast_ofNat_Int, Int.reduceEq, Int.reduceLE, Int.reduceLT, Int.reduceAdd, Int.reduceSub, Int.reduceMul, Int.reduceNeg, if_true, if_false, ite_true, ite_false, Bool.false_eq_true, if_neg, if_pos, decide_eq_true_eq, Bool.not_eq_true', decide_eq_false_iff_not, eq_self_iff_true, decide_true, decide_false, Bool.not_true, Bool.not_false]
    refine told_ok hk hrow (by omega) hS ?_
    exact place_ok hz hrow hr hB j J hjJ hj t N' S _ _ (ht t htm) (by omega) hS ⟨rfl, rfl⟩
  · refine (fin_trO hS (tr_tup fun x hx => ?_)).mpr hF
    obtain ⟨t, htm, rfl⟩ := List.mem_map.mp hx
    exact tr_sub hrow J t (ht t htm).tr
end
/-! what is left behind stays such a row -/
theorem ThG.mono {B B' : Nat} {Q Q' : Str → Prop} (hB : B ≤ B') (hQ : ∀ z, Q z → Q' z) : ∀ {j j' : Nat} {d : D}, j ≤ j' → ThG B Q j d → ThG B' Q' j' d
  | 0, 0, d, _, h => h
  | 0, j' + 1, d, _, h => .inl h
  | j + 1, 0, d, hj, h => absurd hj (by omega)
  | j + 1, j' + 1, d, hj, h => by
    rcases h with h | ⟨ws, e, hl, h⟩ | ⟨ts, e, hl, h⟩
    · exact .inl h
    · refine .inr (.inl ⟨ws, e, by omega, fun w hw => ?_⟩)
      rcases h w hw with ⟨y, e, hy, q⟩ | ⟨t, e, q⟩
      · exact .inl ⟨y, e, hy, hQ y q⟩
      · exact .inr ⟨t, e, ThG.mono hB hQ (by omega) q⟩
    · exact .inr (.inr ⟨ts, e, by omega, fun t ht => ThG.mono hB hQ (by omega) (h t ht)⟩)
theorem WdG.mono {B B' : Nat} {Q Q' : Str → Prop} (hB : B ≤ B') (hQ : ∀ z, Q z → Q' z) {j j' : Nat} {w : D} (hj : j ≤ j') (h : WdG B Q j w) : WdG B' Q' j' w := by
  rcases h with ⟨y, e, hy, q⟩ | ⟨t, e, q⟩
  · exact .inl ⟨y, e, hy, hQ y q⟩
  · exact .inr ⟨t, e, q.mono hB hQ hj⟩
section
variable {z : Str} {row : List D} {B Br jr : Nat} {Q Qr Q' : Str → Prop} (hQ : ∀ y, Q y → y ≠ z → Q' y) (hrow : ∀ w ∈ row, WdG Br Qr jr w) (hQr : ∀ y, Qr y → Q' y) (hl : row.length ≤ Br)
include hQ hrow hQr hl
theorem subW_good {j J : Nat} (hT : ∀ t, ThG B Q j t → ThG (B * (Br + 1) + Br) Q' (j + jr) (subT z row J t)) {w : D} (hw : WdG B Q j w) : ∀ x ∈ subW z row J w, WdG (B * (Br + 1) + Br) Q' (j + jr) x := by
  intro x hx
  rcases hw with ⟨y, rfl, hy, q⟩ | ⟨t, rfl, q⟩
  · unfold subW at hx
    simp only at hx
    split at hx
    · exact (hrow x hx).mono (by omega) hQr (by omega)
    · rename_i hne
      rw [List.mem_singleton.mp hx]
      exact .inl ⟨y, rfl, hy, hQ y q hne⟩
  · have : x = .tup [.str "push", subT z row J t] := List.mem_singleton.mp hx
    rw [this]
    exact .inr ⟨_, rfl, hT t q⟩
theorem flat_le {J : Nat} {ws : List D} (h : ws.length ≤ B) : (ws.flatMap (subW z row J)).length ≤ B * (Br + 1) + Br := by
  have h1 := flat_len (z := z) (row := row) (J := J) ws
  have h2 : ws.length * (row.length + 1) ≤ B * (Br + 1) := Nat.mul_le_mul h (by omega)
  omega
theorem subT_good : ∀ {j J : Nat}, j ≤ J → ∀ t, ThG B Q j t → ThG (B * (Br + 1) + Br) Q' (j + jr) (subT z row J t)
  | 0, J, _, t, h => by rw [subT_num h]; exact ThG.num h _
  | j + 1, J + 1, hJ, t, h => by
    rcases h with h | ⟨ws, rfl, hlw, hw⟩ | ⟨ts, rfl, hlt, ht⟩
    · rw [subT_num h]; exact ThG.num h _
    · rw [subT_row, show j + 1 + jr = (j + jr) + 1 by omega]
      refine .inr (.inl ⟨_, rfl, flat_le hQ hrow hQr hl hlw, fun x hx => ?_⟩)
      obtain ⟨w, hwm, hx⟩ := List.mem_flatMap.mp hx
      exact subW_good hQ hrow hQr hl (fun t ht => subT_good (by omega) t ht) (hw w hwm) x hx
    · rw [subT_list, show j + 1 + jr = (j + jr) + 1 by omega]
      refine .inr (.inr ⟨_, rfl, ?_, fun x hx => ?_⟩)
      · rw [List.length_map]
        have : B * 1 ≤ B * (Br + 1) := Nat.mul_le_mul_left B (by omega)
        omega
      · obtain ⟨t, htm, rfl⟩ := List.mem_map.mp hx
        exact subT_good (by omega) t (ht t htm)
end
end K69

namespace K69
open PySem L2 DL
/-! putting in place, plainly -/
section
variable {z : Str} {row : List D} {B : Nat} {Q : Str → Prop} (hQ : ∀ y, Q y → y ≠ z)
include hQ
theorem subW_id {j J : Nat} (hT : ∀ t, ThG B Q j t → subT z row J t = t) {w : D} (hw : WdG B Q j w) : subW z row J w = [w] := by
  rcases hw with ⟨y, rfl, _, q⟩ | ⟨t, rfl, q⟩
  · unfold subW
    simp only [hQ y q, if_false]
  · show [D.tup [.str "push", subT z row J t]] = _
    rw [hT t q]
theorem flat_id {J : Nat} : ∀ {ws : List D}, (∀ w ∈ ws, subW z row J w = [w]) → ws.flatMap (subW z row J) = ws
  | [], _ => rfl
  | w :: ws, h => by
    rw [List.flatMap_cons, h w List.mem_cons_self, flat_id fun w hw => h w (List.mem_cons_of_mem _ hw)]; rfl
theorem subT_id : ∀ {j J : Nat} {t : D}, ThG B Q j t → subT z row J t = t
  | _, 0, _, _ => rfl
  | 0, J + 1, t, h => subT_num h
  | j + 1, J + 1, t, h => by
    rcases h with h | ⟨ws, rfl, _, hw⟩ | ⟨ts, rfl, _, ht⟩
    · exact subT_num h
    · rw [subT_row, flat_id hQ fun w hwm => subW_id hQ (fun t ht => subT_id ht) (hw w hwm)]
    · rw [subT_list]
      congr 3
      exact congrArg D.tup ((List.map_congr_left fun t htm => subT_id (ht t htm)).trans (List.map_id _))
theorem words_id {j J : Nat} {ws : List D} (hw : ∀ w ∈ ws, WdG B Q j w) : ws.flatMap (subW z row J) = ws := flat_id hQ fun w hwm => subW_id hQ (fun t ht => subT_id hQ ht) (hw w hwm)
end
/-! both orders -/
section
variable {zf zl : Str} {rf rl : List D} {B : Nat} {Q : Str → Prop} {Bf jf : Nat} {Qf : Str → Prop} (hrf : ∀ w ∈ rf, WdG Bf Qf jf w) (hf : ∀ y, Qf y → y ≠ zf) (hl : ∀ y, Qf y → y ≠ zl) (same : zf = zl → rf = rl)
include hrf hf hl same
theorem comm_W {j J : Nat} (hT : ∀ t, ThG B Q j t → subT zf rf J (subT zl rl J (subT zf rf J t)) = subT zf rf J (subT zl rl J t)) {w : D} (hw : WdG B Q j w) :
    ((subW zf rf J w).flatMap (subW zl rl J)).flatMap (subW zf rf J) = (subW zl rl J w).flatMap (subW zf rf J) := by
  rcases hw with ⟨y, rfl, _, q⟩ | ⟨t, rfl, q⟩
  · by_cases hy : y = zf
    · have e1 : subW zf rf J (.str y) = rf := by unfold subW; simp only [hy, if_true]
      rw [e1, words_id hl hrf, words_id hf hrf]
      by_cases hz : y = zl
      · have e2 : subW zl rl J (.str y) = rl := by unfold subW; simp only [hz, if_true]
        rw [e2, ← same (hy.symm.trans hz), words_id hf hrf]
      · have e2 : subW zl rl J (.str y) = [.str y] := by unfold subW; simp only [hz, if_false]
        rw [e2]
        simp only [List.flatMap_cons, List.flatMap_nil, List.append_nil, e1]
    · have e1 : subW zf rf J (.str y) = [.str y] := by unfold subW; simp only [hy, if_false]
      rw [e1]
      simp only [List.flatMap_cons, List.flatMap_nil, List.append_nil]
  · show [D.tup [.str "push", subT zf rf J (subT zl rl J (subT zf rf J t))]] = [D.tup [.str "push", subT zf rf J (subT zl rl J t)]]
    rw [hT t q]
theorem comm_flat {J : Nat} : ∀ {ws : List D}, (∀ w ∈ ws, ((subW zf rf J w).flatMap (subW zl rl J)).flatMap (subW zf rf J) = (subW zl rl J w).flatMap (subW zf rf J)) →
    ((ws.flatMap (subW zf rf J)).flatMap (subW zl rl J)).flatMap (subW zf rf J) = (ws.flatMap (subW zl rl J)).flatMap (subW zf rf J)
  | [], _ => rfl
  | w :: ws, h => by
    simp only [List.flatMap_cons, List.flatMap_append]
    rw [h w List.mem_cons_self, comm_flat fun w hw => h w (List.mem_cons_of_mem _ hw)]
theorem comm_T : ∀ {j J : Nat} {t : D}, ThG B Q j t → subT zf rf J (subT zl rl J (subT zf rf J t)) = subT zf rf J (subT zl rl J t)
  | _, 0, _, _ => rfl
  | 0, J + 1, t, h => by rw [subT_num h, subT_num h, subT_num h]
  | j + 1, J + 1, t, h => by
    rcases h with h | ⟨ws, rfl, _, hw⟩ | ⟨ts, rfl, _, ht⟩
    · rw [subT_num h, subT_num h, subT_num h]
    · rw [subT_row, subT_row, subT_row, subT_row, subT_row, comm_flat hrf hf hl same fun w hwm => comm_W hrf hf hl same (fun t ht => comm_T ht) (hw w hwm)]
    · rw [subT_list, subT_list, subT_list, subT_list, subT_list]
      simp only [List.map_map]
      congr 3
      exact congrArg D.tup (List.map_congr_left fun t htm => comm_T (ht t htm))
theorem comm_words {j J : Nat} {ws : List D} (hw : ∀ w ∈ ws, WdG B Q j w) : ((ws.flatMap (subW zf rf J)).flatMap (subW zl rl J)).flatMap (subW zf rf J) = (ws.flatMap (subW zl rl J)).flatMap (subW zf rf J) :=
  comm_flat hrf hf hl same fun w hwm => comm_W hrf hf hl same (fun t ht => comm_T hrf hf hl same ht) (hw w hwm)
end
end K69

namespace K69
open PySem L2 DL
/-! tokens, and putting in place -/
theorem flat_congr {α β : Type} {f g : α → List β} : ∀ {l : List α}, (∀ x ∈ l, f x = g x) → l.flatMap f = l.flatMap g
  | [], _ => rfl
  | x :: l, h => by
    rw [List.flatMap_cons, List.flatMap_cons, h x List.mem_cons_self, flat_congr fun y hy => h y (List.mem_cons_of_mem _ hy)]
theorem tokW_of {B : Nat} {Q : Str → Prop} {j J J' : Nat} (hT : ∀ t, ThG B Q j t → tokT J t = tokT J' t) {w : D} (hw : WdG B Q j w) : tokW J w = tokW J' w := by
  rcases hw with ⟨y, rfl, _⟩ | ⟨t, rfl, q⟩
  · rfl
  · exact hT t q
theorem tokT_ind {B : Nat} {Q : Str → Prop} : ∀ {j J J' : Nat} {t : D}, j ≤ J → j ≤ J' → ThG B Q j t → tokT J t = tokT J' t
  | 0, J, J', t, _, _, h => by obtain ⟨i, rfl, _⟩ := h; rw [tokT_num, tokT_num]
  | j + 1, J + 1, J' + 1, t, h1, h2, h => by
    rcases h with ⟨i, rfl, _⟩ | ⟨ws, rfl, _, hw⟩ | ⟨ts, rfl, _, ht⟩
    · rw [tokT_num, tokT_num]
    · rw [tokT_row, tokT_row, flat_congr (g := tokW J') fun w hwm => tokW_of (fun t ht => tokT_ind (by omega) (by omega) ht) (hw w hwm)]
    · rw [tokT_list, tokT_list, flat_congr (g := tokT J') fun t htm => tokT_ind (by omega) (by omega) (ht t htm)]
theorem toks_ind {B : Nat} {Q : Str → Prop} {j J J' : Nat} {ws : List D} (h1 : j ≤ J) (h2 : j ≤ J') (hw : ∀ w ∈ ws, WdG B Q j w) : ws.flatMap (tokW J) = ws.flatMap (tokW J') :=
  flat_congr fun w hwm => tokW_of (fun t ht => tokT_ind h1 h2 ht) (hw w hwm)
def rep (z : Str) (tl : List Str) (w : Str) : List Str := if w = z then tl else [w]
def NoTok (z : Str) : Prop := z ≠ Str.ofString "[" ∧ z ≠ Str.ofString "]" ∧ z ≠ Str.ofString "{" ∧ z ≠ Str.ofString "}" ∧ ∀ i : Int, 0 ≤ i → istr i ≠ z
theorem rep_no {z : Str} {tl : List Str} {w : Str} (h : w ≠ z) : rep z tl w = [w] := by unfold rep; rw [if_neg h]
section
variable {z : Str} {row : List D} {tl : List Str} {B jr : Nat} {Q : Str → Prop} (hz : NoTok z) (hr : ∀ K, jr ≤ K → row.flatMap (tokW K) = tl)
include hz hr
theorem tok_subW {j J K : Nat} (hK : jr ≤ K) (hT : ∀ t, ThG B Q j t → tokT K (subT z row J t) = (tokT K t).flatMap (rep z tl)) {w : D} (hw : WdG B Q j w) : (subW z row J w).flatMap (tokW K) = (tokW K w).flatMap (rep z tl) := by
  rcases hw with ⟨y, rfl, _⟩ | ⟨t, rfl, q⟩
  · by_cases hy : y = z
    · have e : subW z row J (.str y) = row := by unfold subW; simp only [hy, if_true]
      rw [e, hr K hK]
      show tl = [y].flatMap (rep z tl)
      simp [rep, hy]
    · have e : subW z row J (.str y) = [.str y] := by unfold subW; simp only [hy, if_false]
      rw [e]
      show [y] = [y].flatMap (rep z tl)
      simp [rep, hy]
  · show tokT K (subT z row J t) ++ [] = (tokT K t).flatMap (rep z tl)
    rw [List.append_nil, hT t q]
theorem tok_flat {J K : Nat} {ws : List D} (h : ∀ w ∈ ws, (subW z row J w).flatMap (tokW K) = (tokW K w).flatMap (rep z tl)) : (ws.flatMap (subW z row J)).flatMap (tokW K) = (ws.flatMap (tokW K)).flatMap (rep z tl) := by
  rw [List.flatMap_assoc, List.flatMap_assoc]
  exact flat_congr h
theorem tok_subT : ∀ {j J K : Nat} {t : D}, j ≤ J → j + jr ≤ K → ThG B Q j t → tokT K (subT z row J t) = (tokT K t).flatMap (rep z tl)
  | 0, J, K, t, _, _, h => by
    rw [subT_num h]
    obtain ⟨i, rfl, hi, _⟩ := h
    rw [tokT_num]
    simp only [List.flatMap_cons, List.flatMap_nil, rep_no (hz.2.2.2.2 i hi), List.append_nil]
  | j + 1, 0, K, t, hJ, _, _ => absurd hJ (by omega)
  | j + 1, J + 1, 0, t, _, hK, _ => absurd hK (by omega)
  | j + 1, J + 1, K + 1, t, hJ, hK, h => by
    rcases h with ⟨i, rfl, hi, hi2⟩ | ⟨ws, rfl, _, hw⟩ | ⟨ts, rfl, _, ht⟩
    · rw [subT_num ⟨i, rfl, hi, hi2⟩, tokT_num]
      simp only [List.flatMap_cons, List.flatMap_nil, rep_no (hz.2.2.2.2 i hi), List.append_nil]
    · rw [subT_row, tokT_row, tokT_row, tok_flat hz hr fun w hwm => tok_subW hz hr (by omega) (fun t ht => tok_subT (by omega) (by omega) ht) (hw w hwm)]
      simp only [List.flatMap_append, List.flatMap_cons, List.flatMap_nil, rep_no hz.1.symm, rep_no hz.2.1.symm, List.append_nil, List.cons_append, List.nil_append]
    · rw [subT_list, tokT_list, tokT_list]
      simp only [List.flatMap_append, List.flatMap_cons, List.flatMap_nil, rep_no hz.2.2.1.symm, rep_no hz.2.2.2.1.symm, List.append_nil, List.cons_append, List.nil_append, List.flatMap_assoc, List.flatMap_map]
      rw [flat_congr (g := fun t => (tokT K t).flatMap (rep z tl)) fun t htm => tok_subT (by omega) (by omega) (ht t htm)]
theorem tok_words {j J K : Nat} (hJ : j ≤ J) (hK : j + jr ≤ K) {ws : List D} (hw : ∀ w ∈ ws, WdG B Q j w) : (ws.flatMap (subW z row J)).flatMap (tokW K) = (ws.flatMap (tokW K)).flatMap (rep z tl) :=
  tok_flat hz hr fun w hwm => tok_subW hz hr (by omega) (fun t ht => tok_subT hz hr hJ hK ht) (hw w hwm)
theorem tok_stack {j J K : Nat} (hJ : j ≤ J) (hK : j + jr ≤ K) {ts : List D} (ht : ∀ t ∈ ts, ThG B Q j t) : (ts.map (subT z row J)).flatMap (tokT K) = (ts.flatMap (tokT K)).flatMap (rep z tl) := by
  rw [List.flatMap_map, List.flatMap_assoc]
  exact flat_congr fun t htm => tok_subT hz hr hJ hK (ht t htm)
end
end K69

namespace K69
open PySem L2 DL
variable {fu n l : Nat} {R S : Sto} {F : D → Sto → Prop} {E : Exc → Sto → Prop}
/-! texts shown -/
def tokI (J : Nat) (d : D) : List Str := match d with
  | .str y => [y]
  | .tup [.str k, t] => if k = Str.ofString "push" then tokT J t else tokT J (.tup [.str k, t])
  | _ => []
def msI (J : Nat) (d : D) : Nat := match d with
  | .str _ => 2
  | .tup [.str k, t] => if k = Str.ofString "push" then 2 * (tokT J t).length else 2 * (tokT J (.tup [.str k, t])).length - 1
  | _ => 0
def ItG (B : Nat) (Q : Str → Prop) (J : Nat) (d : D) : Prop := (∃ y, d = .str y ∧ PyData.strOk y = true) ∨ (∃ j t, j ≤ J ∧ d = .tup [.str "push", t] ∧ ThG B Q j t) ∨ ∃ j, j ≤ J ∧ ThG B Q j d
theorem tok_pos {B : Nat} {Q : Str → Prop} : ∀ {j J : Nat} {t : D}, j ≤ J → ThG B Q j t → 1 ≤ (tokT J t).length
  | 0, J, t, _, h => by obtain ⟨i, rfl, _⟩ := h; rw [tokT_num]; exact Nat.le_refl _
  | j + 1, J + 1, t, _, h => by
    rcases h with ⟨i, rfl, _⟩ | ⟨ws, rfl, _⟩ | ⟨ts, rfl, _⟩
    · rw [tokT_num]; exact Nat.le_refl _
    · rw [tokT_row]; simp
    · rw [tokT_list]; simp
theorem tokI_th {B : Nat} {Q : Str → Prop} {j J : Nat} {t : D} (h : ThG B Q j t) : tokI J t = tokT J t ∧ msI J t = 2 * (tokT J t).length - 1 := by
  have key : ∀ (k : String) (x : D), k ≠ "push" → tokI J (.tup [.str k, x]) = tokT J (.tup [.str k, x]) ∧ msI J (.tup [.str k, x]) = 2 * (tokT J (.tup [.str k, x])).length - 1 := fun k x hk => by
    have : ¬ Str.ofString k = Str.ofString "push" := fun e => hk (ofString_inj.mp e)
    unfold tokI msI
    simp only [this, if_false, and_self]
  cases j with
  | zero => obtain ⟨i, rfl, _⟩ := h; exact key "number" _ (by decide)
  | succ j =>
    rcases h with ⟨i, rfl, _⟩ | ⟨ws, rfl, _⟩ | ⟨ts, rfl, _⟩
    · exact key "number" _ (by decide)
    · exact key "row" _ (by decide)
    · exact key "list" _ (by decide)
theorem tokI_push {J : Nat} {t : D} : tokI J (.tup [.str "push", t]) = tokT J t ∧ msI J (.tup [.str "push", t]) = 2 * (tokT J t).length := by
  unfold tokI msI
  simp only [if_true, and_self]
theorem ItG.sh {B : Nat} {Q : Str → Prop} {J : Nat} {d : D} (h : ItG B Q J d) : Sh (3 * J + 2) d := by
  rcases h with ⟨y, rfl, hy⟩ | ⟨j, t, hj, rfl, h⟩ | ⟨j, hj, h⟩
  · exact sh_str hy
  · exact (sh2 (m := 3 * j + 1) (sh_str s_push) h.sh).mono (by omega)
  · exact h.sh.mono (by omega)
theorem ItG.tr {B : Nat} {Q : Str → Prop} {J : Nat} {d : D} (h : ItG B Q J d) : tr d := by
  rcases h with ⟨y, rfl, hy⟩ | ⟨j, t, hj, rfl, h⟩ | ⟨j, hj, h⟩
  · rfl
  · exact tr_push h.tr
  · exact h.tr
theorem WdG.it {B : Nat} {Q : Str → Prop} {j J : Nat} {w : D} (hj : j ≤ J) (h : WdG B Q j w) : ItG B Q J w ∧ tokI J w = tokW J w ∧ msI J w = 2 * (tokW J w).length := by
  rcases h with ⟨y, rfl, hy, _⟩ | ⟨t, rfl, q⟩
  · exact ⟨.inl ⟨y, rfl, hy.strOk⟩, rfl, rfl⟩
  · exact ⟨.inr (.inl ⟨j, t, hj, rfl, q⟩), tokI_push.1, tokI_push.2⟩
end K69

namespace K69
open PySem L2 DL
variable {fu n l : Nat} {R S : Sto} {F : D → Sto → Prop} {E : Exc → Sto → Prop}
theorem at_found {a : MO} {G : Sto} : (S ++ a :: G)[S.length]? = some a := by rw [List.getElem?_append_right (Nat.le_refl _)]; simp
theorem at_more {a : MO} {G : Sto} {g : Nat} : (S ++ a :: G)[S.length + 1 + g]? = G[g]? := by
  rw [List.getElem?_append_right (by omega), show S.length + 1 + g - S.length = g + 1 by omega, List.getElem?_cons_succ]
theorem set_found {a a' : MO} {G : Sto} : (S ++ a :: G).set S.length a' = S ++ a' :: G := by
  rw [List.set_append_right _ _ (Nat.le_refl _)]; simp
theorem set_more {a x : MO} {G : Sto} {g : Nat} : (S ++ a :: G).set (S.length + 1 + g) x = S ++ a :: G.set g x := by
  rw [List.set_append_right _ _ (by omega), show S.length + 1 + g - S.length = g + 1 by omega, List.set_cons_succ]
theorem ThG.shape {B j : Nat} {Q : Str → Prop} {t : D} (h : ThG B Q j t) : Num t ∨ (∃ j' ws, j = j' + 1 ∧ t = .tup [.str "row", .tup ws] ∧ ws.length ≤ B ∧ ∀ w ∈ ws, WdG B Q j' w) ∨ (∃ j' ts, j = j' + 1 ∧ t = .tup [.str "list", .tup ts] ∧ ts.length ≤ B ∧ ∀ t ∈ ts, ThG B Q j' t) := by
  cases j with
  | zero => exact .inl h
  | succ j =>
    rcases h with h | ⟨ws, e, hl, h⟩ | ⟨ts, e, hl, h⟩
    · exact .inl h
    · exact .inr (.inl ⟨j, ws, rfl, e, hl, h⟩)
    · exact .inr (.inr ⟨j, ts, rfl, e, hl, h⟩)
theorem gJoin_seq {a : Str} {x : D} {ps : List Str} (h : iLst S x = some (ps.map .str)) : wp (gJoin (.str a) [x] S) F E ↔ (ps.map (·.length)).sum + ps.length * a.length ≤ 16777216 ∧ F (.str (Str.join a ps)) S := by
  unfold gJoin
  simp only [h, Option.bind_some, strsOf_map]
  by_cases h : (ps.map (·.length)).sum + ps.length * a.length ≤ 16777216
  · rw [if_pos h, show Txt.join a ps = Str.join a ps from StrLaws.glued_eq_join a ps]
    exact ⟨fun q => ⟨h, q⟩, fun q => q.2⟩
  · rw [if_neg h]
    exact ⟨fun q => q.elim, fun q => h q.1⟩
theorem space_len : (Str.ofString " ").length = 1 := by decide +kernel
theorem shown_ok {B J N : Nat} {Q : Str → Prop} {items : List D} {b : Bool} (hN : 1 ≤ N) (hJ : J ≤ 20) (hB : B ≤ 2000) (hS : OKS S) (hi : ∀ d ∈ items, ItG B Q J d) (hl : items.length ≤ 16777216) (hfu : (items.map (msI J)).sum + 2 ≤ fu) (hms : (items.map (msI J)).sum ≤ 1000000)
    (hj : ((items.flatMap (tokI J)).map (·.length)).sum + (items.flatMap (tokI J)).length ≤ 16777216) (hF : F (.str (Str.join ⟨#[32]⟩ (items.flatMap (tokI J)))) S) : wp (den fu N i_l_shown [.tup items, .bl b] S) F E := by
  obtain ⟨N', rfl⟩ : ∃ N', N = N' + 1 := ⟨N - 1, by omega⟩
  show wp (runDef false 6 (b_l_shown fu (den fu N')) _ _) _ _
  simp only [b_l_shown, wp_compMut, wp_rev, srcV_tup, wp_ok, wp_ret, wp_stuck, wp_bad, wp_bnd, wp_if, wp_fif, wps_ok_nx, wps_ok_rt, wps_ok_bk, wps_ok_ct, wps_ok_xc, wps_bad, wps_lft, wps_seq, wps_nil, wps_ret, wps_expr, wps_asg, wps_if, wp_run, wps_for, wps_while, wp_comp, wp_var, wp_C, wp_bin, wp_un, wp_T, wp_Tb, wp_asBl, wp_truthBl, wp_bAnd, wp_bOr, wp_bNot, wp_eIf, wp_eAnd, wp_eOr, wp_eNot, blCase_bl, wp_chain, wp_aNil, wp_aCons, wp_tup, wp_lst, wp_lstM, wp_call, wp_cl1, wp_cl2, wp_cl3, wp_cl4, wp_cl5, wp_meth, wp_isi, wp_oNone, wp_oSome, wp_sl, wp_it, wp_range1, wp_range2, wp_bYes, gEq_str, gNe_str, gEq_int, gNe_int, gEq_bl, gNe_bl, gIs_bl, gIsNot_bl, gAdd_int, gSub_int, gC_int, gI_int, gAdd_str, gAdd_tup, gAdd_lst, gNeg_int, gIx_tup, gIx_lst, gLen_tup, gLen_lst, gLen_str, gInt_int, gInt_bl, gTuple_lst, gTuple_tup, gList_lst, gList_tup, gSl_tup, gSl_lst, gSl_fl, gSl_str, srcL_tup, srcL_lst, srcL_fl, srcL_str, srcR1_int, typN, startR, List.map_cons, List.map_nil, List.length_cons, List.length_nil, Nat.reduceAdd, Nat.reduceSub, Nat.zero_add, Nat.sub_self, Nat.sub_zero, List.replicate_zero, List.replicate_succ, List.cons_append, List.nil_append, List.append_nil, List.getElem?_cons_zero, List.getElem?_cons_succ, List.set_cons_zero, List.set_cons_succ, List.set_nil, List.getElem?_nil, Option.some.injEq, exists_eq_left', exists_eq_left, exists_eq_right, reduceCtorEq, false_and, and_false, true_and, and_true, exists_false, exists_const, wipeR, Nat.zero_le, String.reduceEq, D.int.injEq, D.str.injEq, D.bl.injEq, atI_0, atI_1, atI_2, atI_3, atI_4, beq_self_eq_true, not_true_eq_false, not_false_eq_true, Int.cast_ofNat_Int, Int.reduceEq, Int.reduceLE, Int.reduceLT, Int.reduceAdd, Int.reduceSub, Int.reduceMul, Int.reduceNeg, if_true, if_false, ite_true, ite_false, Bool.false_eq_true, if_neg, if_pos, decide_eq_true_eq, Bool.not_eq_true', decide_eq_false_iff_not, eq_self_iff_true, decide_true, decide_false, Bool.not_true, Bool.not_false]
  refine ⟨by rw [List.length_reverse]; exact small_line hl, ?_⟩
  refine comp_pure (fun d => d) (fun d _ => ?_) ?_
  · simp only [wp_ok, wp_ret, wp_stuck, wp_bad, wp_bnd, wp_if, wp_fif, wps_ok_nx, wps_ok_rt, wps_ok_bk, wps_ok_ct, wps_ok_xc, wps_bad, wps_lft, wps_seq, wps_nil, wps_ret, wps_expr, wps_asg, wps_if, wp_run, wps_for, wps_while, wp_comp, wp_var, wp_C, wp_bin, wp_un, wp_T, wp_Tb, wp_asBl, wp_truthBl, wp_bAnd, wp_bOr, wp_bNot, wp_eIf, wp_eAnd, wp_eOr, wp_eNot, blCase_bl, wp_chain, wp_aNil, wp_aCons, wp_tup, wp_lst, wp_lstM, wp_call, wp_cl1, wp_cl2, wp_cl3, wp_cl4, wp_cl5, wp_meth, wp_isi, wp_oNone, wp_oSome, wp_sl, wp_it, wp_range1, wp_range2, wp_bYes, gEq_str, gNe_str, gEq_int, gNe_int, gEq_bl, gNe_bl, gIs_bl, gIsNot_bl, gAdd_int, gSub_int, gC_int, gI_int, gAdd_str, gAdd_tup, gAdd_lst, gNeg_int, gIx_tup, gIx_lst, gLen_tup, gLen_lst, gLen_str, gInt_int, gInt_bl, gTuple_lst, gTuple_tup, gList_lst, gList_tup, gSl_tup, gSl_lst, gSl_fl, gSl_str, srcL_tup, srcL_lst, srcL_fl, srcL_str, srcR1_int, typN, startR, List.map_cons, List.map_nil, List.length_cons, List.length_nil, Nat.reduceAdd, Nat.reduceSub, Nat.zero_add, Nat.sub_self, Nat.sub_zero, List.replicate_zero, List.replicate_succ, List.cons_append, List.nil_append, List.append_nil, List.getElem?_cons_zero, List.getElem?_cons_succ, List.set_cons_zero, List.set_cons_succ, List.set_nil, List.getElem?_nil, Option.some.injEq, exists_eq_left', exists_eq_left, exists_eq_right, reduceCtorEq, false_and, and_false, true_and, and_true, exists_false, exists_const, wipeR, Nat.zero_le, String.reduceEq, D.int.injEq, D.str.injEq, D.bl.injEq, atI_0, atI_1, atI_2, atI_3, atI_4, beq_self_eq_true, not_true_eq_false, not_false_eq_true, Int.cast_ofNat_Int, Int.reduceEq, Int.reduceLE, Int.reduceLT, Int.reduceAdd, Int.reduceSub, Int.reduceMul, Int.reduceNeg, if_true, if_false, ite_true, ite_false, Bool.false_eq_true, if_neg, if_pos, decide_eq_true_eq, Bool.not_eq_true', decide_eq_false_iff_not, eq_self_iff_true, decide_true, decide_false, Bool.not_true, Bool.not_false]
  have ms_pos : ∀ d, ItG B Q J d → 1 ≤ msI J d := by
    rintro d (⟨y, rfl, _⟩ | ⟨j, t, hj, rfl, h⟩ | ⟨j, hj, h⟩)
    · show 1 ≤ 2; omega
    · rw [tokI_push.2]; have := tok_pos hj h; omega
    · rw [(tokI_th h).2]; have := tok_pos hj h; omega
  have len_ms : ∀ wl : List D, (∀ d ∈ wl, ItG B Q J d) → wl.length ≤ (wl.map (msI J)).sum := by
    intro wl
    induction wl with
    | nil => intro _; exact Nat.zero_le _
    | cons d wl ih =>
      intro h
      have h1 := ih fun x hx => h x (List.mem_cons_of_mem _ hx)
      have h2 := ms_pos d (h d List.mem_cons_self)
      simp only [List.length_cons, List.map_cons, List.sum_cons]
      omega
  simp only [List.map_id', List.append_assoc, List.cons_append, List.nil_append, List.length_append, List.length_cons, List.length_nil]
  refine wps_whileM (fun m ρ S' => ∃ (done : List Str) (wl : List D) (G : Sto) (g : Nat) (o o' : Option D), ρ = [some (.tup items), some (.bl b), some (.ref S.length), some (.ref (S.length + 1 + g)), o, o'] ∧ S' = S ++ .lst (done.map .str) :: G ∧ G[g]? = some (.lst wl) ∧ (∀ d ∈ wl, ItG B Q J d) ∧ done ++ wl.reverse.flatMap (tokI J) = items.flatMap (tokI J) ∧ m = (wl.map (msI J)).sum ∧ m ≤ 1000000 ∧ m + 2 ≤ fu) ?_ (items.map (msI J)).sum (by omega) ⟨[], items.reverse, [.lst items.reverse], 0, none, none, by simp, by simp, rfl, fun d hd => hi d (List.mem_reverse.mp hd), by simp, by rw [List.map_reverse, List.sum_reverse], hms, hfu⟩
  rintro m ρ S' ⟨done, wl, G, g, o, o', rfl, rfl, hg, hw, ht, rfl, hm, hmf⟩
  refine ⟨by omega, ?_⟩
  have hat : ∀ {d2 : List Str}, atL (S ++ .lst (d2.map .str) :: G) (S.length + 1 + g) = some wl := fun {d2} => atL_of (by rw [at_more]; exact hg)
  simp only [gNe_refNil hat (fun d hd => (hw d hd).sh) (by omega), wp_ok, wp_ret, wp_stuck, wp_bad, wp_bnd, wp_if, wp_fif, wps_ok_nx, wps_ok_rt, wps_ok_bk, wps_ok_ct, wps_ok_xc, wps_bad, wps_lft, wps_seq, wps_nil, wps_ret, wps_expr, wps_asg, wps_if, wp_run, wps_for, wps_while, wp_comp, wp_var, wp_C, wp_bin, wp_un, wp_T, wp_Tb, wp_asBl, wp_truthBl, wp_bAnd, wp_bOr, wp_bNot, wp_eIf, wp_eAnd, wp_eOr, wp_eNot, blCase_bl, wp_chain, wp_aNil, wp_aCons, wp_tup, wp_lst, wp_lstM, wp_call, wp_cl1, wp_cl2, wp_cl3, wp_cl4, wp_cl5, wp_meth, wp_isi, wp_oNone, wp_oSome, wp_sl, wp_it, wp_range1, wp_range2, wp_bYes, gEq_str, gNe_str, gEq_int, gNe_int, gEq_bl, gNe_bl, gIs_bl, gIsNot_bl, gAdd_int, gSub_int, gC_int, gI_int, gAdd_str, gAdd_tup, gAdd_lst, gNeg_int, gIx_tup, gIx_lst, gLen_tup, gLen_lst, gLen_str, gInt_int, gInt_bl, gTuple_lst, gTuple_tup, gList_lst, gList_tup, gSl_tup, gSl_lst, gSl_fl, gSl_str, srcL_tup, srcL_lst, srcL_fl, srcL_str, srcR1_int, typN, startR, List.map_cons, List.map_nil, List.length_cons, List.length_nil, Nat.reduceAdd, Nat.reduceSub, Nat.zero_add, Nat.sub_self, Nat.sub_zero, List.replicate_zero, List.replicate_succ, List.cons_append, List.nil_append, List.append_nil, List.getElem?_cons_zero, List.getElem?_cons_succ, List.set_cons_zero, List.set_cons_succ, List.set_nil, List.getElem?_nil, Option.some.injEq, exists_eq_left', exists_eq_left, exists_eq_right, reduceCtorEq, false_and, and_false, true_and, and_true, exists_false, exists_const, wipeR, Nat.zero_le, String.reduceEq, D.int.injEq, D.str.injEq, D.bl.injEq, atI_0, atI_1, atI_2, atI_3, atI_4, beq_self_eq_true, not_true_eq_false, not_false_eq_true, Int.cast_ofNat_Int, Int.reduceEq, Int.reduceLE, Int.reduceLT, Int.reduceAdd, Int.reduceSub, Int.reduceMul, Int.reduceNeg, if_true, if_false, ite_true, ite_false, Bool.false_eq_true, if_neg, if_pos, decide_eq_true_eq, Bool.not_eq_true', decide_eq_false_iff_not, eq_self_iff_true, decide_true, decide_false, Bool.not_true, Bool.not_false]
  have hfd : ∀ {d2 : List Str} {G2 : Sto}, atL (S ++ .lst (d2.map .str) :: G2) S.length = some (d2.map .str) := fun {d2 G2} => atL_of at_found
  by_cases hnil : wl = []
  · rw [if_neg (by simpa using hnil)]
    subst hnil
    simp only [List.reverse_nil, List.flatMap_nil, List.append_nil] at ht
    refine ⟨rfl, ?_⟩
    rw [gJoin_seq (show iLst (S ++ .lst (done.map .str) :: G) (.ref S.length) = some (done.map .str) from hfd), space_len, ht]
    refine ⟨by omega, ?_⟩
    refine wp_fin (by rw [List.take_left]; exact hS) rfl ?_
    rw [List.take_left, space_eq]; exact hF
  · rw [if_pos (by simpa using hnil)]
    obtain ⟨wl, d, rfl⟩ : ∃ ws x, wl = ws ++ [x] := ⟨wl.dropLast, wl.getLast hnil, (List.dropLast_concat_getLast hnil).symm⟩
    have e1 : (wl ++ [d])[(wl ++ [d]).length - 1]? = some d := by simp
    have e2 : (wl ++ [d]).dropLast = wl := by simp
    have hlg : g < G.length := (List.getElem?_eq_some_iff.mp hg).1
    simp only [isTy_ref hat, gPop_ref hat, e1, e2, set_more, wp_ok, wp_ret, wp_stuck, wp_bad, wp_bnd, wp_if, wp_fif, wps_ok_nx, wps_ok_rt, wps_ok_bk, wps_ok_ct, wps_ok_xc, wps_bad, wps_lft, wps_seq, wps_nil, wps_ret, wps_expr, wps_asg, wps_if, wp_run, wps_for, wps_while, wp_comp, wp_var, wp_C, wp_bin, wp_un, wp_T, wp_Tb, wp_asBl, wp_truthBl, wp_bAnd, wp_bOr, wp_bNot, wp_eIf, wp_eAnd, wp_eOr, wp_eNot, blCase_bl, wp_chain, wp_aNil, wp_aCons, wp_tup, wp_lst, wp_lstM, wp_call, wp_cl1, wp_cl2, wp_cl3, wp_cl4, wp_cl5, wp_meth, wp_isi, wp_oNone, wp_oSome, wp_sl, wp_it, wp_range1, wp_range2, wp_bYes, gEq_str, gNe_str, gEq_int, gNe_int, gEq_bl, gNe_bl, gIs_bl, gIsNot_bl, gAdd_int, gSub_int, gC_int, gI_int, gAdd_str, gAdd_tup, gAdd_lst, gNeg_int, gIx_tup, gIx_lst, gLen_tup, gLen_lst, gLen_str, gInt_int, gInt_bl, gTuple_lst, gTuple_tup, gList_lst, gList_tup, gSl_tup, gSl_lst, gSl_fl, gSl_str, srcL_tup, srcL_lst, srcL_fl, srcL_str, srcR1_int, typN, startR, List.map_cons, List.map_nil, List.length_cons, List.length_nil, Nat.reduceAdd, Nat.reduceSub, Nat.zero_add, Nat.sub_self, Nat.sub_zero, List.replicate_zero, List.replicate_succ, List.cons_append, List.nil_append, List.append_nil, List.getElem?_cons_zero, List.getElem?_cons_succ, List.set_cons_zero, List.set_cons_succ, List.set_nil, List.getElem?_nil, Option.some.injEq, exists_eq_left', exists_eq_left, exists_eq_right, reduceCtorEq, false_and, and_false, true_and, and_true, exists_false, exists_const, wipeR, Nat.zero_le, String.reduceEq, D.int.injEq, D.str.injEq, D.bl.injEq, atI_0, atI_1, atI_2, atI_3, atI_4, beq_self_eq_true, not_true_eq_false, not_false_eq_true, Int.cast_ofNat_Int, Int.reduceEq, Int.reduceLE, Int.reduceLT, Int.reduceAdd, Int.reduceSub, Int.reduceMul, Int.reduceNeg, if_true, if_false, ite_true, ite_false, Bool.false_eq_true, if_neg, if_pos, decide_eq_true_eq, Bool.not_eq_true', decide_eq_false_iff_not, eq_self_iff_true, decide_true, decide_false, Bool.not_true, Bool.not_false]
    have hg2 : (G.set g (.lst wl))[g]? = some (.lst wl) := List.getElem?_set_self hlg
    have hsum : ((wl ++ [d]).map (msI J)).sum = (wl.map (msI J)).sum + msI J d := by simp
    have htk : (wl ++ [d]).reverse.flatMap (tokI J) = tokI J d ++ wl.reverse.flatMap (tokI J) := by simp
    rw [hsum] at hm hmf
    rw [htk] at ht
    simp only [hsum]
    have hwl : ∀ x ∈ wl, ItG B Q J x := fun x hx => hw x (List.mem_append_left _ hx)
    have hln := len_ms wl hwl
    have hdl : done.length + (tokI J d).length ≤ 16777216 := by
      have := congrArg List.length ht
      simp only [List.length_append] at this
      omega
    have hat2 : ∀ {d2 : List Str}, atL (S ++ .lst (d2.map .str) :: G.set g (.lst wl)) (S.length + 1 + g) = some wl := fun {d2} => atL_of (by rw [at_more]; exact hg2)
    -- an item that is a text, or a number's text, is told
    have say : ∀ (y : Str), tokI J d = [y] → 1 ≤ msI J d → wp (gAppend (.ref S.length) [.str y] (S ++ .lst (done.map .str) :: G.set g (.lst wl))) (fun _ S' => ∃ m', m' < (wl.map (msI J)).sum + msI J d ∧ ∃ (done : List Str) (wl : List D) (G : Sto) (g_1 : Nat) (o o'_1 : Option D), [some (D.tup items), some (.bl b), some (.ref S.length), some (.ref (S.length + 1 + g)), some d, o'] = [some (.tup items), some (.bl b), some (.ref S.length), some (.ref (S.length + 1 + g_1)), o, o'_1] ∧ S' = S ++ .lst (done.map .str) :: G ∧ G[g_1]? = some (.lst wl) ∧ (∀ d ∈ wl, ItG B Q J d) ∧ done ++ wl.reverse.flatMap (tokI J) = items.flatMap (tokI J) ∧ m' = (wl.map (msI J)).sum ∧ m' ≤ 1000000 ∧ m' + 2 ≤ fu) (fun e S' => E e S') := by
      intro y hy h1
      rw [gAppend_ref hfd, set_found]
      rw [hy] at ht hdl
      refine ⟨by rw [sizeLine_eq, List.length_map]; simp only [List.length_cons, List.length_nil] at hdl; omega, (wl.map (msI J)).sum, by omega, done ++ [y], wl, G.set g (.lst wl), g, some d, o', rfl, by simp, hg2, hwl, by rw [← ht]; simp, rfl, by omega, by omega⟩
    rcases hw d (List.mem_append_right _ (List.mem_singleton.mpr rfl)) with ⟨y, rfl, hy⟩ | ⟨j, t, hjJ, rfl, hth⟩ | ⟨j, hjJ, hth⟩
    · simp only [isiN_ss, isTy_ref hfd, wp_ok, wp_ret, wp_stuck, wp_bad, wp_bnd, wp_if, wp_fif, wps_ok_nx, wps_ok_rt, wps_ok_bk, wps_ok_ct, wps_ok_xc, wps_bad, wps_lft, wps_seq, wps_nil, wps_ret, wps_expr, wps_asg, wps_if, wp_run, wps_for, wps_while, wp_comp, wp_var, wp_C, wp_bin, wp_un, wp_T, wp_Tb, wp_asBl, wp_truthBl, wp_bAnd, wp_bOr, wp_bNot, wp_eIf, wp_eAnd, wp_eOr, wp_eNot, blCase_bl, wp_chain, wp_aNil, wp_aCons, wp_tup, wp_lst, wp_lstM, wp_call, wp_cl1, wp_cl2, wp_cl3, wp_cl4, wp_cl5, wp_meth, wp_isi, wp_oNone, wp_oSome, wp_sl, wp_it, wp_range1, wp_range2, wp_bYes, gEq_str, gNe_str, gEq_int, gNe_int, gEq_bl, gNe_bl, gIs_bl, gIsNot_bl, gAdd_int, gSub_int, gC_int, gI_int, gAdd_str, gAdd_tup, gAdd_lst, gNeg_int, gIx_tup, gIx_lst, gLen_tup, gLen_lst, gLen_str, gInt_int, gInt_bl, gTuple_lst, gTuple_tup, gList_lst, gList_tup, gSl_tup, gSl_lst, gSl_fl, gSl_str, srcL_tup, srcL_lst, srcL_fl, srcL_str, srcR1_int, typN, startR, List.map_cons, List.map_nil, List.length_cons, List.length_nil, Nat.reduceAdd, Nat.reduceSub, Nat.zero_add, Nat.sub_self, Nat.sub_zero, List.replicate_zero, List.replicate_succ, List.cons_append, List.nil_append, List.append_nil, List.getElem?_cons_zero, List.getElem?_cons_succ, List.set_cons_zero, List.set_cons_succ, List.set_nil, List.getElem?_nil, Option.some.injEq, exists_eq_left', exists_eq_left, exists_eq_right, reduceCtorEq, false_and, and_false, true_and, and_true, exists_false, exists_const, wipeR, Nat.zero_le, String.reduceEq, D.int.injEq, D.str.injEq, D.bl.injEq, atI_0, atI_1, atI_2, atI_3, atI_4, beq_self_eq_true, not_true_eq_false, not_false_eq_true, Int.cast_ofNat_Int, Int.reduceEq, Int.reduceLE, Int.reduceLT, Int.reduceAdd, Int.reduceSub, Int.reduceMul, Int.reduceNeg, if_true, if_false, ite_true, ite_false, Bool.false_eq_true, if_neg, if_pos, decide_eq_true_eq, Bool.not_eq_true', decide_eq_false_iff_not, eq_self_iff_true, decide_true, decide_false, Bool.not_true, Bool.not_false]
      exact say y rfl (by show 1 ≤ 2; omega)
    · have hpos := tok_pos hjJ hth
      simp only [isiN_ts, isTy_ref hat2, gAppend_ref hat2, set_more, wp_ok, wp_ret, wp_stuck, wp_bad, wp_bnd, wp_if, wp_fif, wps_ok_nx, wps_ok_rt, wps_ok_bk, wps_ok_ct, wps_ok_xc, wps_bad, wps_lft, wps_seq, wps_nil, wps_ret, wps_expr, wps_asg, wps_if, wp_run, wps_for, wps_while, wp_comp, wp_var, wp_C, wp_bin, wp_un, wp_T, wp_Tb, wp_asBl, wp_truthBl, wp_bAnd, wp_bOr, wp_bNot, wp_eIf, wp_eAnd, wp_eOr, wp_eNot, blCase_bl, wp_chain, wp_aNil, wp_aCons, wp_tup, wp_lst, wp_lstM, wp_call, wp_cl1, wp_cl2, wp_cl3, wp_cl4, wp_cl5, wp_meth, wp_isi, wp_oNone, wp_oSome, wp_sl, wp_it, wp_range1, wp_range2, wp_bYes, gEq_str, gNe_str, gEq_int, gNe_int, gEq_bl, gNe_bl, gIs_bl, gIsNot_bl, gAdd_int, gSub_int, gC_int, gI_int, gAdd_str, gAdd_tup, gAdd_lst, gNeg_int, gIx_tup, gIx_lst, gLen_tup, gLen_lst, gLen_str, gInt_int, gInt_bl, gTuple_lst, gTuple_tup, gList_lst, gList_tup, gSl_tup, gSl_lst, gSl_fl, gSl_str, srcL_tup, srcL_lst, srcL_fl, srcL_str, srcR1_int, typN, startR, List.map_cons, List.map_nil, List.length_cons, List.length_nil, Nat.reduceAdd, Nat.reduceSub, Nat.zero_add, Nat.sub_self, Nat.sub_zero, List.replicate_zero, List.replicate_succ, List.cons_append, List.nil_append, List.append_nil, List.getElem?_cons_zero, List.getElem?_cons_succ, List.set_cons_zero, List.set_cons_succ, List.set_nil, List.getElem?_nil, Option.some.injEq, exists_eq_left', exists_eq_left, exists_eq_right, reduceCtorEq, false_and, and_false, true_and, and_true, exists_false, exists_const, wipeR, Nat.zero_le, String.reduceEq, D.int.injEq, D.str.injEq, D.bl.injEq, atI_0, atI_1, atI_2, atI_3, atI_4, beq_self_eq_true, not_true_eq_false, not_false_eq_true, Int.cast_ofNat_Int, Int.reduceEq, Int.reduceLE, Int.reduceLT, Int.reduceAdd, Int.reduceSub, Int.reduceMul, Int.reduceNeg, if_true, if_false, ite_true, ite_false, Bool.false_eq_true, if_neg, if_pos, decide_eq_true_eq, Bool.not_eq_true', decide_eq_false_iff_not, eq_self_iff_true, decide_true, decide_false, Bool.not_true, Bool.not_false]
      refine ⟨by rw [sizeLine_eq]; omega, (wl.map (msI J)).sum + (2 * (tokT J t).length - 1), by rw [tokI_push.2]; omega, done, wl ++ [t], (G.set g (.lst wl)).set g (.lst (wl ++ [t])), g, some (.tup [.str "push", t]), o', rfl, rfl, List.getElem?_set_self (by simpa using hlg), fun x hx => ?_, ?_, ?_, ?_, ?_⟩
      · rw [List.mem_append, List.mem_singleton] at hx
        rcases hx with hx | rfl
        · exact hwl x hx
        · exact .inr (.inr ⟨j, hjJ, hth⟩)
      · rw [← ht, tokI_push.1]; simp [(tokI_th hth).1]
      · simp [(tokI_th hth).2]
      · rw [tokI_push.2] at hm; omega
      · rw [tokI_push.2] at hmf; omega
    · have htok := tokI_th (J := J) hth
      have hms1 := ms_pos d (.inr (.inr ⟨j, hjJ, hth⟩))
      rcases hth.shape with ⟨i, rfl, i0, i1⟩ | ⟨j', ws, rfl, rfl, hlw, hws⟩ | ⟨j', ts, rfl, rfl, hlt, hts⟩
      · have hlog : i.natAbs.log2 < 1920 := by
          by_cases hz : i.natAbs = 0
          · rw [hz]; decide
          · exact Nat.lt_of_lt_of_le ((Nat.log2_lt hz).mpr (show i.natAbs < 2 ^ 64 by omega)) (by decide)
        simp only [isiN_ts, ofString_inj, gStr_int, isTy_ref hfd, hlog, wp_ok, wp_ret, wp_stuck, wp_bad, wp_bnd, wp_if, wp_fif, wps_ok_nx, wps_ok_rt, wps_ok_bk, wps_ok_ct, wps_ok_xc, wps_bad, wps_lft, wps_seq, wps_nil, wps_ret, wps_expr, wps_asg, wps_if, wp_run, wps_for, wps_while, wp_comp, wp_var, wp_C, wp_bin, wp_un, wp_T, wp_Tb, wp_asBl, wp_truthBl, wp_bAnd, wp_bOr, wp_bNot, wp_eIf, wp_eAnd, wp_eOr, wp_eNot, blCase_bl, wp_chain, wp_aNil, wp_aCons, wp_tup, wp_lst, wp_lstM, wp_call, wp_cl1, wp_cl2, wp_cl3, wp_cl4, wp_cl5, wp_meth, wp_isi, wp_oNone, wp_oSome, wp_sl, wp_it, wp_range1, wp_range2, wp_bYes, gEq_str, gNe_str, gEq_int, gNe_int, gEq_bl, gNe_bl, gIs_bl, gIsNot_bl, gAdd_int, gSub_int, gC_int, gI_int, gAdd_str, gAdd_tup, gAdd_lst, gNeg_int, gIx_tup, gIx_lst, gLen_tup, gLen_lst, gLen_str, gInt_int, gInt_bl, gTuple_lst, gTuple_tup, gList_lst, gList_tup, gSl_tup, gSl_lst, gSl_fl, gSl_str, srcL_tup, srcL_lst, srcL_fl, srcL_str, srcR1_int, typN, startR, List.map_cons, List.map_nil, List.length_cons, List.length_nil, Nat.reduceAdd, Nat.reduceSub, Nat.zero_add, Nat.sub_self, Nat.sub_zero, List.replicate_zero, List.replicate_succ, List.cons_append, List.nil_append, List.append_nil, List.getElem?_cons_zero, List.getElem?_cons_succ, List.set_cons_zero, List.set_cons_succ, List.set_nil, List.getElem?_nil, Option.some.injEq, exists_eq_left', exists_eq_left, exists_eq_right, reduceCtorEq, false_and, and_false, true_and, and_true, exists_false, exists_const, wipeR, Nat.zero_le, String.reduceEq, D.int.injEq, D.str.injEq, D.bl.injEq, atI_0, atI_1, atI_2, atI_3, atI_4, beq_self_eq_true, not_true_eq_false, not_false_eq_true, Int.cast_ofNat_Int, Int.reduceEq, Int.reduceLE, Int.reduceLT, Int.reduceAdd, Int.reduceSub, Int.reduceMul, Int.reduceNeg, if_true, if_false, ite_true, ite_false, Bool.false_eq_true, if_neg, if_pos, decide_eq_true_eq, Bool.not_eq_true', decide_eq_false_iff_not, eq_self_iff_true, decide_true, decide_false, Bool.not_true, Bool.not_false]
        exact say (istr i) (by rw [htok.1, tokT_num]) hms1
      · simp only [isiN_ts, ofString_inj, isTy_ref hfd, gAppend_ref hfd, set_found, wp_rev, srcV_tup, wp_ok, wp_ret, wp_stuck, wp_bad, wp_bnd, wp_if, wp_fif, wps_ok_nx, wps_ok_rt, wps_ok_bk, wps_ok_ct, wps_ok_xc, wps_bad, wps_lft, wps_seq, wps_nil, wps_ret, wps_expr, wps_asg, wps_if, wp_run, wps_for, wps_while, wp_comp, wp_var, wp_C, wp_bin, wp_un, wp_T, wp_Tb, wp_asBl, wp_truthBl, wp_bAnd, wp_bOr, wp_bNot, wp_eIf, wp_eAnd, wp_eOr, wp_eNot, blCase_bl, wp_chain, wp_aNil, wp_aCons, wp_tup, wp_lst, wp_lstM, wp_call, wp_cl1, wp_cl2, wp_cl3, wp_cl4, wp_cl5, wp_meth, wp_isi, wp_oNone, wp_oSome, wp_sl, wp_it, wp_range1, wp_range2, wp_bYes, gEq_str, gNe_str, gEq_int, gNe_int, gEq_bl, gNe_bl, gIs_bl, gIsNot_bl, gAdd_int, gSub_int, gC_int, gI_int, gAdd_str, gAdd_tup, gAdd_lst, gNeg_int, gIx_tup, gIx_lst, gLen_tup, gLen_lst, gLen_str, gInt_int, gInt_bl, gTuple_lst, gTuple_tup, gList_lst, gList_tup, gSl_tup, gSl_lst, gSl_fl, gSl_str, srcL_tup, srcL_lst, srcL_fl, srcL_str, srcR1_int, typN, startR, List.map_cons, List.map_nil, List.length_cons, List.length_nil, Nat.reduceAdd, Nat.reduceSub, Nat.zero_add, Nat.sub_self, Nat.sub_zero, List.replicate_zero, List.replicate_succ, List.cons_append, List.nil_append, List.append_nil, List.getElem?_cons_zero, List.getElem?_cons_succ, List.set_cons_zero, List.set_cons_succ, List.set_nil, List.getElem?_nil, Option.some.injEq, exists_eq_left', exists_eq_left, exists_eq_right, reduceCtorEq, false_and, and_false, true_and, and_true, exists_false, exists_const, wipeR, Nat.zero_le, String.reduceEq, D.int.injEq, D.str.injEq, D.bl.injEq, atI_0, atI_1, atI_2, atI_3, atI_4, beq_self_eq_true, not_true_eq_false, not_false_eq_true, Int.cast_ofNat_Int, Int.reduceEq, Int.reduceLE, Int.reduceLT, Int.reduceAdd, Int.reduceSub, Int.reduceMul, Int.reduceNeg, if_true, if_false, ite_true, ite_false, Bool.false_eq_true, if_neg, if_pos, decide_eq_true_eq, Bool.not_eq_true', decide_eq_false_iff_not, eq_self_iff_true, decide_true, decide_false, Bool.not_true, Bool.not_false]
        rw [show List.map D.str done ++ [D.str (Str.ofString "[")] = (done ++ [Str.ofString "["]).map D.str by simp]
        have hxit : ∀ x ∈ ws, ItG B Q J x ∧ tokI J x = tokW J x ∧ msI J x ≤ 2 * (tokW J x).length := fun x hx => by
          obtain ⟨a1, a2, a3⟩ := (hws x hx).it (J := J) (by omega)
          exact ⟨a1, a2, by omega⟩
        have htoks : tokI J (.tup [.str "row", .tup ws]) = Str.ofString "[" :: (ws.flatMap (tokI J)) ++ [Str.ofString "]"] := by
          rw [htok.1]
          obtain ⟨J', rfl⟩ : ∃ J', J = J' + 1 := ⟨J - 1, by omega⟩
          rw [tokT_row]
          congr 2
          exact (toks_ind (B := B) (Q := Q) (j := j') (by omega) (by omega) hws).trans (flat_congr fun x hx => (hxit x hx).2.1.symm)
        have hflat : (ws.map (msI J)).sum ≤ 2 * (ws.flatMap (tokI J)).length := by
          have : ∀ l : List D, (∀ x ∈ l, x ∈ ws) → (l.map (msI J)).sum ≤ 2 * (l.flatMap (tokI J)).length := by
            intro l
            induction l with
            | nil => intro _; exact Nat.zero_le _
            | cons x l ih =>
              intro h
              have h1 := ih fun y hy => h y (List.mem_cons_of_mem _ hy)
              obtain ⟨_, q2, q3⟩ := hxit x (h x List.mem_cons_self)
              simp only [List.map_cons, List.sum_cons, List.flatMap_cons, List.length_append]
              rw [q2]; omega
          exact this _ fun x hx => hx
        have hmsr : msI J (.tup [.str "row", .tup ws]) = 2 * ((ws.flatMap (tokI J)).length + 2) - 1 := by
          rw [htok.2, ← htok.1, htoks]; simp
        rw [hmsr] at hm hmf ⊢
        rw [htoks] at ht hdl
        simp only [List.cons_append, List.length_cons, List.length_append, List.length_nil] at hdl
        have hxl : ws.length ≤ (ws.map (msI J)).sum := len_ms _ fun x hx => (hxit x hx).1
        refine ⟨small_line (by decide), by rw [sizeLine_eq, List.length_map]; omega, isTy_ref hat2, small_line (by decide), ?_⟩
        rw [gAppend_ref hat2, set_more]
        have hG3 : ((G.set g (.lst wl)).set g (.lst (wl ++ [.str "]"])))[g]? = some (.lst (wl ++ [.str "]"])) := List.getElem?_set_self (by simpa using hlg)
        refine ⟨by rw [sizeLine_eq]; omega, by rw [List.length_reverse]; exact small_line (by omega), comp_pure (fun d => d) (fun d _ => by simp only [wp_ok, wp_ret, wp_stuck, wp_bad, wp_bnd, wp_if, wp_fif, wps_ok_nx, wps_ok_rt, wps_ok_bk, wps_ok_ct, wps_ok_xc, wps_bad, wps_lft, wps_seq, wps_nil, wps_ret, wps_expr, wps_asg, wps_if, wp_run, wps_for, wps_while, wp_comp, wp_var, wp_C, wp_bin, wp_un, wp_T, wp_Tb, wp_asBl, wp_truthBl, wp_bAnd, wp_bOr, wp_bNot, wp_eIf, wp_eAnd, wp_eOr, wp_eNot, blCase_bl, wp_chain, wp_aNil, wp_aCons, wp_tup, wp_lst, wp_lstM, wp_call, wp_cl1, wp_cl2, wp_cl3, wp_cl4, wp_cl5, wp_meth, wp_isi, wp_oNone, wp_oSome, wp_sl, wp_it, wp_range1, wp_range2, wp_bYes, gEq_str, gNe_str, gEq_int, gNe_int, gEq_bl, gNe_bl, gIs_bl, gIsNot_bl, gAdd_int, gSub_int, gC_int, gI_int, gAdd_str, gAdd_tup, gAdd_lst, gNeg_int, gIx_tup, gIx_lst, gLen_tup, gLen_lst, gLen_str, gInt_int, gInt_bl, gTuple_lst, gTuple_tup, gList_lst, gList_tup, gSl_tup, gSl_lst, gSl_fl, gSl_str, srcL_tup, srcL_lst, srcL_fl, srcL_str, srcR1_int, typN, startR, List.map_cons, List.map_nil, List.length_cons, List.length_nil, Nat.reduceAdd, Nat.reduceSub, Nat.zero_add, Nat.sub_self, Nat.sub_zero, List.replicate_zero, List.replicate_succ, List.cons_append, List.nil_append, List.append_nil, List.getElem?_cons_zero, List.getElem?_cons_succ, List.set_cons_zero, List.set_cons_succ, List.set_nil, List.getElem?_nil, Option.some.injEq, exists_eq_left', exists_eq_left, exists_eq_right, reduceCtorEq, false_and, and_false, true_and, and_true, exists_false, exists_const, wipeR, Nat.zero_le, String.reduceEq, D.int.injEq, D.str.injEq, D.bl.injEq, atI_0, atI_1, atI_2, atI_3, atI_4, beq_self_eq_true, not_true_eq_false, not_false_eq_true, Int.cast_ofNat_Int, Int.reduceEq, Int.reduceLE, Int.reduceLT, Int.reduceAdd, Int.reduceSub, Int.reduceMul, Int.reduceNeg, if_true, if_false, ite_true, ite_false, Bool.false_eq_true, if_neg, if_pos, decide_eq_true_eq, Bool.not_eq_true', decide_eq_false_iff_not, eq_self_iff_true, decide_true, decide_false, Bool.not_true, Bool.not_false]) ?_⟩
        rw [List.map_id', gAddM_seq (a := wl ++ [.str "]"]) (b := ws.reverse) (by show atL _ _ = _; exact atL_of (by rw [at_more]; exact hG3)) rfl]
        refine ⟨small_line (by simp; omega), (wl.map (msI J)).sum + 2 + (ws.map (msI J)).sum, by omega, done ++ [Str.ofString "["], wl ++ [.str "]"] ++ ws.reverse, (G.set g (.lst wl)).set g (.lst (wl ++ [.str "]"])) ++ [.lst (wl ++ [.str "]"] ++ ws.reverse)], G.length, some (.tup [.str "row", .tup ws]), o', by simp; omega, by simp, by rw [List.getElem?_append_right (by simp)]; simp, fun x hx => ?_, ?_, ?_, by omega, by omega⟩
        · simp only [List.mem_append, List.mem_singleton, List.mem_reverse] at hx
          rcases hx with (hx | rfl) | hx
          · exact hwl x hx
          · exact .inl ⟨_, rfl, by decide +kernel⟩
          · exact (hxit x hx).1
        · rw [← ht]; simp [tokI]
        · simp only [List.map_append, List.sum_append, List.map_reverse, List.sum_reverse, List.map_cons, List.map_nil, List.sum_cons, List.sum_nil]
          rfl
      · simp only [isiN_ts, ofString_inj, isTy_ref hfd, gAppend_ref hfd, set_found, wp_rev, srcV_tup, wp_ok, wp_ret, wp_stuck, wp_bad, wp_bnd, wp_if, wp_fif, wps_ok_nx, wps_ok_rt, wps_ok_bk, wps_ok_ct, wps_ok_xc, wps_bad, wps_lft, wps_seq, wps_nil, wps_ret, wps_expr, wps_asg, wps_if, wp_run, wps_for, wps_while, wp_comp, wp_var, wp_C, wp_bin, wp_un, wp_T, wp_Tb, wp_asBl, wp_truthBl, wp_bAnd, wp_bOr, wp_bNot, wp_eIf, wp_eAnd, wp_eOr, wp_eNot, blCase_bl, wp_chain, wp_aNil, wp_aCons, wp_tup, wp_lst, wp_lstM, wp_call, wp_cl1, wp_cl2, wp_cl3, wp_cl4, wp_cl5, wp_meth, wp_isi, wp_oNone, wp_oSome, wp_sl, wp_it, wp_range1, wp_range2, wp_bYes, gEq_str, gNe_str, gEq_int, gNe_int, gEq_bl, gNe_bl, gIs_bl, gIsNot_bl, gAdd_int, gSub_int, gC_int, gI_int, gAdd_str, gAdd_tup, gAdd_lst, gNeg_int, gIx_tup, gIx_lst, gLen_tup, gLen_lst, gLen_str, gInt_int, gInt_bl, gTuple_lst, gTuple_tup, gList_lst, gList_tup, gSl_tup, gSl_lst, gSl_fl, gSl_str, srcL_tup, srcL_lst, srcL_fl, srcL_str, srcR1_int, typN, startR, List.map_cons, List.map_nil, List.length_cons, List.length_nil, Nat.reduceAdd, Nat.reduceSub, Nat.zero_add, Nat.sub_self, Nat.sub_zero, List.replicate_zero, List.replicate_succ, List.cons_append, List.nil_append, List.append_nil, List.getElem?_cons_zero, List.getElem?_cons_succ, List.set_cons_zero, List.set_cons_succ, List.set_nil, List.getElem?_nil, Option.some.injEq, exists_eq_left', exists_eq_left, exists_eq_right, reduceCtorEq, false_and, and_false, true_and, and_true, exists_false, exists_const, wipeR, Nat.zero_le, String.reduceEq, D.int.injEq, D.str.injEq, D.bl.injEq, atI_0, atI_1, atI_2, atI_3, atI_4, beq_self_eq_true, not_true_eq_false, not_false_eq_true, Int.cast_ofNat_Int, Int.reduceEq, Int.reduceLE, Int.reduceLT, Int.reduceAdd, Int.reduceSub, Int.reduceMul, Int.reduceNeg, if_true, if_false, ite_true, ite_false, Bool.false_eq_true, if_neg, if_pos, decide_eq_true_eq, Bool.not_eq_true', decide_eq_false_iff_not, eq_self_iff_true, decide_true, decide_false, Bool.not_true, Bool.not_false]
        rw [show List.map D.str done ++ [D.str (Str.ofString "{")] = (done ++ [Str.ofString "{"]).map D.str by simp]
        have hxit : ∀ x ∈ ts, ItG B Q J x ∧ tokI J x = tokT J x ∧ msI J x ≤ 2 * (tokT J x).length := fun x hx => ⟨.inr (.inr ⟨j', by omega, hts x hx⟩), (tokI_th (hts x hx)).1, by rw [(tokI_th (hts x hx)).2]; omega⟩
        have htoks : tokI J (.tup [.str "list", .tup ts]) = Str.ofString "{" :: (ts.flatMap (tokI J)) ++ [Str.ofString "}"] := by
          rw [htok.1]
          obtain ⟨J', rfl⟩ : ∃ J', J = J' + 1 := ⟨J - 1, by omega⟩
          rw [tokT_list]
          congr 2
          exact flat_congr fun x hx => ((hxit x hx).2.1.trans (tokT_ind (by omega) (by omega) (hts x hx))).symm
        have hflat : (ts.map (msI J)).sum ≤ 2 * (ts.flatMap (tokI J)).length := by
          have : ∀ l : List D, (∀ x ∈ l, x ∈ ts) → (l.map (msI J)).sum ≤ 2 * (l.flatMap (tokI J)).length := by
            intro l
            induction l with
            | nil => intro _; exact Nat.zero_le _
            | cons x l ih =>
              intro h
              have h1 := ih fun y hy => h y (List.mem_cons_of_mem _ hy)
              obtain ⟨_, q2, q3⟩ := hxit x (h x List.mem_cons_self)
              simp only [List.map_cons, List.sum_cons, List.flatMap_cons, List.length_append]
              rw [q2]; omega
          exact this _ fun x hx => hx
        have hmsr : msI J (.tup [.str "list", .tup ts]) = 2 * ((ts.flatMap (tokI J)).length + 2) - 1 := by
          rw [htok.2, ← htok.1, htoks]; simp
        rw [hmsr] at hm hmf ⊢
        rw [htoks] at ht hdl
        simp only [List.cons_append, List.length_cons, List.length_append, List.length_nil] at hdl
        have hxl : ts.length ≤ (ts.map (msI J)).sum := len_ms _ fun x hx => (hxit x hx).1
        refine ⟨small_line (by decide), by rw [sizeLine_eq, List.length_map]; omega, isTy_ref hat2, small_line (by decide), ?_⟩
        rw [gAppend_ref hat2, set_more]
        have hG3 : ((G.set g (.lst wl)).set g (.lst (wl ++ [.str "}"])))[g]? = some (.lst (wl ++ [.str "}"])) := List.getElem?_set_self (by simpa using hlg)
        refine ⟨by rw [sizeLine_eq]; omega, by rw [List.length_reverse]; exact small_line (by omega), comp_pure (fun d => d) (fun d _ => by simp only [wp_ok, wp_ret, wp_stuck, wp_bad, wp_bnd, wp_if, wp_fif, wps_ok_nx, wps_ok_rt, wps_ok_bk, wps_ok_ct, wps_ok_xc, wps_bad, wps_lft, wps_seq, wps_nil, wps_ret, wps_expr, wps_asg, wps_if, wp_run, wps_for, wps_while, wp_comp, wp_var, wp_C, wp_bin, wp_un, wp_T, wp_Tb, wp_asBl, wp_truthBl, wp_bAnd, wp_bOr, wp_bNot, wp_eIf, wp_eAnd, wp_eOr, wp_eNot, blCase_bl, wp_chain, wp_aNil, wp_aCons, wp_tup, wp_lst, wp_lstM, wp_call, wp_cl1, wp_cl2, wp_cl3, wp_cl4, wp_cl5, wp_meth, wp_isi, wp_oNone, wp_oSome, wp_sl, wp_it, wp_range1, wp_range2, wp_bYes, gEq_str, gNe_str, gEq_int, gNe_int, gEq_bl, gNe_bl, gIs_bl, gIsNot_bl, gAdd_int, gSub_int, gC_int, gI_int, gAdd_str, gAdd_tup, gAdd_lst, gNeg_int, gIx_tup, gIx_lst, gLen_tup, gLen_lst, gLen_str, gInt_int, gInt_bl, gTuple_lst, gTuple_tup, gList_lst, gList_tup, gSl_tup, gSl_lst, gSl_fl, gSl_str, srcL_tup, srcL_lst, srcL_fl, srcL_str, srcR1_int, typN, startR, List.map_cons, List.map_nil, List.length_cons, List.length_nil, Nat.reduceAdd, Nat.reduceSub, Nat.zero_add, Nat.sub_self, Nat.sub_zero, List.replicate_zero, List.replicate_succ, List.cons_append, List.nil_append, List.append_nil, List.getElem?_cons_zero, List.getElem?_cons_succ, List.set_cons_zero, List.set_cons_succ, List.set_nil, List.getElem?_nil, Option.some.injEq, exists_eq_left', exists_eq_left, exists_eq_right, reduceCtorEq, false_and, and_false, true_and, and_true, exists_false, exists_const, wipeR, Nat.zero_le, String.reduceEq, D.int.injEq, D.str.injEq, D.bl.injEq, atI_0, atI_1, atI_2, atI_3, atI_4, beq_self_eq_true, not_true_eq_false, not_false_eq_true, Int.cast_ofNat_Int, Int.reduceEq, Int.reduceLE, Int.reduceLT, Int.reduceAdd, Int.reduceSub, Int.reduceMul, Int.reduceNeg, if_true, if_false, ite_true, ite_false, Bool.false_eq_true, if_neg, if_pos, decide_eq_true_eq, Bool.not_eq_true', decide_eq_false_iff_not, eq_self_iff_true, decide_true, decide_false, Bool.not_true, Bool.not_false]) ?_⟩
        rw [List.map_id', gAddM_seq (a := wl ++ [.str "}"]) (b := ts.reverse) (by show atL _ _ = _; exact atL_of (by rw [at_more]; exact hG3)) rfl]
        refine ⟨small_line (by simp; omega), (wl.map (msI J)).sum + 2 + (ts.map (msI J)).sum, by omega, done ++ [Str.ofString "{"], wl ++ [.str "}"] ++ ts.reverse, (G.set g (.lst wl)).set g (.lst (wl ++ [.str "}"])) ++ [.lst (wl ++ [.str "}"] ++ ts.reverse)], G.length, some (.tup [.str "list", .tup ts]), o', by simp; omega, by simp, by rw [List.getElem?_append_right (by simp)]; simp, fun x hx => ?_, ?_, ?_, by omega, by omega⟩
        · simp only [List.mem_append, List.mem_singleton, List.mem_reverse] at hx
          rcases hx with (hx | rfl) | hx
          · exact hwl x hx
          · exact .inl ⟨_, rfl, by decide +kernel⟩
          · exact (hxit x hx).1
        · rw [← ht]; simp [tokI]
        · simp only [List.map_append, List.sum_append, List.map_reverse, List.sum_reverse, List.map_cons, List.map_nil, List.sum_cons, List.sum_nil]
          rfl
end K69

namespace K69
open PySem L2 DL
variable {fu n l : Nat} {R S : Sto} {F : D → Sto → Prop} {E : Exc → Sto → Prop}
/-! texts due -/
theorem split_gen {a : Str} (ha : a.length + 2 ≤ 16777216) : wp (gSplit false (.str a) [.str " "] S) F E ↔ F (.lst ((Txt.split a ⟨#[32]⟩).map .str)) S := by
  have e : gSplit false (.str a) [.str " "] S = .ok (.lst ((Txt.split a ⟨#[32]⟩).map .str)) S := by
    unfold gSplit
    simp only [space_eq]
    rw [if_pos ⟨by decide, small_line ha⟩]
    rfl
  rw [e]; exact Iff.rfl
/-- the words of a text that is joined of words -/
def wordsOf (ts : List Str) : List Str := if ts = [] then [Str.ofString ""] else ts
theorem split_words {ts : List Str} (h : ∀ t ∈ ts, (32 : Nat) ∉ t.cps.toList) : Txt.split (Str.join ⟨#[32]⟩ ts) ⟨#[32]⟩ = wordsOf ts := by
  unfold wordsOf
  by_cases e : ts = []
  · rw [if_pos e, e]; decide +kernel
  · rw [if_neg e]; exact split_join e h
def tokLen (ts : List Str) : Nat := (ts.map (·.length)).sum + ts.length
theorem jn_len (c : Nat) : ∀ ps : List (List Nat), (jn c ps).length ≤ (ps.map (·.length)).sum + ps.length
  | [] => Nat.zero_le _
  | [x] => by simp [jn]
  | x :: y :: r => by
    have := jn_len c (y :: r)
    simp only [jn, List.length_append, List.length_cons, List.map_cons, List.sum_cons] at this ⊢
    omega
theorem str_len (a : Str) : a.length = a.cps.toList.length := by simp [Str.length]
theorem join_len (ts : List Str) : (Str.join ⟨#[32]⟩ ts).length ≤ tokLen ts := by
  rw [str_len, join_toList]
  refine Nat.le_trans (jn_len _ _) ?_
  unfold tokLen
  rw [List.map_map, List.length_map]
  refine Nat.le_of_eq ?_
  congr 2
theorem join_nil {ts : List Str} (h : ∀ t ∈ ts, 1 ≤ t.length) : Str.join ⟨#[32]⟩ ts = Str.ofString "" ↔ ts = [] := by
  constructor
  · intro e
    cases ts with
    | nil => rfl
    | cons t ts =>
      exfalso
      have h1 := h t List.mem_cons_self
      have e2 := congrArg (fun a : Str => a.cps.toList.length) e
      rw [join_toList] at e2
      have e3 : (Str.ofString "").cps.toList.length = 0 := by decide +kernel
      rw [e3] at e2
      cases ts with
      | nil => simp [jn] at e2; rw [str_len] at h1; simp [e2] at h1
      | cons u us => simp [jn] at e2
  · rintro rfl; decide +kernel
def OkTok (t : Str) : Prop := 1 ≤ t.length ∧ (32 : Nat) ∉ t.cps.toList
theorem due_ok {ts tl : List Str} {z : Str} {N : Nat} (hN : 1 ≤ N) (hS : OKS S) (h1 : ∀ t ∈ ts, OkTok t) (h2 : ∀ t ∈ tl, OkTok t) (hz : z ≠ Str.ofString "") (l1 : tokLen ts ≤ 16000000) (l2 : tokLen tl ≤ 16000000) (l3 : tokLen (ts.flatMap (rep z tl)) ≤ 16000000)
    (hF : F (.str (Str.join ⟨#[32]⟩ (ts.flatMap (rep z tl)))) S) : wp (den fu N i_l_due [.str (Str.join ⟨#[32]⟩ ts), .str z, .str (Str.join ⟨#[32]⟩ tl)] S) F E := by
  obtain ⟨N', rfl⟩ : ∃ N', N = N' + 1 := ⟨N - 1, by omega⟩
  show wp (runDef false 5 (b_l_due fu (den fu N')) _ _) _ _
  have jl1 := join_len ts
  have jl2 := join_len tl
  have tyS : ∀ (S' : Sto) (y : Str), isTy S' "str" (.str y) = true := fun _ _ => rfl
  simp only [b_l_due, split_gen (a := Str.join ⟨#[32]⟩ ts) (by omega), tyS, wp_ok, wp_ret, wp_stuck, wp_bad, wp_bnd, wp_if, wp_fif, wps_ok_nx, wps_ok_rt, wps_ok_bk, wps_ok_ct, wps_ok_xc, wps_bad, wps_lft, wps_seq, wps_nil, wps_ret, wps_expr, wps_asg, wps_if, wp_run, wps_for, wps_while, wp_comp, wp_var, wp_C, wp_bin, wp_un, wp_T, wp_Tb, wp_asBl, wp_truthBl, wp_bAnd, wp_bOr, wp_bNot, wp_eIf, wp_eAnd, wp_eOr, wp_eNot, blCase_bl, wp_chain, wp_aNil, wp_aCons, wp_tup, wp_lst, wp_lstM, wp_call, wp_cl1, wp_cl2, wp_cl3, wp_cl4, wp_cl5, wp_meth, wp_isi, wp_oNone, wp_oSome, wp_sl, wp_it, wp_range1, wp_range2, wp_bYes, gEq_str, gNe_str, gEq_int, gNe_int, gEq_bl, gNe_bl, gIs_bl, gIsNot_bl, gAdd_int, gSub_int, gC_int, gI_int, gAdd_str, gAdd_tup, gAdd_lst, gNeg_int, gIx_tup, gIx_lst, gLen_tup, gLen_lst, gLen_str, gInt_int, gInt_bl, gTuple_lst, gTuple_tup, gList_lst, gList_tup, gSl_tup, gSl_lst, gSl_fl, gSl_str, srcL_tup, srcL_lst, srcL_fl, srcL_str, srcR1_int, typN, startR, List.map_cons, List.map_nil, List.length_cons, List.length_nil, Nat.reduceAdd, Nat.reduceSub, Nat.zero_add, Nat.sub_self, Nat.sub_zero, List.replicate_zero, List.replicate_succ, List.cons_append, List.nil_append, List.append_nil, List.getElem?_cons_zero, List.getElem?_cons_succ, List.set_cons_zero, List.set_cons_succ, List.set_nil, List.getElem?_nil, Option.some.injEq, exists_eq_left', exists_eq_left, exists_eq_right, reduceCtorEq, false_and, and_false, true_and, and_true, exists_false, exists_const, wipeR, Nat.zero_le, String.reduceEq, D.int.injEq, D.str.injEq, D.bl.injEq, atI_0, atI_1, atI_2, atI_3, atI_4, beq_self_eq_true, not_true_eq_false, not_false_eq_true, Int.cast_ofNat_Int, Int.reduceEq, Int.reduceLE, Int.reduceLT, Int.reduceAdd, Int.reduceSub, Int.reduceMul, Int.reduceNeg, if_true, if_false, ite_true, ite_false, Bool.false_eq_true, if_neg, if_pos, decide_eq_true_eq, Bool.not_eq_true', decide_eq_false_iff_not, eq_self_iff_true, decide_true, decide_false, Bool.not_true, Bool.not_false]
  rw [split_words fun t ht => (h1 t ht).2]
  have hsplit : tl ≠ [] → Txt.split (Str.join ⟨#[32]⟩ tl) ⟨#[32]⟩ = tl := fun e => by rw [split_words fun t ht => (h2 t ht).2, wordsOf, if_neg e]
  -- lengths of what is found
  have wl : (wordsOf ts).flatMap (rep z tl) = ts.flatMap (rep z tl) ∨ (ts = [] ∧ (wordsOf ts).flatMap (rep z tl) = [Str.ofString ""]) := by
    unfold wordsOf
    by_cases e : ts = []
    · right
      refine ⟨e, ?_⟩
      rw [if_pos e]
      simp [rep_no (Ne.symm hz)]
    · left; rw [if_neg e]
  have wlen : ((wordsOf ts).flatMap (rep z tl)).length ≤ 16000000 := by
    rcases wl with e | ⟨_, e⟩
    · rw [e]; unfold tokLen at l3; omega
    · rw [e]; simp
  have pre : ∀ i, (((wordsOf ts).take i).flatMap (rep z tl)).length ≤ ((wordsOf ts).flatMap (rep z tl)).length := by
    intro i
    conv => rhs; rw [← List.take_append_drop i (wordsOf ts)]
    rw [List.flatMap_append, List.length_append]; omega
  refine wps_forM (fun i ρ S' => ∃ (G : Sto) (g : Nat) (done : List Str) (o : Option D), ρ = [some (.str (Str.join ⟨#[32]⟩ ts)), some (.str z), some (.str (Str.join ⟨#[32]⟩ tl)), some (.ref (S.length + g)), o] ∧ S' = S ++ G ∧ G[g]? = some (.lst (done.map .str)) ∧ done = ((wordsOf ts).take i).flatMap (rep z tl)) (fun _ _ _ _ => trivial) ?_ ?_ ⟨[.lst []], 0, [], none, rfl, rfl, rfl, rfl⟩
  · rintro i d ρ S' hd ⟨G, g, done, o, rfl, rfl, hg, hdone⟩
    rw [List.getElem?_map, Option.map_eq_some_iff] at hd
    obtain ⟨w, hw, rfl⟩ := hd
    refine ⟨_, rfl, ?_⟩
    have hlg : g < G.length := (List.getElem?_eq_some_iff.mp hg).1
    have hat : atL (S ++ G) (S.length + g) = some (done.map .str) := atL_of (by rw [List.getElem?_append_right (by omega), Nat.add_sub_cancel_left]; exact hg)
    have hi : i < (wordsOf ts).length := (List.getElem?_eq_some_iff.mp hw).1
    have hnext : ((wordsOf ts).take (i + 1)).flatMap (rep z tl) = done ++ rep z tl w := by
      rw [List.take_succ, hw, List.flatMap_append, hdone]; simp
    have hlen : done.length + (rep z tl w).length ≤ 16000000 := by
      have := pre (i + 1)
      rw [hnext, List.length_append] at this; omega
    simp only [wp_ok, wp_ret, wp_stuck, wp_bad, wp_bnd, wp_if, wp_fif, wps_ok_nx, wps_ok_rt, wps_ok_bk, wps_ok_ct, wps_ok_xc, wps_bad, wps_lft, wps_seq, wps_nil, wps_ret, wps_expr, wps_asg, wps_if, wp_run, wps_for, wps_while, wp_comp, wp_var, wp_C, wp_bin, wp_un, wp_T, wp_Tb, wp_asBl, wp_truthBl, wp_bAnd, wp_bOr, wp_bNot, wp_eIf, wp_eAnd, wp_eOr, wp_eNot, blCase_bl, wp_chain, wp_aNil, wp_aCons, wp_tup, wp_lst, wp_lstM, wp_call, wp_cl1, wp_cl2, wp_cl3, wp_cl4, wp_cl5, wp_meth, wp_isi, wp_oNone, wp_oSome, wp_sl, wp_it, wp_range1, wp_range2, wp_bYes, gEq_str, gNe_str, gEq_int, gNe_int, gEq_bl, gNe_bl, gIs_bl, gIsNot_bl, gAdd_int, gSub_int, gC_int, gI_int, gAdd_str, gAdd_tup, gAdd_lst, gNeg_int, gIx_tup, gIx_lst, gLen_tup, gLen_lst, gLen_str, gInt_int, gInt_bl, gTuple_lst, gTuple_tup, gList_lst, gList_tup, gSl_tup, gSl_lst, gSl_fl, gSl_str, srcL_tup, srcL_lst, srcL_fl, srcL_str, srcR1_int, typN, startR, List.map_cons, List.map_nil, List.length_cons, List.length_nil, Nat.reduceAdd, Nat.reduceSub, Nat.zero_add, Nat.sub_self, Nat.sub_zero, List.replicate_zero, List.replicate_succ, List.cons_append, List.nil_append, List.append_nil, List.getElem?_cons_zero, List.getElem?_cons_succ, List.set_cons_zero, List.set_cons_succ, List.set_nil, List.getElem?_nil, Option.some.injEq, exists_eq_left', exists_eq_left, exists_eq_right, reduceCtorEq, false_and, and_false, true_and, and_true, exists_false, exists_const, wipeR, Nat.zero_le, String.reduceEq, D.int.injEq, D.str.injEq, D.bl.injEq, atI_0, atI_1, atI_2, atI_3, atI_4, beq_self_eq_true, not_true_eq_false, not_false_eq_true, Int.cast_ofNat_Int, Int.reduceEq, Int.reduceLE, Int.reduceLT, Int.reduceAdd, Int.reduceSub, Int.reduceMul, Int.reduceNeg, if_true, if_false, ite_true, ite_false, Bool.false_eq_true, if_neg, if_pos, decide_eq_true_eq, Bool.not_eq_true', decide_eq_false_iff_not, eq_self_iff_true, decide_true, decide_false, Bool.not_true, Bool.not_false]
    by_cases hwz : w = z
    · subst hwz
      have hr : rep w tl w = tl := by unfold rep; rw [if_pos rfl]
      rw [hr] at hnext hlen
      simp only [wp_ok, wp_ret, wp_stuck, wp_bad, wp_bnd, wp_if, wp_fif, wps_ok_nx, wps_ok_rt, wps_ok_bk, wps_ok_ct, wps_ok_xc, wps_bad, wps_lft, wps_seq, wps_nil, wps_ret, wps_expr, wps_asg, wps_if, wp_run, wps_for, wps_while, wp_comp, wp_var, wp_C, wp_bin, wp_un, wp_T, wp_Tb, wp_asBl, wp_truthBl, wp_bAnd, wp_bOr, wp_bNot, wp_eIf, wp_eAnd, wp_eOr, wp_eNot, blCase_bl, wp_chain, wp_aNil, wp_aCons, wp_tup, wp_lst, wp_lstM, wp_call, wp_cl1, wp_cl2, wp_cl3, wp_cl4, wp_cl5, wp_meth, wp_isi, wp_oNone, wp_oSome, wp_sl, wp_it, wp_range1, wp_range2, wp_bYes, gEq_str, gNe_str, gEq_int, gNe_int, gEq_bl, gNe_bl, gIs_bl, gIsNot_bl, gAdd_int, gSub_int, gC_int, gI_int, gAdd_str, gAdd_tup, gAdd_lst, gNeg_int, gIx_tup, gIx_lst, gLen_tup, gLen_lst, gLen_str, gInt_int, gInt_bl, gTuple_lst, gTuple_tup, gList_lst, gList_tup, gSl_tup, gSl_lst, gSl_fl, gSl_str, srcL_tup, srcL_lst, srcL_fl, srcL_str, srcR1_int, typN, startR, List.map_cons, List.map_nil, List.length_cons, List.length_nil, Nat.reduceAdd, Nat.reduceSub, Nat.zero_add, Nat.sub_self, Nat.sub_zero, List.replicate_zero, List.replicate_succ, List.cons_append, List.nil_append, List.append_nil, List.getElem?_cons_zero, List.getElem?_cons_succ, List.set_cons_zero, List.set_cons_succ, List.set_nil, List.getElem?_nil, Option.some.injEq, exists_eq_left', exists_eq_left, exists_eq_right, reduceCtorEq, false_and, and_false, true_and, and_true, exists_false, exists_const, wipeR, Nat.zero_le, String.reduceEq, D.int.injEq, D.str.injEq, D.bl.injEq, atI_0, atI_1, atI_2, atI_3, atI_4, beq_self_eq_true, not_true_eq_false, not_false_eq_true, Int.cast_ofNat_Int, Int.reduceEq, Int.reduceLE, Int.reduceLT, Int.reduceAdd, Int.reduceSub, Int.reduceMul, Int.reduceNeg, if_true, if_false, ite_true, ite_false, Bool.false_eq_true, if_neg, if_pos, decide_eq_true_eq, Bool.not_eq_true', decide_eq_false_iff_not, eq_self_iff_true, decide_true, decide_false, Bool.not_true, Bool.not_false]
      by_cases htl : tl = []
      · have : Str.join ⟨#[32]⟩ tl = Str.ofString "" := (join_nil fun t ht => (h2 t ht).1).mpr htl
        rw [this]
        simp only [wp_ok, wp_ret, wp_stuck, wp_bad, wp_bnd, wp_if, wp_fif, wps_ok_nx, wps_ok_rt, wps_ok_bk, wps_ok_ct, wps_ok_xc, wps_bad, wps_lft, wps_seq, wps_nil, wps_ret, wps_expr, wps_asg, wps_if, wp_run, wps_for, wps_while, wp_comp, wp_var, wp_C, wp_bin, wp_un, wp_T, wp_Tb, wp_asBl, wp_truthBl, wp_bAnd, wp_bOr, wp_bNot, wp_eIf, wp_eAnd, wp_eOr, wp_eNot, blCase_bl, wp_chain, wp_aNil, wp_aCons, wp_tup, wp_lst, wp_lstM, wp_call, wp_cl1, wp_cl2, wp_cl3, wp_cl4, wp_cl5, wp_meth, wp_isi, wp_oNone, wp_oSome, wp_sl, wp_it, wp_range1, wp_range2, wp_bYes, gEq_str, gNe_str, gEq_int, gNe_int, gEq_bl, gNe_bl, gIs_bl, gIsNot_bl, gAdd_int, gSub_int, gC_int, gI_int, gAdd_str, gAdd_tup, gAdd_lst, gNeg_int, gIx_tup, gIx_lst, gLen_tup, gLen_lst, gLen_str, gInt_int, gInt_bl, gTuple_lst, gTuple_tup, gList_lst, gList_tup, gSl_tup, gSl_lst, gSl_fl, gSl_str, srcL_tup, srcL_lst, srcL_fl, srcL_str, srcR1_int, typN, startR, List.map_cons, List.map_nil, List.length_cons, List.length_nil, Nat.reduceAdd, Nat.reduceSub, Nat.zero_add, Nat.sub_self, Nat.sub_zero, List.replicate_zero, List.replicate_succ, List.cons_append, List.nil_append, List.append_nil, List.getElem?_cons_zero, List.getElem?_cons_succ, List.set_cons_zero, List.set_cons_succ, List.set_nil, List.getElem?_nil, Option.some.injEq, exists_eq_left', exists_eq_left, exists_eq_right, reduceCtorEq, false_and, and_false, true_and, and_true, exists_false, exists_const, wipeR, Nat.zero_le, String.reduceEq, D.int.injEq, D.str.injEq, D.bl.injEq, atI_0, atI_1, atI_2, atI_3, atI_4, beq_self_eq_true, not_true_eq_false, not_false_eq_true, Int.cast_ofNat_Int, Int.reduceEq, Int.reduceLE, Int.reduceLT, Int.reduceAdd, Int.reduceSub, Int.reduceMul, Int.reduceNeg, if_true, if_false, ite_true, ite_false, Bool.false_eq_true, if_neg, if_pos, decide_eq_true_eq, Bool.not_eq_true', decide_eq_false_iff_not, eq_self_iff_true, decide_true, decide_false, Bool.not_true, Bool.not_false]
        refine ⟨G, g, done, some (.str w), rfl, rfl, hg, ?_⟩
        rw [hnext, htl, List.append_nil]
      · have hne : ¬ Str.join ⟨#[32]⟩ tl = Str.ofString "" := fun e => htl ((join_nil fun t ht => (h2 t ht).1).mp e)
        simp only [hne, split_gen (a := Str.join ⟨#[32]⟩ tl) (by omega), tyS, wp_ok, wp_ret, wp_stuck, wp_bad, wp_bnd, wp_if, wp_fif, wps_ok_nx, wps_ok_rt, wps_ok_bk, wps_ok_ct, wps_ok_xc, wps_bad, wps_lft, wps_seq, wps_nil, wps_ret, wps_expr, wps_asg, wps_if, wp_run, wps_for, wps_while, wp_comp, wp_var, wp_C, wp_bin, wp_un, wp_T, wp_Tb, wp_asBl, wp_truthBl, wp_bAnd, wp_bOr, wp_bNot, wp_eIf, wp_eAnd, wp_eOr, wp_eNot, blCase_bl, wp_chain, wp_aNil, wp_aCons, wp_tup, wp_lst, wp_lstM, wp_call, wp_cl1, wp_cl2, wp_cl3, wp_cl4, wp_cl5, wp_meth, wp_isi, wp_oNone, wp_oSome, wp_sl, wp_it, wp_range1, wp_range2, wp_bYes, gEq_str, gNe_str, gEq_int, gNe_int, gEq_bl, gNe_bl, gIs_bl, gIsNot_bl, gAdd_int, gSub_int, gC_int, gI_int, gAdd_str, gAdd_tup, gAdd_lst, gNeg_int, gIx_tup, gIx_lst, gLen_tup, gLen_lst, gLen_str, gInt_int, gInt_bl, gTuple_lst, gTuple_tup, gList_lst, gList_tup, gSl_tup, gSl_lst, gSl_fl, gSl_str, srcL_tup, srcL_lst, srcL_fl, srcL_str, srcR1_int, typN, startR, List.map_cons, List.map_nil, List.length_cons, List.length_nil, Nat.reduceAdd, Nat.reduceSub, Nat.zero_add, Nat.sub_self, Nat.sub_zero, List.replicate_zero, List.replicate_succ, List.cons_append, List.nil_append, List.append_nil, List.getElem?_cons_zero, List.getElem?_cons_succ, List.set_cons_zero, List.set_cons_succ, List.set_nil, List.getElem?_nil, Option.some.injEq, exists_eq_left', exists_eq_left, exists_eq_right, reduceCtorEq, false_and, and_false, true_and, and_true, exists_false, exists_const, wipeR, Nat.zero_le, String.reduceEq, D.int.injEq, D.str.injEq, D.bl.injEq, atI_0, atI_1, atI_2, atI_3, atI_4, beq_self_eq_true, not_true_eq_false, not_false_eq_true, Int.cast_ofNat_Int, Int.reduceEq, Int.reduceLE, Int.reduceLT, Int.reduceAdd, Int.reduceSub, Int.reduceMul, Int.reduceNeg, if_true, if_false, ite_true, ite_false, Bool.false_eq_true, if_neg, if_pos, decide_eq_true_eq, Bool.not_eq_true', decide_eq_false_iff_not, eq_self_iff_true, decide_true, decide_false, Bool.not_true, Bool.not_false]
        rw [hsplit htl, gAddM_seq (a := done.map .str) (b := tl.map .str) (show iTrk (S ++ G) (.ref (S.length + g)) = some (done.map .str) from hat) rfl]
        refine ⟨by rw [sizeLine_eq, List.length_map, List.length_map]; omega, G ++ [.lst (done.map .str ++ tl.map .str)], G.length, done ++ tl, some (.str w), by rw [List.length_append], by rw [List.append_assoc], ?_, hnext.symm⟩
        rw [List.getElem?_append_right (Nat.le_refl _)]; simp
    · have hr : rep z tl w = [w] := rep_no hwz
      rw [hr] at hnext hlen
      simp only [hwz, isTy_ref hat, gAppend_ref hat, wp_ok, wp_ret, wp_stuck, wp_bad, wp_bnd, wp_if, wp_fif, wps_ok_nx, wps_ok_rt, wps_ok_bk, wps_ok_ct, wps_ok_xc, wps_bad, wps_lft, wps_seq, wps_nil, wps_ret, wps_expr, wps_asg, wps_if, wp_run, wps_for, wps_while, wp_comp, wp_var, wp_C, wp_bin, wp_un, wp_T, wp_Tb, wp_asBl, wp_truthBl, wp_bAnd, wp_bOr, wp_bNot, wp_eIf, wp_eAnd, wp_eOr, wp_eNot, blCase_bl, wp_chain, wp_aNil, wp_aCons, wp_tup, wp_lst, wp_lstM, wp_call, wp_cl1, wp_cl2, wp_cl3, wp_cl4, wp_cl5, wp_meth, wp_isi, wp_oNone, wp_oSome, wp_sl, wp_it, wp_range1, wp_range2, wp_bYes, gEq_str, gNe_str, gEq_int, gNe_int, gEq_bl, gNe_bl, gIs_bl, gIsNot_bl, gAdd_int, gSub_int, gC_int, gI_int, gAdd_str, gAdd_tup, gAdd_lst, gNeg_int, gIx_tup, gIx_lst, gLen_tup, gLen_lst, gLen_str, gInt_int, gInt_bl, gTuple_lst, gTuple_tup, gList_lst, gList_tup, gSl_tup, gSl_lst, gSl_fl, gSl_str, srcL_tup, srcL_lst, srcL_fl, srcL_str, srcR1_int, typN, startR, List.map_cons, List.map_nil, List.length_cons, List.length_nil, Nat.reduceAdd, Nat.reduceSub, Nat.zero_add, Nat.sub_self, Nat.sub_zero, List.replicate_zero, List.replicate_succ, List.cons_append, List.nil_append, List.append_nil, List.getElem?_cons_zero, List.getElem?_cons_succ, List.set_cons_zero, List.set_cons_succ, List.set_nil, List.getElem?_nil, Option.some.injEq, exists_eq_left', exists_eq_left, exists_eq_right, reduceCtorEq, false_and, and_false, true_and, and_true, exists_false, exists_const, wipeR, Nat.zero_le, String.reduceEq, D.int.injEq, D.str.injEq, D.bl.injEq, atI_0, atI_1, atI_2, atI_3, atI_4, beq_self_eq_true, not_true_eq_false, not_false_eq_true, Int.cast_ofNat_Int, Int.reduceEq, Int.reduceLE, Int.reduceLT, Int.reduceAdd, Int.reduceSub, Int.reduceMul, Int.reduceNeg, if_true, if_false, ite_true, ite_false, Bool.false_eq_true, if_neg, if_pos, decide_eq_true_eq, Bool.not_eq_true', decide_eq_false_iff_not, eq_self_iff_true, decide_true, decide_false, Bool.not_true, Bool.not_false]
      refine ⟨by rw [sizeLine_eq, List.length_map]; simp only [List.length_cons, List.length_nil] at hlen; omega, G.set g (.lst (done.map .str ++ [.str w])), g, done ++ [w], some (.str w), rfl, ?_, ?_, hnext.symm⟩
      · rw [List.set_append_right _ _ (by omega), Nat.add_sub_cancel_left]
      · rw [List.getElem?_set_self hlg]; simp
  · rintro ρ S' ⟨G, g, done, o, rfl, rfl, hg, hdone⟩
    have hat : atL (S ++ G) (S.length + g) = some (done.map .str) := atL_of (by rw [List.getElem?_append_right (by omega), Nat.add_sub_cancel_left]; exact hg)
    rw [List.length_map, List.take_length] at hdone
    simp only [tyS, wp_ok, wp_ret, wp_stuck, wp_bad, wp_bnd, wp_if, wp_fif, wps_ok_nx, wps_ok_rt, wps_ok_bk, wps_ok_ct, wps_ok_xc, wps_bad, wps_lft, wps_seq, wps_nil, wps_ret, wps_expr, wps_asg, wps_if, wp_run, wps_for, wps_while, wp_comp, wp_var, wp_C, wp_bin, wp_un, wp_T, wp_Tb, wp_asBl, wp_truthBl, wp_bAnd, wp_bOr, wp_bNot, wp_eIf, wp_eAnd, wp_eOr, wp_eNot, blCase_bl, wp_chain, wp_aNil, wp_aCons, wp_tup, wp_lst, wp_lstM, wp_call, wp_cl1, wp_cl2, wp_cl3, wp_cl4, wp_cl5, wp_meth, wp_isi, wp_oNone, wp_oSome, wp_sl, wp_it, wp_range1, wp_range2, wp_bYes, gEq_str, gNe_str, gEq_int, gNe_int, gEq_bl, gNe_bl, gIs_bl, gIsNot_bl, gAdd_int, gSub_int, gC_int, gI_int, gAdd_str, gAdd_tup, gAdd_lst, gNeg_int, gIx_tup, gIx_lst, gLen_tup, gLen_lst, gLen_str, gInt_int, gInt_bl, gTuple_lst, gTuple_tup, gList_lst, gList_tup, gSl_tup, gSl_lst, gSl_fl, gSl_str, srcL_tup, srcL_lst, srcL_fl, srcL_str, srcR1_int, typN, startR, List.map_cons, List.map_nil, List.length_cons, List.length_nil, Nat.reduceAdd, Nat.reduceSub, Nat.zero_add, Nat.sub_self, Nat.sub_zero, List.replicate_zero, List.replicate_succ, List.cons_append, List.nil_append, List.append_nil, List.getElem?_cons_zero, List.getElem?_cons_succ, List.set_cons_zero, List.set_cons_succ, List.set_nil, List.getElem?_nil, Option.some.injEq, exists_eq_left', exists_eq_left, exists_eq_right, reduceCtorEq, false_and, and_false, true_and, and_true, exists_false, exists_const, wipeR, Nat.zero_le, String.reduceEq, D.int.injEq, D.str.injEq, D.bl.injEq, atI_0, atI_1, atI_2, atI_3, atI_4, beq_self_eq_true, not_true_eq_false, not_false_eq_true, Int.cast_ofNat_Int, Int.reduceEq, Int.reduceLE, Int.reduceLT, Int.reduceAdd, Int.reduceSub, Int.reduceMul, Int.reduceNeg, if_true, if_false, ite_true, ite_false, Bool.false_eq_true, if_neg, if_pos, decide_eq_true_eq, Bool.not_eq_true', decide_eq_false_iff_not, eq_self_iff_true, decide_true, decide_false, Bool.not_true, Bool.not_false]
    rw [gJoin_seq (show iLst (S ++ G) (.ref (S.length + g)) = some (done.map .str) from hat), space_len]
    have hj : Str.join ⟨#[32]⟩ done = Str.join ⟨#[32]⟩ (ts.flatMap (rep z tl)) ∧ (done.map (·.length)).sum + done.length * 1 ≤ 16777216 := by
      rcases wl with e | ⟨e0, e⟩
      · rw [hdone, e]; unfold tokLen at l3; exact ⟨rfl, by omega⟩
      · rw [hdone, e, e0]; exact ⟨show Str.join ⟨#[32]⟩ [Str.ofString ""] = Str.join ⟨#[32]⟩ [] by decide +kernel, by decide +kernel⟩
    refine ⟨hj.2, ?_⟩
    refine wp_fin (by rw [List.take_left]; exact hS) rfl ?_
    rw [List.take_left, space_eq, hj.1]; exact hF
end K69

namespace K69
open PySem L2 DL
/-! tokens are words without blanks -/
theorem istr_cps (i : Int) (h : 0 ≤ i) : (istr i).cps.toList = (Nat.toDigits 10 i.toNat).map Char.toNat := by
  obtain ⟨m, rfl⟩ := Int.eq_ofNat_of_zero_le h
  show (Str.ofString (toString ((m : Nat) : Int))).cps.toList = _
  rw [PyProof.Rows.signs_ofString]
  show (Nat.repr m).toList.map Char.toNat = _
  rw [Nat.toList_repr]; rfl
theorem istr_sign {i : Int} (h : 0 ≤ i) {c : Nat} (hc : c ∈ (istr i).cps.toList) : 48 ≤ c ∧ c ≤ 57 := by
  rw [istr_cps i h] at hc
  obtain ⟨ch, hch, e⟩ := List.mem_map.mp hc
  have r := PyProof.Rows.digit_range (Nat.isDigit_of_mem_toDigits (by decide) (by decide) hch)
  rw [← e]; exact r
theorem istr_len {i : Int} (h : 0 ≤ i) (h1 : i < 1000000000000) : 1 ≤ (istr i).length ∧ (istr i).length ≤ 12 := by
  rw [str_len, istr_cps i h, List.length_map]
  exact ⟨PySem.toDigits_len_ge 10 _, PySem.toDigits_len_pow (by decide) (by decide) (show i.toNat < 10 ^ 12 by omega)⟩
def GTok (t : Str) : Prop := OkTok t ∧ t.length ≤ 100
theorem small_free : (32 : Nat) ∉ small := by decide
theorem basics_pos : ∀ z ∈ basics, 1 ≤ z.length := by decide +kernel
theorem IsSh.sign {z : Str} (h : IsSh z) : 1 ≤ z.length ∧ (45 : Nat) ∈ z.cps.toList ∧ ∀ c ∈ z.cps.toList, c = 45 ∨ (97 ≤ c ∧ c ≤ 104) := by
  obtain ⟨a, b, rfl, ⟨m, _, rfl⟩, _, hb⟩ := h
  have key : ∀ c ∈ [97, 98, 99, 100, 101, 102, 103, 104].take m, 97 ≤ c ∧ c ≤ 104 := fun c hc => by
    have : ∀ c ∈ [97, 98, 99, 100, 101, 102, 103, 104], 97 ≤ c ∧ c ≤ 104 := by decide
    exact this c (List.mem_of_mem_take hc)
  refine ⟨?_, ?_, fun c hc => ?_⟩
  · rw [str_len, app_toList, app_toList]; simp; omega
  · rw [app_toList, app_toList]; simp
  · rw [app_toList, app_toList] at hc
    simp only [List.mem_append] at hc
    rcases hc with (hc | hc) | hc
    · exact .inr (key c hc)
    · left; simpa using hc
    · exact .inr (key c (hb c hc))
theorem WS.tok {z : Str} (h : WS z) : GTok z := by
  obtain ⟨hl, h⟩ := h
  refine ⟨?_, hl⟩
  rcases h with h | h | h
  · exact ⟨basics_pos z h, basics_free z h⟩
  · exact ⟨h.1, fun hc => small_free (h.2.2.2 32 hc)⟩
  · obtain ⟨h1, _, h3⟩ := h.sign
    exact ⟨h1, fun hc => by rcases h3 32 hc with q | q <;> omega⟩
theorem num_tok {i : Int} (h : 0 ≤ i) (h1 : i < 1000000000000) : GTok (istr i) := by
  have := istr_len h h1
  exact ⟨⟨this.1, fun hc => by have := istr_sign h hc; omega⟩, by omega⟩
theorem br_tok : GTok (Str.ofString "[") ∧ GTok (Str.ofString "]") ∧ GTok (Str.ofString "{") ∧ GTok (Str.ofString "}") := by
  unfold GTok OkTok; decide +kernel
theorem tok_good {B : Nat} {Q : Str → Prop} : ∀ {j J : Nat} {t : D}, j ≤ J → ThG B Q j t → ∀ y ∈ tokT J t, GTok y
  | 0, J, t, _, h, y, hy => by
    obtain ⟨i, rfl, i0, i1⟩ := h
    rw [tokT_num, List.mem_singleton] at hy
    rw [hy]; exact num_tok i0 i1
  | j + 1, J + 1, t, hJ, h, y, hy => by
    rcases h with ⟨i, rfl, i0, i1⟩ | ⟨ws, rfl, _, hw⟩ | ⟨ts, rfl, _, ht⟩
    · rw [tokT_num, List.mem_singleton] at hy
      rw [hy]; exact num_tok i0 i1
    · rw [tokT_row] at hy
      simp only [List.cons_append, List.mem_cons, List.mem_append, List.mem_flatMap, List.not_mem_nil, or_false] at hy
      rcases hy with rfl | ⟨w, hwm, hy⟩ | rfl
      · exact br_tok.1
      · rcases hw w hwm with ⟨z, rfl, hz, _⟩ | ⟨t, rfl, q⟩
        · simp only [tokW, List.mem_singleton] at hy
          rw [hy]; exact hz.tok
        · exact tok_good (by omega) q y hy
      · exact br_tok.2.1
    · rw [tokT_list] at hy
      simp only [List.cons_append, List.mem_cons, List.mem_append, List.mem_flatMap, List.not_mem_nil, or_false] at hy
      rcases hy with rfl | ⟨t, htm, hy⟩ | rfl
      · exact br_tok.2.2.1
      · exact tok_good (by omega) (ht t htm) y hy
      · exact br_tok.2.2.2
theorem toks_good {B j J : Nat} {Q : Str → Prop} (hJ : j ≤ J) {ws : List D} (hw : ∀ w ∈ ws, WdG B Q j w) : ∀ y ∈ ws.flatMap (tokW J), GTok y := by
  intro y hy
  obtain ⟨w, hwm, hy⟩ := List.mem_flatMap.mp hy
  rcases hw w hwm with ⟨z, rfl, hz, _⟩ | ⟨t, rfl, q⟩
  · simp only [tokW, List.mem_singleton] at hy
    rw [hy]; exact hz.tok
  · exact tok_good hJ q y hy
theorem tokts_good {B j J : Nat} {Q : Str → Prop} (hJ : j ≤ J) {ts : List D} (ht : ∀ t ∈ ts, ThG B Q j t) : ∀ y ∈ ts.flatMap (tokT J), GTok y := by
  intro y hy
  obtain ⟨t, htm, hy⟩ := List.mem_flatMap.mp hy
  exact tok_good hJ (ht t htm) y hy
theorem tokLen_le {ts : List Str} (h : ∀ t ∈ ts, GTok t) : tokLen ts ≤ 101 * ts.length := by
  unfold tokLen
  induction ts with
  | nil => simp
  | cons t ts ih =>
    have := ih fun x hx => h x (List.mem_cons_of_mem _ hx)
    have h2 := (h t List.mem_cons_self).2
    simp only [List.map_cons, List.sum_cons, List.length_cons]
    omega
theorem rep_len {z : Str} {tl : List Str} {m : Nat} (h : tl.length ≤ m) (hm : 1 ≤ m) (ts : List Str) : (ts.flatMap (rep z tl)).length ≤ ts.length * m := by
  induction ts with
  | nil => simp
  | cons t ts ih =>
    have h2 : (rep z tl t).length ≤ m := by
      unfold rep
      split
      · exact h
      · exact hm
    simp only [List.flatMap_cons, List.length_append, List.length_cons]
    rw [Nat.succ_mul]; omega
theorem rep_good {z : Str} {ts tl : List Str} (h1 : ∀ t ∈ ts, GTok t) (h2 : ∀ t ∈ tl, GTok t) : ∀ t ∈ ts.flatMap (rep z tl), GTok t := by
  intro t ht
  obtain ⟨y, hy, ht⟩ := List.mem_flatMap.mp ht
  unfold rep at ht
  split at ht
  · exact h2 t ht
  · rw [List.mem_singleton.mp ht]; exact h1 y hy
theorem NameP.noTok {z : Str} (h : NameP z) : NoTok z := by
  have key : ∀ y : Str, (∃ c ∈ y.cps.toList, c ∉ small) → z ≠ y := fun y ⟨c, hc, hn⟩ e => by subst e; exact hn (h.2.2.2 c hc)
  refine ⟨key _ ⟨91, by decide +kernel, by decide⟩, key _ ⟨93, by decide +kernel, by decide⟩, key _ ⟨123, by decide +kernel, by decide⟩, key _ ⟨125, by decide +kernel, by decide⟩, fun i hi => ?_⟩
  intro e
  refine key (istr i) ?_ e.symm
  have hne : (istr i).cps.toList ≠ [] := by
    rw [istr_cps i hi]
    intro e
    have := PySem.toDigits_len_ge 10 i.toNat
    rw [List.map_eq_nil_iff.mp e] at this
    exact absurd this (by decide)
  obtain ⟨c, hc⟩ := List.exists_mem_of_ne_nil _ hne
  refine ⟨c, hc, fun hs => ?_⟩
  have h1 := istr_sign hi hc
  have : ∀ c ∈ small, 97 ≤ c := by decide
  have := this c hs
  omega
theorem NameP.noSh {z : Str} (h : NameP z) : ¬ IsSh z := fun q => by
  have := h.2.2.2 45 q.sign.2.1
  exact absurd this (by decide)
theorem NameP.ne {z : Str} (h : NameP z) : z ≠ Str.ofString "" := by
  intro e
  have := h.1
  rw [e] at this
  exact absurd this (by decide +kernel)
end K69

namespace K69
open PySem L2 DL
variable {fu n l : Nat} {R S : Sto} {F : D → Sto → Prop} {E : Exc → Sto → Prop}
/-! a told word put in place: what the law asks of one name -/
theorem shown_row {B j N : Nat} {Q : Str → Prop} {ws : List D} {b : Bool} (hN : 1 ≤ N) (hfu : 200010 ≤ fu) (hj : j ≤ 20) (hB : B ≤ 2000) (hS : OKS S) (hw : ∀ w ∈ ws, WdG B Q j w) (hl : ws.length ≤ B) (ht : (ws.flatMap (tokW 20)).length ≤ 100000)
    (hF : F (.str (Str.join ⟨#[32]⟩ (ws.flatMap (tokW 20)))) S) : wp (den fu N i_l_shown [.tup ws, .bl b] S) F E := by
  have h1 : ∀ ws : List D, (∀ w ∈ ws, WdG B Q j w) → (ws.map (msI 20)).sum = 2 * (ws.flatMap (tokW 20)).length ∧ ws.flatMap (tokI 20) = ws.flatMap (tokW 20) := by
    intro ws
    induction ws with
    | nil => intro _; exact ⟨rfl, rfl⟩
    | cons w ws ih =>
      intro h
      obtain ⟨i1, i2⟩ := ih fun x hx => h x (List.mem_cons_of_mem _ hx)
      obtain ⟨_, q2, q3⟩ := (h w List.mem_cons_self).it hj
      simp only [List.map_cons, List.sum_cons, List.flatMap_cons, List.length_append, i1, i2, q2, q3]
      refine ⟨by omega, ?_⟩; trivial
  obtain ⟨e1, e2⟩ := h1 ws hw
  have hg := tokLen_le (toks_good hj hw)
  unfold tokLen at hg
  exact shown_ok hN (by omega) hB hS (fun d hd => ((hw d hd).it hj).1) (by omega) (by omega) (by omega) (by rw [e2]; omega) (by rw [e2]; exact hF)
theorem shown_stack {B j N : Nat} {Q : Str → Prop} {ws : List D} {b : Bool} (hN : 1 ≤ N) (hfu : 200010 ≤ fu) (hj : j ≤ 20) (hB : B ≤ 2000) (hS : OKS S) (hw : ∀ w ∈ ws, ThG B Q j w) (hl : ws.length ≤ B) (ht : (ws.flatMap (tokT 20)).length ≤ 100000)
    (hF : F (.str (Str.join ⟨#[32]⟩ (ws.flatMap (tokT 20)))) S) : wp (den fu N i_l_shown [.tup ws, .bl b] S) F E := by
  have h1 : ∀ ws : List D, (∀ w ∈ ws, ThG B Q j w) → (ws.map (msI 20)).sum ≤ 2 * (ws.flatMap (tokT 20)).length ∧ ws.flatMap (tokI 20) = ws.flatMap (tokT 20) := by
    intro ws
    induction ws with
    | nil => intro _; exact ⟨Nat.le_refl _, rfl⟩
    | cons w ws ih =>
      intro h
      obtain ⟨i1, i2⟩ := ih fun x hx => h x (List.mem_cons_of_mem _ hx)
      obtain ⟨q2, q3⟩ := tokI_th (J := 20) (h w List.mem_cons_self)
      simp only [List.map_cons, List.sum_cons, List.flatMap_cons, List.length_append, i2, q2, q3]
      refine ⟨by omega, ?_⟩; trivial
  obtain ⟨e1, e2⟩ := h1 ws hw
  have hg := tokLen_le (tokts_good hj hw)
  unfold tokLen at hg
  exact shown_ok hN (by omega) hB hS (fun d hd => .inr (.inr ⟨j, hj, hw d hd⟩)) (by omega) (by omega) (by omega) (by rw [e2]; omega) (by rw [e2]; exact hF)
theorem eqD_self {m : Nat} {ds : List D} (h : Sh m (.tup ds)) (hm : m ≤ 64) : eqD S (.tup ds) (.tup ds) = some true := by
  obtain ⟨p, a, b, c⟩ := h
  have e1 : toPyS S (.tup ds) = some p := a
  have s1 : SeqAt.shaped p = true := by
    unfold SeqAt.shaped
    rw [b, decide_eq_true (by omega)]; rfl
  unfold eqD
  simp only [e1, s1, Bool.and_self, if_true, SeqAt.eqv_refl p b]
theorem gEq_self {m : Nat} {ds : List D} (h : Sh m (.tup ds)) (hm : m ≤ 64) : wp (gEq (.tup ds) (.tup ds) S) F E ↔ F (.bl true) S := by
  unfold gEq; rw [eqD_self h hm]; exact Iff.rfl
theorem gNe_self {m : Nat} {ds : List D} (h : Sh m (.tup ds)) (hm : m ≤ 64) : wp (gNe (.tup ds) (.tup ds) S) F E ↔ F (.bl false) S := by
  unfold gNe; rw [eqD_self h hm]; exact Iff.rfl
theorem WdG.sh {B j : Nat} {Q : Str → Prop} {w : D} (h : WdG B Q j w) : Sh (3 * j + 2) w := by
  rcases h with ⟨z, rfl, hz, _⟩ | ⟨t, rfl, q⟩
  · exact sh_str hz.strOk
  · exact sh2 (sh_str s_push) q.sh
structure Entry (Bk : List (Str × List D)) (z : Str) (row : List D) (Qr : Str → Prop) : Prop where
  told : Told Bk z row
  name : NameP z
  len : row.length ≤ 6
  wd : ∀ w ∈ row, WdG 6 Qr 4 w
  ne : ∀ y, Qr y → y ≠ z
  tok : (row.flatMap (tokW 20)).length ≤ 36
theorem Entry.tr {Bk : List (Str × List D)} {z : Str} {row : List D} {Qr : Str → Prop} (h : Entry Bk z row Qr) : ∀ w ∈ row, tr w := fun w hw => (h.wd w hw).tr
theorem Entry.toks {Bk : List (Str × List D)} {z : Str} {row : List D} {Qr : Str → Prop} (h : Entry Bk z row Qr) : ∀ K, 4 ≤ K → row.flatMap (tokW K) = row.flatMap (tokW 20) := fun K hK => toks_ind hK (by omega) h.wd
theorem right_ok {Bk : List (Str × List D)} {z : Str} {row ws ts : List D} {Q Qr : Str → Prop} {N : Nat} (hN : 40 ≤ N) (hfu : 200010 ≤ fu) (e : Entry Bk z row Qr) (hS : OKS S) (hw : ∀ w ∈ ws, WdG 6 Q 2 w) (hlw : ws.length ≤ 6) (htw : (ws.flatMap (tokW 20)).length ≤ 54)
    (ht : ∀ t ∈ ts, ThG 6 Q 2 t) (hlt : ts.length ≤ 6) (htt : (ts.flatMap (tokT 20)).length ≤ 54) (hF : F (.bl true) S) : wp (den fu N i_l_right [.tup ws, .tup ts, .str z, bookD Bk] S) F E := by
  obtain ⟨N', rfl⟩ : ∃ N', N = N' + 1 := ⟨N - 1, by omega⟩
  show wp (runDef false 11 (b_l_right fu (den fu N')) _ _) _ _
  have hso : PyData.strOk z = true := e.name.strOk
  have hnt := e.name.noTok
  have rl := e.len
  have tk := e.tok
  have hrg := toks_good (J := 20) (by omega) e.wd
  have hwg := toks_good (J := 20) (by omega) hw
  have htg := tokts_good (J := 20) (by omega) ht
  -- what is found
  have fg : ∀ w ∈ ws.flatMap (subW z row 18), WdG (6 * (6 + 1) + 6) (fun y => y ≠ z) (2 + 4) w := fun x hx => by
    obtain ⟨w, hwm, hx⟩ := List.mem_flatMap.mp hx
    exact subW_good (Q' := fun y => y ≠ z) (fun y _ q => q) e.wd e.ne rl (fun t ht => subT_good (fun y _ q => q) e.wd e.ne rl (by omega) t ht) (hw w hwm) x hx
  have fl : (ws.flatMap (subW z row 18)).length ≤ 6 * (6 + 1) + 6 := flat_le (Q := Q) (Q' := fun y => y ≠ z) (fun y _ q => q) e.wd e.ne rl hlw
  have sg : ∀ t ∈ ts.map (subT z row 18), ThG (6 * (6 + 1) + 6) (fun y => y ≠ z) (2 + 4) t := fun x hx => by
    obtain ⟨t, htm, rfl⟩ := List.mem_map.mp hx
    exact subT_good (fun y _ q => q) e.wd e.ne rl (by omega) t (ht t htm)
  have sl' : (ts.map (subT z row 18)).length ≤ 6 * (6 + 1) + 6 := by rw [List.length_map]; omega
  have tw := tok_words hnt e.toks (K := 20) (show 2 ≤ 18 by omega) (by omega) hw
  have tt := tok_stack hnt e.toks (K := 20) (show 2 ≤ 18 by omega) (by omega) ht
  have lw : ((ws.flatMap (tokW 20)).flatMap (rep z (row.flatMap (tokW 20)))).length ≤ 54 * 36 := Nat.le_trans (rep_len tk (by omega) _) (Nat.mul_le_mul_right 36 htw)
  have lt : ((ts.flatMap (tokT 20)).flatMap (rep z (row.flatMap (tokW 20)))).length ≤ 54 * 36 := Nat.le_trans (rep_len tk (by omega) _) (Nat.mul_le_mul_right 36 htt)
  have bt3 : ∀ p : Str × List D, gTp 3 (gNs 8 (gNs 9 (gNs 10 gN0))) (entD p) = gNs 8 (gNs 9 (gNs 10 gN0)) [.str p.1, .non, .tup p.2] := fun p => rfl
  simp only [b_l_right, bookD, srcL_tup, wp_ok, wp_ret, wp_stuck, wp_bad, wp_bnd, wp_if, wp_fif, wps_ok_nx, wps_ok_rt, wps_ok_bk, wps_ok_ct, wps_ok_xc, wps_bad, wps_lft, wps_seq, wps_nil, wps_ret, wps_expr, wps_asg, wps_if, wp_run, wps_for, wps_while, wp_comp, wp_var, wp_C, wp_bin, wp_un, wp_T, wp_Tb, wp_asBl, wp_truthBl, wp_bAnd, wp_bOr, wp_bNot, wp_eIf, wp_eAnd, wp_eOr, wp_eNot, blCase_bl, wp_chain, wp_aNil, wp_aCons, wp_tup, wp_lst, wp_lstM, wp_call, wp_cl1, wp_cl2, wp_cl3, wp_cl4, wp_cl5, wp_meth, wp_isi, wp_oNone, wp_oSome, wp_sl, wp_it, wp_range1, wp_range2, wp_bYes, gEq_str, gNe_str, gEq_int, gNe_int, gEq_bl, gNe_bl, gIs_bl, gIsNot_bl, gAdd_int, gSub_int, gC_int, gI_int, gAdd_str, gAdd_tup, gAdd_lst, gNeg_int, gIx_tup, gIx_lst, gLen_tup, gLen_lst, gLen_str, gInt_int, gInt_bl, gTuple_lst, gTuple_tup, gList_lst, gList_tup, gSl_tup, gSl_lst, gSl_fl, gSl_str, srcL_tup, srcL_lst, srcL_fl, srcL_str, srcR1_int, typN, startR, List.map_cons, List.map_nil, List.length_cons, List.length_nil, Nat.reduceAdd, Nat.reduceSub, Nat.zero_add, Nat.sub_self, Nat.sub_zero, List.replicate_zero, List.replicate_succ, List.cons_append, List.nil_append, List.append_nil, List.getElem?_cons_zero, List.getElem?_cons_succ, List.set_cons_zero, List.set_cons_succ, List.set_nil, List.getElem?_nil, Option.some.injEq, exists_eq_left', exists_eq_left, exists_eq_right, reduceCtorEq, false_and, and_false, true_and, and_true, exists_false, exists_const, wipeR, Nat.zero_le, String.reduceEq, D.int.injEq, D.str.injEq, D.bl.injEq, atI_0, atI_1, atI_2, atI_3, atI_4, beq_self_eq_true, not_true_eq_false, not_false_eq_true, Int.cast_ofNat_Int, Int.reduceEq, Int.reduceLE, Int.reduceLT, Int.reduceAdd, Int.reduceSub, Int.reduceMul, Int.reduceNeg, if_true, if_false, ite_true, ite_false, Bool.false_eq_true, if_neg, if_pos, decide_eq_true_eq, Bool.not_eq_true', decide_eq_false_iff_not, eq_self_iff_true, decide_true, decide_false, Bool.not_true, Bool.not_false]
  refine ⟨by rw [List.length_map]; exact small_line (by have := e.told.2.2; omega), ?_⟩
  refine wp_compM (fun i ys S' => S' = S ∧ (∀ y ∈ ys, y = .tup row) ∧ ((z, row) ∈ Bk.take i → ys ≠ [])) (fun _ _ _ _ => trivial) ?_ ?_ ⟨rfl, fun _ h => (List.not_mem_nil h).elim, fun h => by simp at h⟩
  · rintro i d ys S' hd ⟨rfl, hy, hm⟩
    rw [List.getElem?_map, Option.map_eq_some_iff] at hd
    obtain ⟨p, hp, rfl⟩ := hd
    refine ⟨_, rfl, ?_⟩
    simp only [wp_ok, wp_ret, wp_stuck, wp_bad, wp_bnd, wp_if, wp_fif, wps_ok_nx, wps_ok_rt, wps_ok_bk, wps_ok_ct, wps_ok_xc, wps_bad, wps_lft, wps_seq, wps_nil, wps_ret, wps_expr, wps_asg, wps_if, wp_run, wps_for, wps_while, wp_comp, wp_var, wp_C, wp_bin, wp_un, wp_T, wp_Tb, wp_asBl, wp_truthBl, wp_bAnd, wp_bOr, wp_bNot, wp_eIf, wp_eAnd, wp_eOr, wp_eNot, blCase_bl, wp_chain, wp_aNil, wp_aCons, wp_tup, wp_lst, wp_lstM, wp_call, wp_cl1, wp_cl2, wp_cl3, wp_cl4, wp_cl5, wp_meth, wp_isi, wp_oNone, wp_oSome, wp_sl, wp_it, wp_range1, wp_range2, wp_bYes, gEq_str, gNe_str, gEq_int, gNe_int, gEq_bl, gNe_bl, gIs_bl, gIsNot_bl, gAdd_int, gSub_int, gC_int, gI_int, gAdd_str, gAdd_tup, gAdd_lst, gNeg_int, gIx_tup, gIx_lst, gLen_tup, gLen_lst, gLen_str, gInt_int, gInt_bl, gTuple_lst, gTuple_tup, gList_lst, gList_tup, gSl_tup, gSl_lst, gSl_fl, gSl_str, srcL_tup, srcL_lst, srcL_fl, srcL_str, srcR1_int, typN, startR, List.map_cons, List.map_nil, List.length_cons, List.length_nil, Nat.reduceAdd, Nat.reduceSub, Nat.zero_add, Nat.sub_self, Nat.sub_zero, List.replicate_zero, List.replicate_succ, List.cons_append, List.nil_append, List.append_nil, List.getElem?_cons_zero, List.getElem?_cons_succ, List.set_cons_zero, List.set_cons_succ, List.set_nil, List.getElem?_nil, Option.some.injEq, exists_eq_left', exists_eq_left, exists_eq_right, reduceCtorEq, false_and, and_false, true_and, and_true, exists_false, exists_const, wipeR, Nat.zero_le, String.reduceEq, D.int.injEq, D.str.injEq, D.bl.injEq, atI_0, atI_1, atI_2, atI_3, atI_4, beq_self_eq_true, not_true_eq_false, not_false_eq_true, Int.cast_ofNat_Int, Int.reduceEq, Int.reduceLE, Int.reduceLT, Int.reduceAdd, Int.reduceSub, Int.reduceMul, Int.reduceNeg, if_true, if_false, ite_true, ite_false, Bool.false_eq_true, if_neg, if_pos, decide_eq_true_eq, Bool.not_eq_true', decide_eq_false_iff_not, eq_self_iff_true, decide_true, decide_false, Bool.not_true, Bool.not_false]
    by_cases hpz : p.1 = z
    · rw [if_pos hpz]
      have : p.2 = row := e.told.uniq (by rw [← hpz]; exact List.mem_of_getElem? hp)
      refine ⟨fun y hy' => ?_, fun _ => by simp⟩
      rw [List.mem_append, List.mem_singleton] at hy'
      rcases hy' with hy' | rfl
      · exact hy y hy'
      · rw [this]
    · rw [if_neg hpz]
      refine ⟨hy, fun h => hm ?_⟩
      rw [List.take_succ, hp] at h
      rcases List.mem_append.mp h with h | h
      · exact h
      · exfalso
        have : (z, row) = p := by simpa using h
        rw [← this] at hpz; exact hpz rfl
  · rintro ys S' ⟨rfl, hy, hm⟩
    rw [List.length_map, List.take_length] at hm
    have hne := hm e.told.2.1
    obtain ⟨y, ys', rfl⟩ : ∃ y ys', ys = y :: ys' := by
      cases ys with
      | nil => exact absurd rfl hne
      | cons y ys' => exact ⟨y, ys', rfl⟩
    obtain rfl := hy y List.mem_cons_self
    simp only [wp_ok, wp_ret, wp_stuck, wp_bad, wp_bnd, wp_if, wp_fif, wps_ok_nx, wps_ok_rt, wps_ok_bk, wps_ok_ct, wps_ok_xc, wps_bad, wps_lft, wps_seq, wps_nil, wps_ret, wps_expr, wps_asg, wps_if, wp_run, wps_for, wps_while, wp_comp, wp_var, wp_C, wp_bin, wp_un, wp_T, wp_Tb, wp_asBl, wp_truthBl, wp_bAnd, wp_bOr, wp_bNot, wp_eIf, wp_eAnd, wp_eOr, wp_eNot, blCase_bl, wp_chain, wp_aNil, wp_aCons, wp_tup, wp_lst, wp_lstM, wp_call, wp_cl1, wp_cl2, wp_cl3, wp_cl4, wp_cl5, wp_meth, wp_isi, wp_oNone, wp_oSome, wp_sl, wp_it, wp_range1, wp_range2, wp_bYes, gEq_str, gNe_str, gEq_int, gNe_int, gEq_bl, gNe_bl, gIs_bl, gIsNot_bl, gAdd_int, gSub_int, gC_int, gI_int, gAdd_str, gAdd_tup, gAdd_lst, gNeg_int, gIx_tup, gIx_lst, gLen_tup, gLen_lst, gLen_str, gInt_int, gInt_bl, gTuple_lst, gTuple_tup, gList_lst, gList_tup, gSl_tup, gSl_lst, gSl_fl, gSl_str, srcL_tup, srcL_lst, srcL_fl, srcL_str, srcR1_int, typN, startR, List.map_cons, List.map_nil, List.length_cons, List.length_nil, Nat.reduceAdd, Nat.reduceSub, Nat.zero_add, Nat.sub_self, Nat.sub_zero, List.replicate_zero, List.replicate_succ, List.cons_append, List.nil_append, List.append_nil, List.getElem?_cons_zero, List.getElem?_cons_succ, List.set_cons_zero, List.set_cons_succ, List.set_nil, List.getElem?_nil, Option.some.injEq, exists_eq_left', exists_eq_left, exists_eq_right, reduceCtorEq, false_and, and_false, true_and, and_true, exists_false, exists_const, wipeR, Nat.zero_le, String.reduceEq, D.int.injEq, D.str.injEq, D.bl.injEq, atI_0, atI_1, atI_2, atI_3, atI_4, beq_self_eq_true, not_true_eq_false, not_false_eq_true, Int.cast_ofNat_Int, Int.reduceEq, Int.reduceLE, Int.reduceLT, Int.reduceAdd, Int.reduceSub, Int.reduceMul, Int.reduceNeg, if_true, if_false, ite_true, ite_false, Bool.false_eq_true, if_neg, if_pos, decide_eq_true_eq, Bool.not_eq_true', decide_eq_false_iff_not, eq_self_iff_true, decide_true, decide_false, Bool.not_true, Bool.not_false]
    refine shown_row (by omega) hfu (by omega) (by omega) hS e.wd rl (by omega) ?_
    refine in_place_ok e.told hso e.tr (by omega) (by omega) (J := 18) (by omega) (by omega) (by omega) hlw hw hS ?_
    refine stack_in_place_ok e.told hso e.tr (by omega) (by omega) (J := 18) (by omega) (by omega) (by omega) hlt ht hS ?_
    refine row_ok (by omega) fl fg (by omega) hS ?_
    refine stack_ok (by omega) sl' sg (by omega) hS ?_
    refine shown_row (by omega) hfu (by omega) (by omega) hS fg fl (by rw [tw]; omega) ?_
    refine shown_row (by omega) hfu (by omega) (by omega) hS hw hlw (by omega) ?_
    have b1 := tokLen_le hwg
    have b2 := tokLen_le hrg
    have b3 := tokLen_le (rep_good (z := z) hwg hrg)
    have c1 := tokLen_le htg
    have c3 := tokLen_le (rep_good (z := z) htg hrg)
    refine due_ok (by omega) hS (fun t h => (hwg t h).1) (fun t h => (hrg t h).1) e.name.ne (by omega) (by omega) (by omega) ?_
    simp only [tw, wp_ok, wp_ret, wp_stuck, wp_bad, wp_bnd, wp_if, wp_fif, wps_ok_nx, wps_ok_rt, wps_ok_bk, wps_ok_ct, wps_ok_xc, wps_bad, wps_lft, wps_seq, wps_nil, wps_ret, wps_expr, wps_asg, wps_if, wp_run, wps_for, wps_while, wp_comp, wp_var, wp_C, wp_bin, wp_un, wp_T, wp_Tb, wp_asBl, wp_truthBl, wp_bAnd, wp_bOr, wp_bNot, wp_eIf, wp_eAnd, wp_eOr, wp_eNot, blCase_bl, wp_chain, wp_aNil, wp_aCons, wp_tup, wp_lst, wp_lstM, wp_call, wp_cl1, wp_cl2, wp_cl3, wp_cl4, wp_cl5, wp_meth, wp_isi, wp_oNone, wp_oSome, wp_sl, wp_it, wp_range1, wp_range2, wp_bYes, gEq_str, gNe_str, gEq_int, gNe_int, gEq_bl, gNe_bl, gIs_bl, gIsNot_bl, gAdd_int, gSub_int, gC_int, gI_int, gAdd_str, gAdd_tup, gAdd_lst, gNeg_int, gIx_tup, gIx_lst, gLen_tup, gLen_lst, gLen_str, gInt_int, gInt_bl, gTuple_lst, gTuple_tup, gList_lst, gList_tup, gSl_tup, gSl_lst, gSl_fl, gSl_str, srcL_tup, srcL_lst, srcL_fl, srcL_str, srcR1_int, typN, startR, List.map_cons, List.map_nil, List.length_cons, List.length_nil, Nat.reduceAdd, Nat.reduceSub, Nat.zero_add, Nat.sub_self, Nat.sub_zero, List.replicate_zero, List.replicate_succ, List.cons_append, List.nil_append, List.append_nil, List.getElem?_cons_zero, List.getElem?_cons_succ, List.set_cons_zero, List.set_cons_succ, List.set_nil, List.getElem?_nil, Option.some.injEq, exists_eq_left', exists_eq_left, exists_eq_right, reduceCtorEq, false_and, and_false, true_and, and_true, exists_false, exists_const, wipeR, Nat.zero_le, String.reduceEq, D.int.injEq, D.str.injEq, D.bl.injEq, atI_0, atI_1, atI_2, atI_3, atI_4, beq_self_eq_true, not_true_eq_false, not_false_eq_true, Int.cast_ofNat_Int, Int.reduceEq, Int.reduceLE, Int.reduceLT, Int.reduceAdd, Int.reduceSub, Int.reduceMul, Int.reduceNeg, if_true, if_false, ite_true, ite_false, Bool.false_eq_true, if_neg, if_pos, decide_eq_true_eq, Bool.not_eq_true', decide_eq_false_iff_not, eq_self_iff_true, decide_true, decide_false, Bool.not_true, Bool.not_false]
    refine shown_stack (by omega) hfu (by omega) (by omega) hS sg sl' (by rw [tt]; omega) ?_
    refine shown_stack (by omega) hfu (by omega) (by omega) hS ht hlt (by omega) ?_
    refine due_ok (by omega) hS (fun t h => (htg t h).1) (fun t h => (hrg t h).1) e.name.ne (by omega) (by omega) (by omega) ?_
    simp only [tt, wp_ok, wp_ret, wp_stuck, wp_bad, wp_bnd, wp_if, wp_fif, wps_ok_nx, wps_ok_rt, wps_ok_bk, wps_ok_ct, wps_ok_xc, wps_bad, wps_lft, wps_seq, wps_nil, wps_ret, wps_expr, wps_asg, wps_if, wp_run, wps_for, wps_while, wp_comp, wp_var, wp_C, wp_bin, wp_un, wp_T, wp_Tb, wp_asBl, wp_truthBl, wp_bAnd, wp_bOr, wp_bNot, wp_eIf, wp_eAnd, wp_eOr, wp_eNot, blCase_bl, wp_chain, wp_aNil, wp_aCons, wp_tup, wp_lst, wp_lstM, wp_call, wp_cl1, wp_cl2, wp_cl3, wp_cl4, wp_cl5, wp_meth, wp_isi, wp_oNone, wp_oSome, wp_sl, wp_it, wp_range1, wp_range2, wp_bYes, gEq_str, gNe_str, gEq_int, gNe_int, gEq_bl, gNe_bl, gIs_bl, gIsNot_bl, gAdd_int, gSub_int, gC_int, gI_int, gAdd_str, gAdd_tup, gAdd_lst, gNeg_int, gIx_tup, gIx_lst, gLen_tup, gLen_lst, gLen_str, gInt_int, gInt_bl, gTuple_lst, gTuple_tup, gList_lst, gList_tup, gSl_tup, gSl_lst, gSl_fl, gSl_str, srcL_tup, srcL_lst, srcL_fl, srcL_str, srcR1_int, typN, startR, List.map_cons, List.map_nil, List.length_cons, List.length_nil, Nat.reduceAdd, Nat.reduceSub, Nat.zero_add, Nat.sub_self, Nat.sub_zero, List.replicate_zero, List.replicate_succ, List.cons_append, List.nil_append, List.append_nil, List.getElem?_cons_zero, List.getElem?_cons_succ, List.set_cons_zero, List.set_cons_succ, List.set_nil, List.getElem?_nil, Option.some.injEq, exists_eq_left', exists_eq_left, exists_eq_right, reduceCtorEq, false_and, and_false, true_and, and_true, exists_false, exists_const, wipeR, Nat.zero_le, String.reduceEq, D.int.injEq, D.str.injEq, D.bl.injEq, atI_0, atI_1, atI_2, atI_3, atI_4, beq_self_eq_true, not_true_eq_false, not_false_eq_true, Int.cast_ofNat_Int, Int.reduceEq, Int.reduceLE, Int.reduceLT, Int.reduceAdd, Int.reduceSub, Int.reduceMul, Int.reduceNeg, if_true, if_false, ite_true, ite_false, Bool.false_eq_true, if_neg, if_pos, decide_eq_true_eq, Bool.not_eq_true', decide_eq_false_iff_not, eq_self_iff_true, decide_true, decide_false, Bool.not_true, Bool.not_false]
    refine in_place_ok e.told hso e.tr (by omega) (by omega) (J := 18) (by omega) (by omega) (by omega) fl fg hS ?_
    rw [words_id (fun y q => q) fg]
    have shw : Sh (3 * 6 + 2 + 1) (.tup (ws.flatMap (subW z row 18))) := sh_tup fun d hd => (fg d hd).sh
    have sht : Sh (3 * 6 + 1 + 1) (.tup (ts.map (subT z row 18))) := sh_tup fun d hd => (sg d hd).sh
    simp only [gNe_self shw (by omega), wp_ok, wp_ret, wp_stuck, wp_bad, wp_bnd, wp_if, wp_fif, wps_ok_nx, wps_ok_rt, wps_ok_bk, wps_ok_ct, wps_ok_xc, wps_bad, wps_lft, wps_seq, wps_nil, wps_ret, wps_expr, wps_asg, wps_if, wp_run, wps_for, wps_while, wp_comp, wp_var, wp_C, wp_bin, wp_un, wp_T, wp_Tb, wp_asBl, wp_truthBl, wp_bAnd, wp_bOr, wp_bNot, wp_eIf, wp_eAnd, wp_eOr, wp_eNot, blCase_bl, wp_chain, wp_aNil, wp_aCons, wp_tup, wp_lst, wp_lstM, wp_call, wp_cl1, wp_cl2, wp_cl3, wp_cl4, wp_cl5, wp_meth, wp_isi, wp_oNone, wp_oSome, wp_sl, wp_it, wp_range1, wp_range2, wp_bYes, gEq_str, gNe_str, gEq_int, gNe_int, gEq_bl, gNe_bl, gIs_bl, gIsNot_bl, gAdd_int, gSub_int, gC_int, gI_int, gAdd_str, gAdd_tup, gAdd_lst, gNeg_int, gIx_tup, gIx_lst, gLen_tup, gLen_lst, gLen_str, gInt_int, gInt_bl, gTuple_lst, gTuple_tup, gList_lst, gList_tup, gSl_tup, gSl_lst, gSl_fl, gSl_str, srcL_tup, srcL_lst, srcL_fl, srcL_str, srcR1_int, typN, startR, List.map_cons, List.map_nil, List.length_cons, List.length_nil, Nat.reduceAdd, Nat.reduceSub, Nat.zero_add, Nat.sub_self, Nat.sub_zero, List.replicate_zero, List.replicate_succ, List.cons_append, List.nil_append, List.append_nil, List.getElem?_cons_zero, List.getElem?_cons_succ, List.set_cons_zero, List.set_cons_succ, List.set_nil, List.getElem?_nil, Option.some.injEq, exists_eq_left', exists_eq_left, exists_eq_right, reduceCtorEq, false_and, and_false, true_and, and_true, exists_false, exists_const, wipeR, Nat.zero_le, String.reduceEq, D.int.injEq, D.str.injEq, D.bl.injEq, atI_0, atI_1, atI_2, atI_3, atI_4, beq_self_eq_true, not_true_eq_false, not_false_eq_true, Int.cast_ofNat_Int, Int.reduceEq, Int.reduceLE, Int.reduceLT, Int.reduceAdd, Int.reduceSub, Int.reduceMul, Int.reduceNeg, if_true, if_false, ite_true, ite_false, Bool.false_eq_true, if_neg, if_pos, decide_eq_true_eq, Bool.not_eq_true', decide_eq_false_iff_not, eq_self_iff_true, decide_true, decide_false, Bool.not_true, Bool.not_false]
    refine stack_in_place_ok e.told hso e.tr (by omega) (by omega) (J := 18) (by omega) (by omega) (by omega) sl' sg hS ?_
    have eid : (ts.map (subT z row 18)).map (subT z row 18) = ts.map (subT z row 18) :=
      (List.map_congr_left fun t htm => subT_id (fun y q => q) (sg t htm)).trans (List.map_id _)
    rw [eid]
    simp only [gEq_self sht (by omega), wp_ok, wp_ret, wp_stuck, wp_bad, wp_bnd, wp_if, wp_fif, wps_ok_nx, wps_ok_rt, wps_ok_bk, wps_ok_ct, wps_ok_xc, wps_bad, wps_lft, wps_seq, wps_nil, wps_ret, wps_expr, wps_asg, wps_if, wp_run, wps_for, wps_while, wp_comp, wp_var, wp_C, wp_bin, wp_un, wp_T, wp_Tb, wp_asBl, wp_truthBl, wp_bAnd, wp_bOr, wp_bNot, wp_eIf, wp_eAnd, wp_eOr, wp_eNot, blCase_bl, wp_chain, wp_aNil, wp_aCons, wp_tup, wp_lst, wp_lstM, wp_call, wp_cl1, wp_cl2, wp_cl3, wp_cl4, wp_cl5, wp_meth, wp_isi, wp_oNone, wp_oSome, wp_sl, wp_it, wp_range1, wp_range2, wp_bYes, gEq_str, gNe_str, gEq_int, gNe_int, gEq_bl, gNe_bl, gIs_bl, gIsNot_bl, gAdd_int, gSub_int, gC_int, gI_int, gAdd_str, gAdd_tup, gAdd_lst, gNeg_int, gIx_tup, gIx_lst, gLen_tup, gLen_lst, gLen_str, gInt_int, gInt_bl, gTuple_lst, gTuple_tup, gList_lst, gList_tup, gSl_tup, gSl_lst, gSl_fl, gSl_str, srcL_tup, srcL_lst, srcL_fl, srcL_str, srcR1_int, typN, startR, List.map_cons, List.map_nil, List.length_cons, List.length_nil, Nat.reduceAdd, Nat.reduceSub, Nat.zero_add, Nat.sub_self, Nat.sub_zero, List.replicate_zero, List.replicate_succ, List.cons_append, List.nil_append, List.append_nil, List.getElem?_cons_zero, List.getElem?_cons_succ, List.set_cons_zero, List.set_cons_succ, List.set_nil, List.getElem?_nil, Option.some.injEq, exists_eq_left', exists_eq_left, exists_eq_right, reduceCtorEq, false_and, and_false, true_and, and_true, exists_false, exists_const, wipeR, Nat.zero_le, String.reduceEq, D.int.injEq, D.str.injEq, D.bl.injEq, atI_0, atI_1, atI_2, atI_3, atI_4, beq_self_eq_true, not_true_eq_false, not_false_eq_true, Int.cast_ofNat_Int, Int.reduceEq, Int.reduceLE, Int.reduceLT, Int.reduceAdd, Int.reduceSub, Int.reduceMul, Int.reduceNeg, if_true, if_false, ite_true, ite_false, Bool.false_eq_true, if_neg, if_pos, decide_eq_true_eq, Bool.not_eq_true', decide_eq_false_iff_not, eq_self_iff_true, decide_true, decide_false, Bool.not_true, Bool.not_false]
    exact (fin_blO hS).mpr hF
end K69

namespace K69
open PySem L2 DL
variable {fu n l : Nat} {R S : Sto} {F : D → Sto → Prop} {E : Exc → Sto → Prop}
/-! the law -/
theorem cut63 {ns : List Int} (h : ns.length ≤ 63) : cutD (ns.map D.int) none (some 63) = ns.map D.int := by
  have e : cutD (ns.map D.int) none (some ((63 : Nat) : Int)) = (ns.map D.int).take 63 := by
    unfold cutD
    rw [HT.sIx_nat, HT.sIx_none, List.length_map, Nat.min_eq_right h]; simp
    omega
  have e2 : (ns.map D.int).take 63 = ns.map D.int := List.take_of_length_le (by simpa using h)
  rw [e2] at e; exact e
theorem deck_ok {ns : List Int} {N : Nat} (hN : 1 ≤ N) (hl : ns.length ≤ 63) (hF : ∀ S0, DS S0 S0 → F (.ref 1) S0) : wp (den fu N i_l_deck [.fl (ns.map .int)] []) F E := by
  obtain ⟨N', rfl⟩ : ∃ N', N = N' + 1 := ⟨N - 1, by omega⟩
  show wp (runDef true 1 (b_l_deck fu (den fu N')) _ _) _ _
  have gs : ∀ {S : Sto} {F E}, wp (gSum [.lst (ns.map .int)] S) F E ↔ F (.int ns.sum) S := fun {S F E} => by
    have e : gSum [.lst (ns.map .int)] S = .ok (.int ns.sum) S := by
      unfold gSum
      simp only [show iSeq S (.lst (ns.map .int)) = some (ns.map .int) from rfl, Option.bind_some, intsOf_map]
    rw [e]; exact Iff.rfl
  have gr : ∀ {F E}, wp (gRev true (.lst (ns.map .int)) []) F E ↔ F (.ref 0) [.lst (ns.map .int).reverse] := fun {F E} => Iff.rfl
  simp only [b_l_deck, cut63 hl, gs, gr, wp_ok, wp_ret, wp_stuck, wp_bad, wp_bnd, wp_if, wp_fif, wps_ok_nx, wps_ok_rt, wps_ok_bk, wps_ok_ct, wps_ok_xc, wps_bad, wps_lft, wps_seq, wps_nil, wps_ret, wps_expr, wps_asg, wps_if, wp_run, wps_for, wps_while, wp_comp, wp_var, wp_C, wp_bin, wp_un, wp_T, wp_Tb, wp_asBl, wp_truthBl, wp_bAnd, wp_bOr, wp_bNot, wp_eIf, wp_eAnd, wp_eOr, wp_eNot, blCase_bl, wp_chain, wp_aNil, wp_aCons, wp_tup, wp_lst, wp_lstM, wp_call, wp_cl1, wp_cl2, wp_cl3, wp_cl4, wp_cl5, wp_meth, wp_isi, wp_oNone, wp_oSome, wp_sl, wp_it, wp_range1, wp_range2, wp_bYes, gEq_str, gNe_str, gEq_int, gNe_int, gEq_bl, gNe_bl, gIs_bl, gIsNot_bl, gAdd_int, gSub_int, gC_int, gI_int, gAdd_str, gAdd_tup, gAdd_lst, gNeg_int, gIx_tup, gIx_lst, gLen_tup, gLen_lst, gLen_str, gInt_int, gInt_bl, gTuple_lst, gTuple_tup, gList_lst, gList_tup, gSl_tup, gSl_lst, gSl_fl, gSl_str, srcL_tup, srcL_lst, srcL_fl, srcL_str, srcR1_int, typN, startR, List.map_cons, List.map_nil, List.length_cons, List.length_nil, Nat.reduceAdd, Nat.reduceSub, Nat.zero_add, Nat.sub_self, Nat.sub_zero, List.replicate_zero, List.replicate_succ, List.cons_append, List.nil_append, List.append_nil, List.getElem?_cons_zero, List.getElem?_cons_succ, List.set_cons_zero, List.set_cons_succ, List.set_nil, List.getElem?_nil, Option.some.injEq, exists_eq_left', exists_eq_left, exists_eq_right, reduceCtorEq, false_and, and_false, true_and, and_true, exists_false, exists_const, wipeR, Nat.zero_le, String.reduceEq, D.int.injEq, D.str.injEq, D.bl.injEq, atI_0, atI_1, atI_2, atI_3, atI_4, beq_self_eq_true, not_true_eq_false, not_false_eq_true, Int.cast_ofNat_Int, Int.reduceEq, Int.reduceLE, Int.reduceLT, Int.reduceAdd, Int.reduceSub, Int.reduceMul, Int.reduceNeg, if_true, if_false, ite_true, ite_false, Bool.false_eq_true, if_neg, if_pos, decide_eq_true_eq, Bool.not_eq_true', decide_eq_false_iff_not, eq_self_iff_true, decide_true, decide_false, Bool.not_true, Bool.not_false]
  refine ⟨small_line (by decide), ?_⟩
  rw [← List.map_reverse]
  refine hF _ ⟨⟨by simp, fun i m hi hm => ?_⟩, ns.reverse, _, _, by simp; omega, rfl⟩
  have := (List.getElem?_eq_some_iff.mp hm).1
  simp at this; omega
theorem DS.drawer {c : Nat} (h : DS R S) : LS (R ++ [.lst [.int (c : Nat)]]) S.length c (S ++ [.lst [.int (c : Nat)]]) := by
  have hl := h.len
  refine ⟨h.two, by simp [hl], ?_⟩
  have : (R ++ [MO.lst [.int (c : Nat)]]).set S.length (.lst [.int (c : Nat)]) = R ++ [.lst [.int (c : Nat)]] := by
    rw [hl, List.set_append_right _ _ (Nat.le_refl _)]; simp
  rw [this]; exact h.push rfl
/-- the drawn book -/
structure Drawn (L : List Str) (m : Nat) (Bk : List (Str × List D)) : Prop where
  fst : Bk.map (·.1) = L.take m
  ent : ∀ (i : Nat) (z : Str) (row : List D), Bk[i]? = some (z, row) → row.length ≤ 6 ∧ (∀ w ∈ row, WdG 6 (QL (L.take i ++ [Str.ofString "a-a"])) 4 w) ∧ (row.flatMap (tokW 20)).length ≤ 36
theorem aa_sign : (45 : Nat) ∈ (Str.ofString "a-a").cps.toList := by decide +kernel
theorem NameP.ne_aa {z : Str} (h : NameP z) : z ≠ Str.ofString "a-a" := by
  rintro rfl
  have := h.2.2.2 45 aa_sign
  exact absurd this (by decide)
theorem Drawn.entry {L : List Str} {Bk : List (Str × List D)} (hL : Names L) (h : Drawn L L.length Bk) {i : Nat} {z : Str} {row : List D} (hi : Bk[i]? = some (z, row)) : Entry Bk z row (QL (L.take i ++ [Str.ofString "a-a"])) := by
  have hf : Bk.map (·.1) = L := by rw [h.fst, List.take_length]
  have hli : L[i]? = some z := by rw [← hf, List.getElem?_map, hi]; rfl
  have hzm : z ∈ L := List.mem_of_getElem? hli
  have hn := hL.2.2.2 z hzm
  obtain ⟨e1, e2, e3⟩ := h.ent i z row hi
  refine ⟨⟨by rw [hf]; exact hL.2.2.1, List.mem_of_getElem? hi, ?_⟩, hn, e1, e2, ?_, e3⟩
  · have := congrArg List.length hf
    rw [List.length_map] at this
    have := hL.2.1
    omega
  · intro y hy e
    subst e
    rcases hy with hy | hy | hy
    · exact hn.2.2.1 hy
    · exact hn.noSh hy
    · rw [List.mem_append, List.mem_singleton] at hy
      rcases hy with hy | hy
      · obtain ⟨k, hk⟩ := List.mem_iff_getElem?.mp hy
        rw [List.getElem?_take] at hk
        split at hk
        · rename_i hki
          obtain ⟨l1, g1⟩ := List.getElem?_eq_some_iff.mp hk
          obtain ⟨l2, g2⟩ := List.getElem?_eq_some_iff.mp hli
          have := (List.getElem_inj hL.2.2.1).mp (g1.trans g2.symm)
          omega
        · cases hk
      · exact hn.ne_aa hy
theorem row_draw {L : List Str} {deep c N : Nat} (hL : ∀ z ∈ L, WS z) (hL1 : 1 ≤ L.length) (hL2 : L.length ≤ 1000) (hd : deep ≤ 4) (hN : 20 ≤ N) (h : DS R S) (hF : ∀ ws S' R', ws.length ≤ 6 → (∀ w ∈ ws, WdG 6 (QL L) deep w) → (ws.flatMap (tokW 20)).length ≤ 3 * c → DS R' S' → F (.tup ws) S') :
    wp (den fu N i_l_row [.ref 1, .lst (L.map .str), .int deep, .ref S.length] (S ++ [.lst [.int (c : Nat)]])) F E := by
  refine row_gen hL hL1 hL2 (thing_gen hL hL1 hL2 deep 20 (by omega)) (by omega) (DS.drawer h) fun ws S' c' h1 h2 h3 h4 => ?_
  exact hF ws S' _ h1 h2 (by omega) h4.at_
theorem stack_draw {L : List Str} {deep c N : Nat} (hL : ∀ z ∈ L, WS z) (hL1 : 1 ≤ L.length) (hL2 : L.length ≤ 1000) (hd : deep ≤ 4) (hN : 20 ≤ N) (h : DS R S) (hF : ∀ ws S' R', ws.length ≤ 6 → (∀ w ∈ ws, ThG 6 (QL L) deep w) → (ws.flatMap (tokT 20)).length ≤ 3 * c → DS R' S' → F (.tup ws) S') :
    wp (den fu N i_l_stack [.ref 1, .lst (L.map .str), .int deep, .ref S.length] (S ++ [.lst [.int (c : Nat)]])) F E := by
  refine stack_gen hL hL1 hL2 (thing_gen hL hL1 hL2 deep 20 (by omega)) (by omega) (DS.drawer h) fun ws S' c' h1 h2 h3 h4 => ?_
  exact hF ws S' _ h1 h2 (by omega) h4.at_
end K69

namespace K69
open PySem L2 DL
variable {fu n l : Nat} {R S : Sto} {F : D → Sto → Prop} {E : Exc → Sto → Prop}
theorem NameP.ws {z : Str} (h : NameP z) : WS z := ⟨by have := h.2.1; omega, .inr (.inl h)⟩
theorem aa_sh : IsSh (Str.ofString "a-a") := ⟨[97], [97], by decide +kernel, ⟨1, by decide, rfl⟩, by decide, by decide⟩
theorem aa_ws : WS (Str.ofString "a-a") := ⟨by decide +kernel, .inr (.inr aa_sh)⟩
theorem drawn_ws {L : List Str} {i : Nat} (hL : Names L) : ∀ z ∈ L.take i ++ [Str.ofString "a-a"], WS z := by
  intro z hz
  rw [List.mem_append, List.mem_singleton] at hz
  rcases hz with hz | rfl
  · exact (hL.2.2.2 z (List.mem_of_mem_take hz)).ws
  · exact aa_ws
theorem Drawn.snoc {L : List Str} {i : Nat} {Bk : List (Str × List D)} {z : Str} {row : List D} (h : Drawn L i Bk) (hi : L[i]? = some z) (h1 : row.length ≤ 6) (h2 : ∀ w ∈ row, WdG 6 (QL (L.take i ++ [Str.ofString "a-a"])) 4 w) (h3 : (row.flatMap (tokW 20)).length ≤ 36) : Drawn L (i + 1) (Bk ++ [(z, row)]) := by
  have hl : Bk.length = i := by
    have := congrArg List.length h.fst
    rw [List.length_map, List.length_take] at this
    have := (List.getElem?_eq_some_iff.mp hi).1
    omega
  refine ⟨by rw [List.map_append, h.fst, List.take_succ, hi]; rfl, fun k y r hk => ?_⟩
  by_cases hki : k < Bk.length
  · rw [List.getElem?_append_left hki] at hk
    exact h.ent k y r hk
  · rw [List.getElem?_append_right (by omega)] at hk
    have h0 : k - Bk.length = 0 := by
      have := (List.getElem?_eq_some_iff.mp hk).1
      simp at this; omega
    rw [h0] at hk
    simp at hk
    obtain ⟨rfl, rfl⟩ := hk
    have : k = i := by omega
    subst this
    exact ⟨h1, h2, h3⟩
/-- what is left of a row behind one more word put in place -/
theorem next_ok {B j : Nat} {Bk : List (Str × List D)} {z : Str} {row ws : List D} {Q Qr : Str → Prop} (e : Entry Bk z row Qr) (hj : j ≤ 18) (hw : ∀ w ∈ ws, WdG B Q j w) (hl : ws.length ≤ B) :
    (∀ w ∈ ws.flatMap (subW z row 18), WdG (B * 7 + 6) (fun _ => True) (j + 4) w) ∧ (ws.flatMap (subW z row 18)).length ≤ B * 7 + 6 := by
  refine ⟨fun x hx => ?_, flat_le (Q := Q) (Q' := fun _ => True) (fun _ _ _ => trivial) e.wd (fun _ _ => trivial) e.len hl⟩
  obtain ⟨w, hwm, hx⟩ := List.mem_flatMap.mp hx
  exact subW_good (Q' := fun _ => True) (fun _ _ _ => trivial) e.wd (fun _ _ => trivial) e.len (fun t ht => subT_good (fun _ _ _ => trivial) e.wd (fun _ _ => trivial) e.len hj t ht) (hw w hwm) x hx
theorem place {B j N : Nat} {Bk : List (Str × List D)} {z : Str} {row ws : List D} {Q Qr : Str → Prop} (e : Entry Bk z row Qr) (hN : 40 ≤ N) (hj : j ≤ 14) (hB : B ≤ 2000) (hw : ∀ w ∈ ws, WdG B Q j w) (hl : ws.length ≤ B) (hS : OKS S) (hF : F (.tup (ws.flatMap (subW z row 18))) S) : wp (den fu N i_in_place [.tup ws, .str z, bookD Bk] S) F E :=
  in_place_ok e.told e.name.strOk e.tr (by have := e.len; omega) hB (J := 18) (by omega) (by omega) (by omega) hl hw hS hF
theorem law_ok (ns : List Int) (hl : ns.length ≤ 63) : wp (den 300000 100 i_law [.fl (ns.map .int)] []) (fun d _ => d = .bl true) (fun _ _ => False) := by
  show wp (runDef false 17 (b_law 300000 (den 300000 99)) _ _) _ _
  simp only [b_law, wp_ok, wp_ret, wp_stuck, wp_bad, wp_bnd, wp_if, wp_fif, wps_ok_nx, wps_ok_rt, wps_ok_bk, wps_ok_ct, wps_ok_xc, wps_bad, wps_lft, wps_seq, wps_nil, wps_ret, wps_expr, wps_asg, wps_if, wp_run, wps_for, wps_while, wp_comp, wp_var, wp_C, wp_bin, wp_un, wp_T, wp_Tb, wp_asBl, wp_truthBl, wp_bAnd, wp_bOr, wp_bNot, wp_eIf, wp_eAnd, wp_eOr, wp_eNot, blCase_bl, wp_chain, wp_aNil, wp_aCons, wp_tup, wp_lst, wp_lstM, wp_call, wp_cl1, wp_cl2, wp_cl3, wp_cl4, wp_cl5, wp_meth, wp_isi, wp_oNone, wp_oSome, wp_sl, wp_it, wp_range1, wp_range2, wp_bYes, gEq_str, gNe_str, gEq_int, gNe_int, gEq_bl, gNe_bl, gIs_bl, gIsNot_bl, gAdd_int, gSub_int, gC_int, gI_int, gAdd_str, gAdd_tup, gAdd_lst, gNeg_int, gIx_tup, gIx_lst, gLen_tup, gLen_lst, gLen_str, gInt_int, gInt_bl, gTuple_lst, gTuple_tup, gList_lst, gList_tup, gSl_tup, gSl_lst, gSl_fl, gSl_str, srcL_tup, srcL_lst, srcL_fl, srcL_str, srcR1_int, typN, startR, List.map_cons, List.map_nil, List.length_cons, List.length_nil, Nat.reduceAdd, Nat.reduceSub, Nat.zero_add, Nat.sub_self, Nat.sub_zero, List.replicate_zero, List.replicate_succ, List.cons_append, List.nil_append, List.append_nil, List.getElem?_cons_zero, List.getElem?_cons_succ, List.set_cons_zero, List.set_cons_succ, List.set_nil, List.getElem?_nil, Option.some.injEq, exists_eq_left', exists_eq_left, exists_eq_right, reduceCtorEq, false_and, and_false, true_and, and_true, exists_false, exists_const, wipeR, Nat.zero_le, String.reduceEq, D.int.injEq, D.str.injEq, D.bl.injEq, atI_0, atI_1, atI_2, atI_3, atI_4, beq_self_eq_true, not_true_eq_false, not_false_eq_true, Int.cast_ofNat_Int, Int.reduceEq, Int.reduceLE, Int.reduceLT, Int.reduceAdd, Int.reduceSub, Int.reduceMul, Int.reduceNeg, if_true, if_false, ite_true, ite_false, Bool.false_eq_true, if_neg, if_pos, decide_eq_true_eq, Bool.not_eq_true', decide_eq_false_iff_not, eq_self_iff_true, decide_true, decide_false, Bool.not_true, Bool.not_false]
  refine deck_ok (by decide) hl fun S0 d0 => ?_
  refine take_ok (by decide) d0 (by decide) (by decide) fun v S1 a0 a1 d1 => ?_
  obtain ⟨v, rfl⟩ := Int.eq_ofNat_of_zero_le a0
  rw [gAdd_int, show (1 : Int) + (v : Nat) = ((1 + v : Nat) : Int) by omega]
  refine names_gen (by decide) (by omega) (by omega) d1 fun L S2 hL d2 => ?_
  have hlt : (D.lst (L.map .str)).lo 0 = true := Names.tr
  have hl1 := hL.1
  have hl8 := hL.2.1
  simp only [wp_ok, wp_ret, wp_stuck, wp_bad, wp_bnd, wp_if, wp_fif, wps_ok_nx, wps_ok_rt, wps_ok_bk, wps_ok_ct, wps_ok_xc, wps_bad, wps_lft, wps_seq, wps_nil, wps_ret, wps_expr, wps_asg, wps_if, wp_run, wps_for, wps_while, wp_comp, wp_var, wp_C, wp_bin, wp_un, wp_T, wp_Tb, wp_asBl, wp_truthBl, wp_bAnd, wp_bOr, wp_bNot, wp_eIf, wp_eAnd, wp_eOr, wp_eNot, blCase_bl, wp_chain, wp_aNil, wp_aCons, wp_tup, wp_lst, wp_lstM, wp_call, wp_cl1, wp_cl2, wp_cl3, wp_cl4, wp_cl5, wp_meth, wp_isi, wp_oNone, wp_oSome, wp_sl, wp_it, wp_range1, wp_range2, wp_bYes, gEq_str, gNe_str, gEq_int, gNe_int, gEq_bl, gNe_bl, gIs_bl, gIsNot_bl, gAdd_int, gSub_int, gC_int, gI_int, gAdd_str, gAdd_tup, gAdd_lst, gNeg_int, gIx_tup, gIx_lst, gLen_tup, gLen_lst, gLen_str, gInt_int, gInt_bl, gTuple_lst, gTuple_tup, gList_lst, gList_tup, gSl_tup, gSl_lst, gSl_fl, gSl_str, srcL_tup, srcL_lst, srcL_fl, srcL_str, srcR1_int, typN, startR, List.map_cons, List.map_nil, List.length_cons, List.length_nil, Nat.reduceAdd, Nat.reduceSub, Nat.zero_add, Nat.sub_self, Nat.sub_zero, List.replicate_zero, List.replicate_succ, List.cons_append, List.nil_append, List.append_nil, List.getElem?_cons_zero, List.getElem?_cons_succ, List.set_cons_zero, List.set_cons_succ, List.set_nil, List.getElem?_nil, Option.some.injEq, exists_eq_left', exists_eq_left, exists_eq_right, reduceCtorEq, false_and, and_false, true_and, and_true, exists_false, exists_const, wipeR, Nat.zero_le, String.reduceEq, D.int.injEq, D.str.injEq, D.bl.injEq, atI_0, atI_1, atI_2, atI_3, atI_4, beq_self_eq_true, not_true_eq_false, not_false_eq_true, Int.cast_ofNat_Int, Int.reduceEq, Int.reduceLE, Int.reduceLT, Int.reduceAdd, Int.reduceSub, Int.reduceMul, Int.reduceNeg, if_true, if_false, ite_true, ite_false, Bool.false_eq_true, if_neg, if_pos, decide_eq_true_eq, Bool.not_eq_true', decide_eq_false_iff_not, eq_self_iff_true, decide_true, decide_false, Bool.not_true, Bool.not_false]
  rw [List.length_map]
  refine ⟨by unfold bnd62; exact decide_eq_true (by omega), ?_⟩
  simp only [Int.toNat_natCast]
  refine wps_forM (fun i ρ S' => i ≤ L.length → ∃ Bk R o4 o5, Drawn L i Bk ∧ DS R S' ∧ ρ = [some (.fl (ns.map .int)), some (.ref 1), some (.lst (L.map .str)), some (bookD Bk), o4, o5, none, none, none, none, none, none, none, none, none, none, none]) (fun _ _ _ _ => trivial) ?_ ?_ (fun _ => ⟨[], S0, none, none, ⟨rfl, fun i z row h => by simp at h⟩, d2, rfl⟩)
  · intro i d ρ S' hd hI
    have hi : i < L.length := by
      have := (List.getElem?_eq_some_iff.mp hd).1
      rwa [rangeD_len] at this
    obtain ⟨Bk, R, o4, o5, hBk, hdS, rfl⟩ := hI (by omega)
    obtain rfl : d = .int (i : Nat) := by
      unfold rangeD at hd
      rw [List.getElem?_map, List.getElem?_range hi] at hd
      simpa using hd.symm
    refine ⟨_, rfl, ?_⟩
    have ec : cutD (L.map D.str) none (some ((i : Nat) : Int)) = (L.take i).map .str := by rw [cut_take (by rw [List.length_map]; omega), List.map_take]
    have hg : L[i]? = some L[i] := List.getElem?_eq_getElem hi
    have hix : atI (L.map D.str) ((i : Nat) : Int) = some (.str L[i]) := atI_nat (by rw [List.getElem?_map, hg]; rfl)
    have hbl : Bk.length = i := by
      have := congrArg List.length hBk.fst
      rw [List.length_map, List.length_take] at this; omega
    simp only [ec, hix, bookD, wp_ok, wp_ret, wp_stuck, wp_bad, wp_bnd, wp_if, wp_fif, wps_ok_nx, wps_ok_rt, wps_ok_bk, wps_ok_ct, wps_ok_xc, wps_bad, wps_lft, wps_seq, wps_nil, wps_ret, wps_expr, wps_asg, wps_if, wp_run, wps_for, wps_while, wp_comp, wp_var, wp_C, wp_bin, wp_un, wp_T, wp_Tb, wp_asBl, wp_truthBl, wp_bAnd, wp_bOr, wp_bNot, wp_eIf, wp_eAnd, wp_eOr, wp_eNot, blCase_bl, wp_chain, wp_aNil, wp_aCons, wp_tup, wp_lst, wp_lstM, wp_call, wp_cl1, wp_cl2, wp_cl3, wp_cl4, wp_cl5, wp_meth, wp_isi, wp_oNone, wp_oSome, wp_sl, wp_it, wp_range1, wp_range2, wp_bYes, gEq_str, gNe_str, gEq_int, gNe_int, gEq_bl, gNe_bl, gIs_bl, gIsNot_bl, gAdd_int, gSub_int, gC_int, gI_int, gAdd_str, gAdd_tup, gAdd_lst, gNeg_int, gIx_tup, gIx_lst, gLen_tup, gLen_lst, gLen_str, gInt_int, gInt_bl, gTuple_lst, gTuple_tup, gList_lst, gList_tup, gSl_tup, gSl_lst, gSl_fl, gSl_str, srcL_tup, srcL_lst, srcL_fl, srcL_str, srcR1_int, typN, startR, List.map_cons, List.map_nil, List.length_cons, List.length_nil, Nat.reduceAdd, Nat.reduceSub, Nat.zero_add, Nat.sub_self, Nat.sub_zero, List.replicate_zero, List.replicate_succ, List.cons_append, List.nil_append, List.append_nil, List.getElem?_cons_zero, List.getElem?_cons_succ, List.set_cons_zero, List.set_cons_succ, List.set_nil, List.getElem?_nil, Option.some.injEq, exists_eq_left', exists_eq_left, exists_eq_right, reduceCtorEq, false_and, and_false, true_and, and_true, exists_false, exists_const, wipeR, Nat.zero_le, String.reduceEq, D.int.injEq, D.str.injEq, D.bl.injEq, atI_0, atI_1, atI_2, atI_3, atI_4, beq_self_eq_true, not_true_eq_false, not_false_eq_true, Int.cast_ofNat_Int, Int.reduceEq, Int.reduceLE, Int.reduceLT, Int.reduceAdd, Int.reduceSub, Int.reduceMul, Int.reduceNeg, if_true, if_false, ite_true, ite_false, Bool.false_eq_true, if_neg, if_pos, decide_eq_true_eq, Bool.not_eq_true', decide_eq_false_iff_not, eq_self_iff_true, decide_true, decide_false, Bool.not_true, Bool.not_false]
    refine ⟨small_line (by decide), small_line (by rw [List.length_map, List.length_take]; omega), small_line (by decide), ?_⟩
    rw [show (L.take i).map D.str ++ [D.str (Str.ofString "a-a")] = (L.take i ++ [Str.ofString "a-a"]).map D.str by simp]
    refine row_draw (c := 12) (drawn_ws hL) (by simp) (by simp; omega) (by decide) (by decide) hdS fun ws S3 R3 h1 h2 h3 d3 => ?_
    refine ⟨small_line (by decide), small_line (by decide), small_line (by rw [List.length_map]; omega), fun _ => ⟨Bk ++ [(L[i], ws)], R3, _, _, hBk.snoc hg h1 h2 h3, d3, by rw [List.map_append]; rfl⟩⟩
  · intro ρ S' hI
    rw [rangeD_len] at hI
    obtain ⟨Bk, R, o4, o5, hBk, hdS, rfl⟩ := hI (Nat.le_refl _)
    have hfst : Bk.map (·.1) = L := by rw [hBk.fst, List.take_length]
    have hbl : Bk.length = L.length := by rw [← hfst, List.length_map]
    -- the first one and the last one
    obtain ⟨zf, rf, hf0⟩ : ∃ z row, Bk[0]? = some (z, row) := ⟨_, _, List.getElem?_eq_getElem (by omega)⟩
    obtain ⟨zl, rl, hl0⟩ : ∃ z row, Bk[Bk.length - 1]? = some (z, row) := ⟨_, _, List.getElem?_eq_getElem (by omega)⟩
    have ef := hBk.entry hL hf0
    have el := hBk.entry hL hl0
    have hLf : atI (L.map D.str) 0 = some (.str zf) := atI_nat (j := 0) (by rw [← hfst, List.map_map, List.getElem?_map, hf0]; rfl)
    have hLl : atI (L.map D.str) (-1) = some (.str zl) := by
      have hne : L ≠ [] := List.ne_nil_of_length_pos (by omega)
      have e1 : L = L.dropLast ++ [L.getLast hne] := (List.dropLast_concat_getLast hne).symm
      have e2 : L[L.length - 1]? = some zl := by
        have := congrArg (fun M : List Str => M[Bk.length - 1]?) hfst
        simp only [List.getElem?_map, hl0] at this
        rw [hbl] at this; exact this.symm
      have e3 : L.getLast hne = zl := by
        rw [List.getLast_eq_getElem]
        exact (List.getElem?_eq_some_iff.mp e2).2
      rw [e1, List.map_append, List.map_cons, List.map_nil, DL.atI_last, e3]
    have same : zf = zl → rf = rl := fun e => by
      subst e
      exact el.told.uniq (List.mem_of_getElem? hf0)
    refine ⟨by decide, ?_⟩
    refine wps_forM (fun i ρ S' => ∃ R o4 o5 o6 o7 o8 o9 o10 o11 o12 o13 o14 o15 o16, DS R S' ∧ ρ = [some (.fl (ns.map .int)), some (.ref 1), some (.lst (L.map .str)), some (bookD Bk), o4, o5, o6, o7, o8, o9, o10, o11, o12, o13, o14, o15, o16]) (fun _ _ _ _ => trivial) ?_ ?_ ⟨_, _, _, _, _, _, _, _, _, _, _, _, _, _, hdS, rfl⟩
    · rintro i d ρ S3 hd ⟨R3, o4, o5, o6, o7, o8, o9, o10, o11, o12, o13, o14, o15, o16, d3, rfl⟩
      refine ⟨_, rfl, ?_⟩
      simp only [wp_ok, wp_ret, wp_stuck, wp_bad, wp_bnd, wp_if, wp_fif, wps_ok_nx, wps_ok_rt, wps_ok_bk, wps_ok_ct, wps_ok_xc, wps_bad, wps_lft, wps_seq, wps_nil, wps_ret, wps_expr, wps_asg, wps_if, wp_run, wps_for, wps_while, wp_comp, wp_var, wp_C, wp_bin, wp_un, wp_T, wp_Tb, wp_asBl, wp_truthBl, wp_bAnd, wp_bOr, wp_bNot, wp_eIf, wp_eAnd, wp_eOr, wp_eNot, blCase_bl, wp_chain, wp_aNil, wp_aCons, wp_tup, wp_lst, wp_lstM, wp_call, wp_cl1, wp_cl2, wp_cl3, wp_cl4, wp_cl5, wp_meth, wp_isi, wp_oNone, wp_oSome, wp_sl, wp_it, wp_range1, wp_range2, wp_bYes, gEq_str, gNe_str, gEq_int, gNe_int, gEq_bl, gNe_bl, gIs_bl, gIsNot_bl, gAdd_int, gSub_int, gC_int, gI_int, gAdd_str, gAdd_tup, gAdd_lst, gNeg_int, gIx_tup, gIx_lst, gLen_tup, gLen_lst, gLen_str, gInt_int, gInt_bl, gTuple_lst, gTuple_tup, gList_lst, gList_tup, gSl_tup, gSl_lst, gSl_fl, gSl_str, srcL_tup, srcL_lst, srcL_fl, srcL_str, srcR1_int, typN, startR, List.map_cons, List.map_nil, List.length_cons, List.length_nil, Nat.reduceAdd, Nat.reduceSub, Nat.zero_add, Nat.sub_self, Nat.sub_zero, List.replicate_zero, List.replicate_succ, List.cons_append, List.nil_append, List.append_nil, List.getElem?_cons_zero, List.getElem?_cons_succ, List.set_cons_zero, List.set_cons_succ, List.set_nil, List.getElem?_nil, Option.some.injEq, exists_eq_left', exists_eq_left, exists_eq_right, reduceCtorEq, false_and, and_false, true_and, and_true, exists_false, exists_const, wipeR, Nat.zero_le, String.reduceEq, D.int.injEq, D.str.injEq, D.bl.injEq, atI_0, atI_1, atI_2, atI_3, atI_4, beq_self_eq_true, not_true_eq_false, not_false_eq_true, Int.cast_ofNat_Int, Int.reduceEq, Int.reduceLE, Int.reduceLT, Int.reduceAdd, Int.reduceSub, Int.reduceMul, Int.reduceNeg, if_true, if_false, ite_true, ite_false, Bool.false_eq_true, if_neg, if_pos, decide_eq_true_eq, Bool.not_eq_true', decide_eq_false_iff_not, eq_self_iff_true, decide_true, decide_false, Bool.not_true, Bool.not_false]
      refine ⟨small_line (by decide), ?_⟩
      refine row_draw (c := 18) (fun z hz => (hL.2.2.2 z hz).ws) hl1 (by omega) (by decide) (by decide) d3 fun ws S4 R4 w1 w2 w3 d4 => ?_
      refine ⟨small_line (by decide), ?_⟩
      refine stack_draw (c := 18) (fun z hz => (hL.2.2.2 z hz).ws) hl1 (by omega) (by decide) (by decide) d4 fun ts S5 R5 t1 t2 t3 d5 => ?_
      have oks := d5.oks
      refine wps_forM (fun k ρ S' => S' = S5 ∧ ∃ o8, ρ = [some (.fl (ns.map .int)), some (.ref 1), some (.lst (L.map .str)), some (bookD Bk), some d, o5, some (.tup ws), some (.tup ts), o8, o9, o10, o11, o12, o13, o14, o15, o16]) (fun _ _ _ _ => trivial) ?_ ?_ ⟨rfl, _, rfl⟩
      · rintro k d' ρ S6 hd' ⟨rfl, o8', rfl⟩
        rw [List.getElem?_map, Option.map_eq_some_iff] at hd'
        obtain ⟨z, hz, rfl⟩ := hd'
        refine ⟨_, rfl, ?_⟩
        obtain ⟨y, row, hrow⟩ : ∃ z row, Bk[k]? = some (z, row) := ⟨_, _, List.getElem?_eq_getElem (by rw [hbl]; exact (List.getElem?_eq_some_iff.mp hz).1)⟩
        have hy : y = z := by
          rw [← hfst, List.getElem?_map, hrow] at hz
          simpa using hz
        subst hy
        simp only [wp_ok, wp_ret, wp_stuck, wp_bad, wp_bnd, wp_if, wp_fif, wps_ok_nx, wps_ok_rt, wps_ok_bk, wps_ok_ct, wps_ok_xc, wps_bad, wps_lft, wps_seq, wps_nil, wps_ret, wps_expr, wps_asg, wps_if, wp_run, wps_for, wps_while, wp_comp, wp_var, wp_C, wp_bin, wp_un, wp_T, wp_Tb, wp_asBl, wp_truthBl, wp_bAnd, wp_bOr, wp_bNot, wp_eIf, wp_eAnd, wp_eOr, wp_eNot, blCase_bl, wp_chain, wp_aNil, wp_aCons, wp_tup, wp_lst, wp_lstM, wp_call, wp_cl1, wp_cl2, wp_cl3, wp_cl4, wp_cl5, wp_meth, wp_isi, wp_oNone, wp_oSome, wp_sl, wp_it, wp_range1, wp_range2, wp_bYes, gEq_str, gNe_str, gEq_int, gNe_int, gEq_bl, gNe_bl, gIs_bl, gIsNot_bl, gAdd_int, gSub_int, gC_int, gI_int, gAdd_str, gAdd_tup, gAdd_lst, gNeg_int, gIx_tup, gIx_lst, gLen_tup, gLen_lst, gLen_str, gInt_int, gInt_bl, gTuple_lst, gTuple_tup, gList_lst, gList_tup, gSl_tup, gSl_lst, gSl_fl, gSl_str, srcL_tup, srcL_lst, srcL_fl, srcL_str, srcR1_int, typN, startR, List.map_cons, List.map_nil, List.length_cons, List.length_nil, Nat.reduceAdd, Nat.reduceSub, Nat.zero_add, Nat.sub_self, Nat.sub_zero, List.replicate_zero, List.replicate_succ, List.cons_append, List.nil_append, List.append_nil, List.getElem?_cons_zero, List.getElem?_cons_succ, List.set_cons_zero, List.set_cons_succ, List.set_nil, List.getElem?_nil, Option.some.injEq, exists_eq_left', exists_eq_left, exists_eq_right, reduceCtorEq, false_and, and_false, true_and, and_true, exists_false, exists_const, wipeR, Nat.zero_le, String.reduceEq, D.int.injEq, D.str.injEq, D.bl.injEq, atI_0, atI_1, atI_2, atI_3, atI_4, beq_self_eq_true, not_true_eq_false, not_false_eq_true, Int.cast_ofNat_Int, Int.reduceEq, Int.reduceLE, Int.reduceLT, Int.reduceAdd, Int.reduceSub, Int.reduceMul, Int.reduceNeg, if_true, if_false, ite_true, ite_false, Bool.false_eq_true, if_neg, if_pos, decide_eq_true_eq, Bool.not_eq_true', decide_eq_false_iff_not, eq_self_iff_true, decide_true, decide_false, Bool.not_true, Bool.not_false]
        refine right_ok (by decide) (by decide) (hBk.entry hL hrow) oks w2 w1 (by omega) t2 t1 (by omega) ?_
        simp only [wp_ok, wp_ret, wp_stuck, wp_bad, wp_bnd, wp_if, wp_fif, wps_ok_nx, wps_ok_rt, wps_ok_bk, wps_ok_ct, wps_ok_xc, wps_bad, wps_lft, wps_seq, wps_nil, wps_ret, wps_expr, wps_asg, wps_if, wp_run, wps_for, wps_while, wp_comp, wp_var, wp_C, wp_bin, wp_un, wp_T, wp_Tb, wp_asBl, wp_truthBl, wp_bAnd, wp_bOr, wp_bNot, wp_eIf, wp_eAnd, wp_eOr, wp_eNot, blCase_bl, wp_chain, wp_aNil, wp_aCons, wp_tup, wp_lst, wp_lstM, wp_call, wp_cl1, wp_cl2, wp_cl3, wp_cl4, wp_cl5, wp_meth, wp_isi, wp_oNone, wp_oSome, wp_sl, wp_it, wp_range1, wp_range2, wp_bYes, gEq_str, gNe_str, gEq_int, gNe_int, gEq_bl, gNe_bl, gIs_bl, gIsNot_bl, gAdd_int, gSub_int, gC_int, gI_int, gAdd_str, gAdd_tup, gAdd_lst, gNeg_int, gIx_tup, gIx_lst, gLen_tup, gLen_lst, gLen_str, gInt_int, gInt_bl, gTuple_lst, gTuple_tup, gList_lst, gList_tup, gSl_tup, gSl_lst, gSl_fl, gSl_str, srcL_tup, srcL_lst, srcL_fl, srcL_str, srcR1_int, typN, startR, List.map_cons, List.map_nil, List.length_cons, List.length_nil, Nat.reduceAdd, Nat.reduceSub, Nat.zero_add, Nat.sub_self, Nat.sub_zero, List.replicate_zero, List.replicate_succ, List.cons_append, List.nil_append, List.append_nil, List.getElem?_cons_zero, List.getElem?_cons_succ, List.set_cons_zero, List.set_cons_succ, List.set_nil, List.getElem?_nil, Option.some.injEq, exists_eq_left', exists_eq_left, exists_eq_right, reduceCtorEq, false_and, and_false, true_and, and_true, exists_false, exists_const, wipeR, Nat.zero_le, String.reduceEq, D.int.injEq, D.str.injEq, D.bl.injEq, atI_0, atI_1, atI_2, atI_3, atI_4, beq_self_eq_true, not_true_eq_false, not_false_eq_true, Int.cast_ofNat_Int, Int.reduceEq, Int.reduceLE, Int.reduceLT, Int.reduceAdd, Int.reduceSub, Int.reduceMul, Int.reduceNeg, if_true, if_false, ite_true, ite_false, Bool.false_eq_true, if_neg, if_pos, decide_eq_true_eq, Bool.not_eq_true', decide_eq_false_iff_not, eq_self_iff_true, decide_true, decide_false, Bool.not_true, Bool.not_false]
        exact ⟨_, rfl⟩
      · rintro ρ S6 ⟨rfl, o8', rfl⟩
        simp only [hLf, hLl, bookD, srcL_tup, wp_ok, wp_ret, wp_stuck, wp_bad, wp_bnd, wp_if, wp_fif, wps_ok_nx, wps_ok_rt, wps_ok_bk, wps_ok_ct, wps_ok_xc, wps_bad, wps_lft, wps_seq, wps_nil, wps_ret, wps_expr, wps_asg, wps_if, wp_run, wps_for, wps_while, wp_comp, wp_var, wp_C, wp_bin, wp_un, wp_T, wp_Tb, wp_asBl, wp_truthBl, wp_bAnd, wp_bOr, wp_bNot, wp_eIf, wp_eAnd, wp_eOr, wp_eNot, blCase_bl, wp_chain, wp_aNil, wp_aCons, wp_tup, wp_lst, wp_lstM, wp_call, wp_cl1, wp_cl2, wp_cl3, wp_cl4, wp_cl5, wp_meth, wp_isi, wp_oNone, wp_oSome, wp_sl, wp_it, wp_range1, wp_range2, wp_bYes, gEq_str, gNe_str, gEq_int, gNe_int, gEq_bl, gNe_bl, gIs_bl, gIsNot_bl, gAdd_int, gSub_int, gC_int, gI_int, gAdd_str, gAdd_tup, gAdd_lst, gNeg_int, gIx_tup, gIx_lst, gLen_tup, gLen_lst, gLen_str, gInt_int, gInt_bl, gTuple_lst, gTuple_tup, gList_lst, gList_tup, gSl_tup, gSl_lst, gSl_fl, gSl_str, srcL_tup, srcL_lst, srcL_fl, srcL_str, srcR1_int, typN, startR, List.map_cons, List.map_nil, List.length_cons, List.length_nil, Nat.reduceAdd, Nat.reduceSub, Nat.zero_add, Nat.sub_self, Nat.sub_zero, List.replicate_zero, List.replicate_succ, List.cons_append, List.nil_append, List.append_nil, List.getElem?_cons_zero, List.getElem?_cons_succ, List.set_cons_zero, List.set_cons_succ, List.set_nil, List.getElem?_nil, Option.some.injEq, exists_eq_left', exists_eq_left, exists_eq_right, reduceCtorEq, false_and, and_false, true_and, and_true, exists_false, exists_const, wipeR, Nat.zero_le, String.reduceEq, D.int.injEq, D.str.injEq, D.bl.injEq, atI_0, atI_1, atI_2, atI_3, atI_4, beq_self_eq_true, not_true_eq_false, not_false_eq_true, Int.cast_ofNat_Int, Int.reduceEq, Int.reduceLE, Int.reduceLT, Int.reduceAdd, Int.reduceSub, Int.reduceMul, Int.reduceNeg, if_true, if_false, ite_true, ite_false, Bool.false_eq_true, if_neg, if_pos, decide_eq_true_eq, Bool.not_eq_true', decide_eq_false_iff_not, eq_self_iff_true, decide_true, decide_false, Bool.not_true, Bool.not_false]
        refine ⟨small_line (by rw [List.length_map]; omega), ?_⟩
        refine wp_compM (fun k ys S' => S' = S6 ∧ ys = (Bk.take k).map fun p => D.str (Str.join ⟨#[32]⟩ (p.2.flatMap (tokW 20)))) (fun _ _ _ _ => trivial) ?_ ?_ ⟨rfl, rfl⟩
        · rintro k d' ys S7 hd' ⟨rfl, rfl⟩
          rw [List.getElem?_map, Option.map_eq_some_iff] at hd'
          obtain ⟨p, hp, rfl⟩ := hd'
          obtain ⟨z, row⟩ := p
          have ep := hBk.entry hL hp
          refine ⟨_, rfl, ?_⟩
          simp only [wp_ok, wp_ret, wp_stuck, wp_bad, wp_bnd, wp_if, wp_fif, wps_ok_nx, wps_ok_rt, wps_ok_bk, wps_ok_ct, wps_ok_xc, wps_bad, wps_lft, wps_seq, wps_nil, wps_ret, wps_expr, wps_asg, wps_if, wp_run, wps_for, wps_while, wp_comp, wp_var, wp_C, wp_bin, wp_un, wp_T, wp_Tb, wp_asBl, wp_truthBl, wp_bAnd, wp_bOr, wp_bNot, wp_eIf, wp_eAnd, wp_eOr, wp_eNot, blCase_bl, wp_chain, wp_aNil, wp_aCons, wp_tup, wp_lst, wp_lstM, wp_call, wp_cl1, wp_cl2, wp_cl3, wp_cl4, wp_cl5, wp_meth, wp_isi, wp_oNone, wp_oSome, wp_sl, wp_it, wp_range1, wp_range2, wp_bYes, gEq_str, gNe_str, gEq_int, gNe_int, gEq_bl, gNe_bl, gIs_bl, gIsNot_bl, gAdd_int, gSub_int, gC_int, gI_int, gAdd_str, gAdd_tup, gAdd_lst, gNeg_int, gIx_tup, gIx_lst, gLen_tup, gLen_lst, gLen_str, gInt_int, gInt_bl, gTuple_lst, gTuple_tup, gList_lst, gList_tup, gSl_tup, gSl_lst, gSl_fl, gSl_str, srcL_tup, srcL_lst, srcL_fl, srcL_str, srcR1_int, typN, startR, List.map_cons, List.map_nil, List.length_cons, List.length_nil, Nat.reduceAdd, Nat.reduceSub, Nat.zero_add, Nat.sub_self, Nat.sub_zero, List.replicate_zero, List.replicate_succ, List.cons_append, List.nil_append, List.append_nil, List.getElem?_cons_zero, List.getElem?_cons_succ, List.set_cons_zero, List.set_cons_succ, List.set_nil, List.getElem?_nil, Option.some.injEq, exists_eq_left', exists_eq_left, exists_eq_right, reduceCtorEq, false_and, and_false, true_and, and_true, exists_false, exists_const, wipeR, Nat.zero_le, String.reduceEq, D.int.injEq, D.str.injEq, D.bl.injEq, atI_0, atI_1, atI_2, atI_3, atI_4, beq_self_eq_true, not_true_eq_false, not_false_eq_true, Int.cast_ofNat_Int, Int.reduceEq, Int.reduceLE, Int.reduceLT, Int.reduceAdd, Int.reduceSub, Int.reduceMul, Int.reduceNeg, if_true, if_false, ite_true, ite_false, Bool.false_eq_true, if_neg, if_pos, decide_eq_true_eq, Bool.not_eq_true', decide_eq_false_iff_not, eq_self_iff_true, decide_true, decide_false, Bool.not_true, Bool.not_false]
          refine shown_row (by decide) (by decide) (by decide) (by decide) oks ep.wd ep.len (by have := ep.tok; omega) ?_
          refine ⟨rfl, ?_⟩
          rw [List.take_succ, hp]; simp
        · rintro ys S7 ⟨rfl, rfl⟩
          rw [List.length_map, List.take_length]
          have hTf : atI (Bk.map fun p => D.str (Str.join ⟨#[32]⟩ (p.2.flatMap (tokW 20)))) 0 = some (.str (Str.join ⟨#[32]⟩ (rf.flatMap (tokW 20)))) := atI_nat (j := 0) (by rw [List.getElem?_map, hf0]; rfl)
          have hTl : atI (Bk.map fun p => D.str (Str.join ⟨#[32]⟩ (p.2.flatMap (tokW 20)))) (-1) = some (.str (Str.join ⟨#[32]⟩ (rl.flatMap (tokW 20)))) := by
            have hne : Bk ≠ [] := List.ne_nil_of_length_pos (by omega)
            have e1 : Bk = Bk.dropLast ++ [Bk.getLast hne] := (List.dropLast_concat_getLast hne).symm
            have e3 : Bk.getLast hne = (zl, rl) := by
              rw [List.getLast_eq_getElem]
              exact (List.getElem?_eq_some_iff.mp hl0).2
            rw [e1, List.map_append, List.map_cons, List.map_nil, DL.atI_last, e3]
          simp only [hTf, hTl, wp_ok, wp_ret, wp_stuck, wp_bad, wp_bnd, wp_if, wp_fif, wps_ok_nx, wps_ok_rt, wps_ok_bk, wps_ok_ct, wps_ok_xc, wps_bad, wps_lft, wps_seq, wps_nil, wps_ret, wps_expr, wps_asg, wps_if, wp_run, wps_for, wps_while, wp_comp, wp_var, wp_C, wp_bin, wp_un, wp_T, wp_Tb, wp_asBl, wp_truthBl, wp_bAnd, wp_bOr, wp_bNot, wp_eIf, wp_eAnd, wp_eOr, wp_eNot, blCase_bl, wp_chain, wp_aNil, wp_aCons, wp_tup, wp_lst, wp_lstM, wp_call, wp_cl1, wp_cl2, wp_cl3, wp_cl4, wp_cl5, wp_meth, wp_isi, wp_oNone, wp_oSome, wp_sl, wp_it, wp_range1, wp_range2, wp_bYes, gEq_str, gNe_str, gEq_int, gNe_int, gEq_bl, gNe_bl, gIs_bl, gIsNot_bl, gAdd_int, gSub_int, gC_int, gI_int, gAdd_str, gAdd_tup, gAdd_lst, gNeg_int, gIx_tup, gIx_lst, gLen_tup, gLen_lst, gLen_str, gInt_int, gInt_bl, gTuple_lst, gTuple_tup, gList_lst, gList_tup, gSl_tup, gSl_lst, gSl_fl, gSl_str, srcL_tup, srcL_lst, srcL_fl, srcL_str, srcR1_int, typN, startR, List.map_cons, List.map_nil, List.length_cons, List.length_nil, Nat.reduceAdd, Nat.reduceSub, Nat.zero_add, Nat.sub_self, Nat.sub_zero, List.replicate_zero, List.replicate_succ, List.cons_append, List.nil_append, List.append_nil, List.getElem?_cons_zero, List.getElem?_cons_succ, List.set_cons_zero, List.set_cons_succ, List.set_nil, List.getElem?_nil, Option.some.injEq, exists_eq_left', exists_eq_left, exists_eq_right, reduceCtorEq, false_and, and_false, true_and, and_true, exists_false, exists_const, wipeR, Nat.zero_le, String.reduceEq, D.int.injEq, D.str.injEq, D.bl.injEq, atI_0, atI_1, atI_2, atI_3, atI_4, beq_self_eq_true, not_true_eq_false, not_false_eq_true, Int.cast_ofNat_Int, Int.reduceEq, Int.reduceLE, Int.reduceLT, Int.reduceAdd, Int.reduceSub, Int.reduceMul, Int.reduceNeg, if_true, if_false, ite_true, ite_false, Bool.false_eq_true, if_neg, if_pos, decide_eq_true_eq, Bool.not_eq_true', decide_eq_false_iff_not, eq_self_iff_true, decide_true, decide_false, Bool.not_true, Bool.not_false]
          refine shown_row (by decide) (by decide) (by decide) (by decide) oks w2 w1 (by omega) ?_
          have hwg := toks_good (J := 20) (by decide) w2
          have hfg := toks_good (J := 20) (by decide) ef.wd
          have hlg := toks_good (J := 20) (by decide) el.wd
          have q1 := rep_good (z := zl) hwg hlg
          have q2 := rep_good (z := zf) q1 hfg
          have n1 : ((ws.flatMap (tokW 20)).flatMap (rep zl (rl.flatMap (tokW 20)))).length ≤ 54 * 36 := Nat.le_trans (rep_len el.tok (by omega) _) (Nat.mul_le_mul_right 36 w3)
          have n2 : (((ws.flatMap (tokW 20)).flatMap (rep zl (rl.flatMap (tokW 20)))).flatMap (rep zf (rf.flatMap (tokW 20)))).length ≤ 54 * 36 * 36 := Nat.le_trans (rep_len ef.tok (by omega) _) (Nat.mul_le_mul_right 36 n1)
          have b1 := tokLen_le hwg
          have b2 := tokLen_le hfg
          have b3 := tokLen_le hlg
          have b4 := tokLen_le q1
          have b5 := tokLen_le q2
          have tkf := ef.tok
          have tkl := el.tok
          refine due_ok (by decide) oks (fun t h => (hwg t h).1) (fun t h => (hlg t h).1) el.name.ne (by omega) (by omega) (by omega) ?_
          refine due_ok (by decide) oks (fun t h => (q1 t h).1) (fun t h => (hfg t h).1) ef.name.ne (by omega) (by omega) (by omega) ?_
          have jl := join_len (((ws.flatMap (tokW 20)).flatMap (rep zl (rl.flatMap (tokW 20)))).flatMap (rep zf (rf.flatMap (tokW 20))))
          rw [split_gen (by omega)]
          simp only [wp_ok, wp_ret, wp_stuck, wp_bad, wp_bnd, wp_if, wp_fif, wps_ok_nx, wps_ok_rt, wps_ok_bk, wps_ok_ct, wps_ok_xc, wps_bad, wps_lft, wps_seq, wps_nil, wps_ret, wps_expr, wps_asg, wps_if, wp_run, wps_for, wps_while, wp_comp, wp_var, wp_C, wp_bin, wp_un, wp_T, wp_Tb, wp_asBl, wp_truthBl, wp_bAnd, wp_bOr, wp_bNot, wp_eIf, wp_eAnd, wp_eOr, wp_eNot, blCase_bl, wp_chain, wp_aNil, wp_aCons, wp_tup, wp_lst, wp_lstM, wp_call, wp_cl1, wp_cl2, wp_cl3, wp_cl4, wp_cl5, wp_meth, wp_isi, wp_oNone, wp_oSome, wp_sl, wp_it, wp_range1, wp_range2, wp_bYes, gEq_str, gNe_str, gEq_int, gNe_int, gEq_bl, gNe_bl, gIs_bl, gIsNot_bl, gAdd_int, gSub_int, gC_int, gI_int, gAdd_str, gAdd_tup, gAdd_lst, gNeg_int, gIx_tup, gIx_lst, gLen_tup, gLen_lst, gLen_str, gInt_int, gInt_bl, gTuple_lst, gTuple_tup, gList_lst, gList_tup, gSl_tup, gSl_lst, gSl_fl, gSl_str, srcL_tup, srcL_lst, srcL_fl, srcL_str, srcR1_int, typN, startR, List.map_cons, List.map_nil, List.length_cons, List.length_nil, Nat.reduceAdd, Nat.reduceSub, Nat.zero_add, Nat.sub_self, Nat.sub_zero, List.replicate_zero, List.replicate_succ, List.cons_append, List.nil_append, List.append_nil, List.getElem?_cons_zero, List.getElem?_cons_succ, List.set_cons_zero, List.set_cons_succ, List.set_nil, List.getElem?_nil, Option.some.injEq, exists_eq_left', exists_eq_left, exists_eq_right, reduceCtorEq, false_and, and_false, true_and, and_true, exists_false, exists_const, wipeR, Nat.zero_le, String.reduceEq, D.int.injEq, D.str.injEq, D.bl.injEq, atI_0, atI_1, atI_2, atI_3, atI_4, beq_self_eq_true, not_true_eq_false, not_false_eq_true, Int.cast_ofNat_Int, Int.reduceEq, Int.reduceLE, Int.reduceLT, Int.reduceAdd, Int.reduceSub, Int.reduceMul, Int.reduceNeg, if_true, if_false, ite_true, ite_false, Bool.false_eq_true, if_neg, if_pos, decide_eq_true_eq, Bool.not_eq_true', decide_eq_false_iff_not, eq_self_iff_true, decide_true, decide_false, Bool.not_true, Bool.not_false]
          refine ⟨rfl, ?_⟩
          split
          · obtain ⟨x1, y1⟩ := next_ok el (by decide) w2 w1
            obtain ⟨x2, y2⟩ := next_ok ef (by decide) x1 y1
            obtain ⟨u1, v1⟩ := next_ok ef (by decide) w2 w1
            obtain ⟨u2, v2⟩ := next_ok el (by decide) u1 v1
            refine place el (by decide) (by decide) (by decide) w2 w1 oks ?_
            refine place ef (by decide) (by decide) (by decide) x1 y1 oks ?_
            refine place ef (by decide) (by decide) (by decide) w2 w1 oks ?_
            refine place el (by decide) (by decide) (by decide) u1 v1 oks ?_
            refine place ef (by decide) (by decide) (by decide) u2 v2 oks ?_
            rw [comm_words (zf := zf) (zl := zl) ef.wd ef.ne (fun y hy e => ?_) same w2]
            · have sh : Sh (3 * 10 + 2 + 1) (.tup ((ws.flatMap (subW zl rl 18)).flatMap (subW zf rf 18))) := sh_tup fun d hd => (x2 d hd).sh
              simp only [gNe_self sh (by omega), wp_ok, wp_ret, wp_stuck, wp_bad, wp_bnd, wp_if, wp_fif, wps_ok_nx, wps_ok_rt, wps_ok_bk, wps_ok_ct, wps_ok_xc, wps_bad, wps_lft, wps_seq, wps_nil, wps_ret, wps_expr, wps_asg, wps_if, wp_run, wps_for, wps_while, wp_comp, wp_var, wp_C, wp_bin, wp_un, wp_T, wp_Tb, wp_asBl, wp_truthBl, wp_bAnd, wp_bOr, wp_bNot, wp_eIf, wp_eAnd, wp_eOr, wp_eNot, blCase_bl, wp_chain, wp_aNil, wp_aCons, wp_tup, wp_lst, wp_lstM, wp_call, wp_cl1, wp_cl2, wp_cl3, wp_cl4, wp_cl5, wp_meth, wp_isi, wp_oNone, wp_oSome, wp_sl, wp_it, wp_range1, wp_range2, wp_bYes, gEq_str, gNe_str, gEq_int, gNe_int, gEq_bl, gNe_bl, gIs_bl, gIsNot_bl, gAdd_int, gSub_int, gC_int, gI_int, gAdd_str, gAdd_tup, gAdd_lst, gNeg_int, gIx_tup, gIx_lst, gLen_tup, gLen_lst, gLen_str, gInt_int, gInt_bl, gTuple_lst, gTuple_tup, gList_lst, gList_tup, gSl_tup, gSl_lst, gSl_fl, gSl_str, srcL_tup, srcL_lst, srcL_fl, srcL_str, srcR1_int, typN, startR, List.map_cons, List.map_nil, List.length_cons, List.length_nil, Nat.reduceAdd, Nat.reduceSub, Nat.zero_add, Nat.sub_self, Nat.sub_zero, List.replicate_zero, List.replicate_succ, List.cons_append, List.nil_append, List.append_nil, List.getElem?_cons_zero, List.getElem?_cons_succ, List.set_cons_zero, List.set_cons_succ, List.set_nil, List.getElem?_nil, Option.some.injEq, exists_eq_left', exists_eq_left, exists_eq_right, reduceCtorEq, false_and, and_false, true_and, and_true, exists_false, exists_const, wipeR, Nat.zero_le, String.reduceEq, D.int.injEq, D.str.injEq, D.bl.injEq, atI_0, atI_1, atI_2, atI_3, atI_4, beq_self_eq_true, not_true_eq_false, not_false_eq_true, Int.cast_ofNat_Int, Int.reduceEq, Int.reduceLE, Int.reduceLT, Int.reduceAdd, Int.reduceSub, Int.reduceMul, Int.reduceNeg, if_true, if_false, ite_true, ite_false, Bool.false_eq_true, if_neg, if_pos, decide_eq_true_eq, Bool.not_eq_true', decide_eq_false_iff_not, eq_self_iff_true, decide_true, decide_false, Bool.not_true, Bool.not_false]
              exact ⟨R5, _, _, _, _, _, _, _, _, _, _, _, _, _, d5, rfl⟩
            · subst e
              rcases hy with hy | hy | hy
              · exact el.name.2.2.1 hy
              · exact el.name.noSh hy
              · rw [List.take_zero, List.nil_append, List.mem_singleton] at hy
                exact el.name.ne_aa hy
          · exact ⟨R5, _, _, _, _, _, _, _, _, _, _, _, _, _, d5, rfl⟩
    · rintro ρ S3 ⟨R3, o4, o5, o6, o7, o8, o9, o10, o11, o12, o13, o14, o15, o16, d3, rfl⟩
      simp only [hLf, wp_ok, wp_ret, wp_stuck, wp_bad, wp_bnd, wp_if, wp_fif, wps_ok_nx, wps_ok_rt, wps_ok_bk, wps_ok_ct, wps_ok_xc, wps_bad, wps_lft, wps_seq, wps_nil, wps_ret, wps_expr, wps_asg, wps_if, wp_run, wps_for, wps_while, wp_comp, wp_var, wp_C, wp_bin, wp_un, wp_T, wp_Tb, wp_asBl, wp_truthBl, wp_bAnd, wp_bOr, wp_bNot, wp_eIf, wp_eAnd, wp_eOr, wp_eNot, blCase_bl, wp_chain, wp_aNil, wp_aCons, wp_tup, wp_lst, wp_lstM, wp_call, wp_cl1, wp_cl2, wp_cl3, wp_cl4, wp_cl5, wp_meth, wp_isi, wp_oNone, wp_oSome, wp_sl, wp_it, wp_range1, wp_range2, wp_bYes, gEq_str, gNe_str, gEq_int, gNe_int, gEq_bl, gNe_bl, gIs_bl, gIsNot_bl, gAdd_int, gSub_int, gC_int, gI_int, gAdd_str, gAdd_tup, gAdd_lst, gNeg_int, gIx_tup, gIx_lst, gLen_tup, gLen_lst, gLen_str, gInt_int, gInt_bl, gTuple_lst, gTuple_tup, gList_lst, gList_tup, gSl_tup, gSl_lst, gSl_fl, gSl_str, srcL_tup, srcL_lst, srcL_fl, srcL_str, srcR1_int, typN, startR, List.map_cons, List.map_nil, List.length_cons, List.length_nil, Nat.reduceAdd, Nat.reduceSub, Nat.zero_add, Nat.sub_self, Nat.sub_zero, List.replicate_zero, List.replicate_succ, List.cons_append, List.nil_append, List.append_nil, List.getElem?_cons_zero, List.getElem?_cons_succ, List.set_cons_zero, List.set_cons_succ, List.set_nil, List.getElem?_nil, Option.some.injEq, exists_eq_left', exists_eq_left, exists_eq_right, reduceCtorEq, false_and, and_false, true_and, and_true, exists_false, exists_const, wipeR, Nat.zero_le, String.reduceEq, D.int.injEq, D.str.injEq, D.bl.injEq, atI_0, atI_1, atI_2, atI_3, atI_4, beq_self_eq_true, not_true_eq_false, not_false_eq_true, Int.cast_ofNat_Int, Int.reduceEq, Int.reduceLE, Int.reduceLT, Int.reduceAdd, Int.reduceSub, Int.reduceMul, Int.reduceNeg, if_true, if_false, ite_true, ite_false, Bool.false_eq_true, if_neg, if_pos, decide_eq_true_eq, Bool.not_eq_true', decide_eq_false_iff_not, eq_self_iff_true, decide_true, decide_false, Bool.not_true, Bool.not_false]
      refine place (B := 6) (j := 2) (Q := fun _ => True) (ws := []) ef (by decide) (by decide) (by decide) (fun _ h => (List.not_mem_nil h).elim) (by decide) d3.oks ?_
      have sh : Sh (0 + 1) (.tup []) := sh_tup fun d hd => (List.not_mem_nil hd).elim
      rw [List.flatMap_nil, gEq_self sh (by omega), blCase_bl, if_pos rfl]
      refine stack_in_place_ok (B := 6) (j := 2) (Q := fun _ => True) (ts := []) ef.told ef.name.strOk ef.tr (by have := ef.len; omega) (by decide) (J := 18) (by decide) (by decide) (by decide) (by decide) (fun _ h => (List.not_mem_nil h).elim) d3.oks ?_
      rw [List.map_nil, gEq_self sh (by omega)]
      exact wp_fin rfl rfl rfl
def FU : Nat := 300000
def NN : Nat := 100
theorem main (ns : List Int) (hl : ns.length ≤ 63) : ∃ S', den FU NN i_law [.fl (ns.map .int)] [] = .ok (.bl true) S' := by
  have := law_ok ns hl
  show ∃ S', den 300000 100 i_law [.fl (ns.map .int)] [] = .ok (.bl true) S'
  cases h : den 300000 100 i_law [.fl (ns.map .int)] [] with
  | ok d S' => rw [h] at this; have e : d = .bl true := this; subst e; exact ⟨S', rfl⟩
  | ex e S' => rw [h] at this; exact this.elim
  | bad => rw [h] at this; exact this.elim
end K69

open PySem PySem.W PyProof.Rows in
set_option maxRecDepth 100000 in
set_option maxHeartbeats 0 in
theorem PySem.Challenge.cw_takeleave_k69_rows_put_in_place_holds : PySem.Challenge.rw_takeleave_k69_rows_put_in_place.Holds := by
  w_on; o_law; k_head; (case hw => w_witness2)
  k_fill
  refine L2.walk_of (l := PySem.Challenge.rw_takeleave_k69_rows_put_in_place) (n := 63) (k := K69.NN) (x := "_law_script") (CX := fun w => L2.CX PySem.Challenge.rw_takeleave_k69_rows_put_in_place.prog w) (sp := fun w => K69.spLaw _) rfl (by decide) rfl ⟨rfl, by decide, by decide⟩ (fun w h Y => PySem.W.kIn_of Y) ?F (fun _ _ a ns hl hO hS => ⟨a, ns, rfl, hO, hS, hl, fun _ => rfl⟩) (fun w H s e s' h => by obtain ⟨_, _, _, _, _, _, _, _, _, _, _, _, z⟩ := h; exact z)
  case F =>
    intro w mg fa h KX G hmg
    refine' K69.all_mk K69.FU K69.NN K69.main KX G hmg ?a1 ?l1 ?c1 ?k1 ?a2 ?l2 ?c2 ?k2 ?a3 ?l3 ?c3 ?k3 ?a4 ?l4 ?c4 ?k4 ?a5 ?l5 ?c5 ?k5 ?a6 ?l6 ?c6 ?k6 ?a7 ?l7 ?c7 ?k7 ?a8 ?l8 ?c8 ?k8 ?a9 ?l9 ?c9 ?k9 ?a10 ?l10 ?c10 ?k10 ?a11 ?l11 ?c11 ?k11 ?a12 ?l12 ?c12 ?k12 ?a13 ?l13 ?c13 ?k13 ?a14 ?l14 ?c14 ?k14 ?a15 ?l15 ?c15 ?k15 ?a16 ?l16 ?c16 ?k16 ?a17 ?l17 ?c17 ?k17 ?a18 ?l18 ?c18 ?k18 ?a19 ?l19 ?c19 ?k19 ?a20 ?l20 ?c20 ?k20 ?a21 ?l21 ?c21 ?k21 ?a22 ?l22 ?c22 ?k22 ?a23 ?l23 ?c23 ?k23 ?a24 ?l24 ?c24 ?k24 ?a25 ?l25 ?c25 ?k25 ?a26 ?l26 ?c26 ?k26 ?z_all ?z_bool ?z_int ?z_isinstance ?z_len ?z_list ?z_range ?z_reversed ?z_str ?z_sum ?z_tuple ?n_BASICS ?q_BASICS ?n_LETTERS ?n_MOST_LEFT ?n_MOST_SIGNS ?n_NUMBERS ?n_SMALL
    (case a1 => k_is)
    (case l1 => k_is)
    (case c1 => k_is)
    (case k1 => k_is)
    (case a2 => k_is)
    (case l2 => k_is)
    (case c2 => k_is)
    (case k2 => k_is)
    (case a3 => k_is)
    (case l3 => k_is)
    (case c3 => k_is)
    (case k3 => k_is)
    (case a4 => k_is)
    (case l4 => k_is)
    (case c4 => k_is)
    (case k4 => k_is)
    (case a5 => k_is)
    (case l5 => k_is)
    (case c5 => k_is)
    (case k5 => k_is)
    (case a6 => k_is)
    (case l6 => k_is)
    (case c6 => k_is)
    (case k6 => k_is)
    (case a7 => k_is)
    (case l7 => k_is)
    (case c7 => k_is)
    (case k7 => k_is)
    (case a8 => k_is)
    (case l8 => k_is)
    (case c8 => k_is)
    (case k8 => k_is)
    (case a9 => k_is)
    (case l9 => k_is)
    (case c9 => k_is)
    (case k9 => k_is)
    (case a10 => k_is)
    (case l10 => k_is)
    (case c10 => k_is)
    (case k10 => k_is)
    (case a11 => k_is)
    (case l11 => k_is)
    (case c11 => k_is)
    (case k11 => k_is)
    (case a12 => k_is)
    (case l12 => k_is)
    (case c12 => k_is)
    (case k12 => k_is)
    (case a13 => k_is)
    (case l13 => k_is)
    (case c13 => k_is)
    (case k13 => k_is)
    (case a14 => k_is)
    (case l14 => k_is)
    (case c14 => k_is)
    (case k14 => k_is)
    (case a15 => k_is)
    (case l15 => k_is)
    (case c15 => k_is)
    (case k15 => k_is)
    (case a16 => k_is)
    (case l16 => k_is)
    (case c16 => k_is)
    (case k16 => k_is)
    (case a17 => k_is)
    (case l17 => k_is)
    (case c17 => k_is)
    (case k17 => k_is)
    (case a18 => k_is)
    (case l18 => k_is)
    (case c18 => k_is)
    (case k18 => k_is)
    (case a19 => k_is)
    (case l19 => k_is)
    (case c19 => k_is)
    (case k19 => k_is)
    (case a20 => k_is)
    (case l20 => k_is)
    (case c20 => k_is)
    (case k20 => k_is)
    (case a21 => k_is)
    (case l21 => k_is)
    (case c21 => k_is)
    (case k21 => k_is)
    (case a22 => k_is)
    (case l22 => k_is)
    (case c22 => k_is)
    (case k22 => k_is)
    (case a23 => k_is)
    (case l23 => k_is)
    (case c23 => k_is)
    (case k23 => k_is)
    (case a24 => k_is)
    (case l24 => k_is)
    (case c24 => k_is)
    (case k24 => k_is)
    (case a25 => k_is)
    (case l25 => k_is)
    (case c25 => k_is)
    (case k25 => k_is)
    (case a26 => k_is)
    (case l26 => k_is)
    (case c26 => k_is)
    (case k26 => k_is)
    (case z_all => k_is)
    (case z_bool => k_is)
    (case z_int => k_is)
    (case z_isinstance => k_is)
    (case z_len => k_is)
    (case z_list => k_is)
    (case z_range => k_is)
    (case z_reversed => k_is)
    (case z_str => k_is)
    (case z_sum => k_is)
    (case z_tuple => k_is)
    (case n_BASICS => k_is)
    (case q_BASICS => k_is)
    (case n_LETTERS => k_is)
    (case n_MOST_LEFT => k_is)
    (case n_MOST_SIGNS => k_is)
    (case n_NUMBERS => k_is)
    (case n_SMALL => k_is)
